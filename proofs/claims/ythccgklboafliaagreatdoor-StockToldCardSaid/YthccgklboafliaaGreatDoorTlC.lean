/- Rules and walks, part 3 of 6. No conditions. -/
import Derived.Carry
import Derived.Conc.LeavingOf
import Derived.LaidMore
import Derived.OpenShut
import Derived.ProofKit
import Derived.Test.YthccgklboafliaaGreatDoorProg
import Derived.Test.YthccgklboafliaaGreatDoorTlA
import Derived.Test.YthccgklboafliaaGreatDoorTlB
set_option linter.unusedVariables false
set_option linter.unusedSimpArgs false
set_option linter.unnecessarySimpa false
set_option linter.unusedSectionVars false
namespace Go.Ns
open Go.Conc
section
variable {P:Program} {E:FJ P} {σ:Nat→Value} {ds:List Deferred} {h:GH} {T:(Nat→Value)→List Deferred→GH→Prop} {dst:Option Nat} {ty:TypeId} {pos:String} {af:Array Edge} {gd:Option (Nat×Bool)}
theorem QA {s:ByteArray} {i:Nat} (h:i<s.size):((s[i]'h).toNat:Int)=(bytesOf s).getD i 0:=by
 have h2:i<(bytesOf s).length:=by rw [CF];exact h
 rw [DO 0 h2];exact (List.getElem_map (l:=s.data.toList) (f:=fun b=>(b.toNat:Int)) (h:=h2)).symm
theorem K9 {t:TypeId} {x ix:Operand} {s:ByteArray} {kd:IntKind} {i:Int} (ht:KK P t=true) (hx:AT σ x=.string s) (hi:AT σ ix=.int kd i) (h0:0≤i) (h1:i<s.size) (k:T (putS σ dst (.int .u8 ((bytesOf s).getD i.toNat 0))) ds h) :
  BY E ⟨dst,.index t x ix,ty,pos,af,gd⟩ σ ds h T:=MB ht hx hi h0 h1 (by rw [QA];exact k)
end
theorem Or {s:ByteArray} (h:¬(1≤(s.size:Int)∧(s.size:Int)≤10)):C3 s=false:=by unfold C3;rw [decide_eq_false h,Bool.and_false]
def C1 (d:Int) (gs:List Good) (c:AJ):Int:=if¬(0≤c.good∧c.good≤(gs.length:Int)-1) then 6 else if¬(0≤c.day∧c.day≤d)∨¬((0≤c.low∧c.low≤c.high)∧c.high≤999) then 1 else 0
section
variable {d m:Int} {gs:List Good} {ms:List AB} {cs:List AJ}
theorem Fs:AR d m gs ms cs=if DT d m=0 then (if BN gs=0 then (if BD d gs ms=0 then (if Bt d gs cs=0 then 0 else Bt d gs cs) else BD d gs ms) else BN gs) else DT d m:=rfl
theorem V5 (h:¬(1≤d∧d≤99)∨¬(0≤m∧m≤2)):AR d m gs ms cs=1:=by
 have e:DT d m=1:=if_pos h;rw [Fs,e,if_neg (by decide)]
theorem TG (h:(1≤d∧d≤99)∧(0≤m∧m≤2)):DT d m=0:=if_neg (by omega)
theorem V6 (h0:(1≤d∧d≤99)∧(0≤m∧m≤2)) (h:¬BN gs=0):AR d m gs ms cs=BN gs:=by rw [Fs,if_pos (TG h0),if_neg h]
theorem V7 (h0:(1≤d∧d≤99)∧(0≤m∧m≤2)) (h:¬¬BN gs=0) (h2:¬BD d gs ms=0):AR d m gs ms cs=BD d gs ms:=by rw [Fs,if_pos (TG h0),if_pos (Decidable.not_not.1 h),if_neg h2]
theorem Vf (h0:(1≤d∧d≤99)∧(0≤m∧m≤2)) (h:¬¬BN gs=0) (h2:¬¬BD d gs ms=0) {c:Int} (h3:Bt d gs cs=c):AR d m gs ms cs=c:=by
 rw [Fs,if_pos (TG h0),if_pos (Decidable.not_not.1 h),if_pos (Decidable.not_not.1 h2),h3];by_cases e:c=0
 ·rw [if_pos e,e]
 ·rw [if_neg e]
theorem QB (h:(4:Int)<cs.length):Bt d gs cs=2:=if_pos h
theorem QC {k:Nat} (h:¬(4:Int)<cs.length) (hs:∀j,j<k→EK d gs cs j=0) (hk:k<cs.length) (e:¬C1 d gs (cs.getD k AJ.z)=0):Bt d gs cs=C1 d gs (cs.getD k AJ.z):=by
 unfold Bt;rw [if_neg h];exact BK hs hk rfl e
theorem QD {k:Nat} (h:¬(4:Int)<cs.length) (hs:∀j,j<k→EK d gs cs j=0) (hk:cs.length≤k):Bt d gs cs=0:=by
 unfold Bt;rw [if_neg h];exact B2 hs hk
theorem LA {k:Nat} (h:0<k):Cg ms k=(ms.getD ((k:Int)-1).toNat AB.z).day:=by
 unfold Cg;rw [if_neg (by omega),show ((k:Int)-1).toNat=k-1 by omega]
theorem V8 {k:Nat} (h:(ms.getD k AB.z).kind<0∨4<(ms.getD k AB.z).kind):Cm d gs ms k=1:=by unfold Cm;rw [if_pos (by omega)]
theorem V9 {k:Nat} (h0:¬((ms.getD k AB.z).kind<0∨4<(ms.getD k AB.z).kind)) (h:¬(0≤(ms.getD k AB.z).good∧(ms.getD k AB.z).good≤(gs.length:Int)-1)):Cm d gs ms k=6:=by unfold Cm;rw [if_neg (by omega),if_pos h]
theorem WA {k:Nat} (h0:¬((ms.getD k AB.z).kind<0∨4<(ms.getD k AB.z).kind)) (h1:¬¬(0≤(ms.getD k AB.z).good∧(ms.getD k AB.z).good≤(gs.length:Int)-1)) (h:¬(1≤(ms.getD k AB.z).day∧(ms.getD k AB.z).day≤d)):Cm d gs ms k=1:=by
 unfold Cm;rw [if_neg (by omega),if_neg h1,if_pos h]
theorem WB {k:Nat} (h0:¬((ms.getD k AB.z).kind<0∨4<(ms.getD k AB.z).kind)) (h1:¬¬(0≤(ms.getD k AB.z).good∧(ms.getD k AB.z).good≤(gs.length:Int)-1)) (h2:¬¬(1≤(ms.getD k AB.z).day∧(ms.getD k AB.z).day≤d)) (hk:(0:Int)<(k:Int))
  (h:(ms.getD k AB.z).day<(ms.getD ((k:Int)-1).toNat AB.z).day):Cm d gs ms k=7:=by
 unfold Cm;rw [if_neg (by omega),if_neg h1,if_neg h2,LA (by omega),if_pos h]
theorem Vx {k:Nat} (h0:¬((ms.getD k AB.z).kind<0∨4<(ms.getD k AB.z).kind)) (h1:¬¬(0≤(ms.getD k AB.z).good∧(ms.getD k AB.z).good≤(gs.length:Int)-1)) (h2:¬¬(1≤(ms.getD k AB.z).day∧(ms.getD k AB.z).day≤d)) {c:Int}
  (h3:(0:Int)<(k:Int)→¬(ms.getD k AB.z).day<(ms.getD ((k:Int)-1).toNat AB.z).day) (h4:(if¬CH (ms.getD k AB.z).low (ms.getD k AB.z).high then (1:Int) else 0)=c):Cm d gs ms k=c:=by
 have e:¬(ms.getD k AB.z).day<Cg ms k:=by
  by_cases hk:0<k
  ·rw [LA hk];exact h3 (by omega)
  ·have:=Decidable.not_not.1 h2
   unfold Cg;rw [if_pos (by omega)];omega
 unfold Cm;rw [if_neg (by omega),if_neg h1,if_neg h2,if_neg e,h4]
theorem WC {k:Nat} (h:C3 (gs.getD k Good.z).name=false):D6 gs k=4:=by unfold D6;rw [if_pos h]
theorem WD {k j:Nat} (h0:C3 (gs.getD k Good.z).name=true) (hj:(j:Int)<(k:Int)) (hk:(k:Int)<gs.length) (h:((gs.getD j Good.z).name.toList==(gs.getD k Good.z).name.toList)=true):D6 gs k=5:=by
 unfold D6;rw [if_neg (by rw [h0];decide),if_pos];rw [List.any_eq_true];refine ⟨gs.getD j Good.z,?_,h⟩;rw [DO Good.z (show j<gs.length by omega)];exact List.mem_take_iff_getElem.2 ⟨j,by omega,rfl⟩
theorem Vy {k j:Nat} (h0:C3 (gs.getD k Good.z).name=true) (hj:j≤k) (hj':¬(j:Int)<(k:Int)) (h:(gs.take j).any (fun x=>x.name.toList==(gs.getD k Good.z).name.toList)=false) {c:Int}
  (hc:(if (¬(0≤(gs.getD k Good.z).cost∧(gs.getD k Good.z).cost≤999)∨¬(1≤(gs.getD k Good.z).pack∧(gs.getD k Good.z).pack≤20))∨¬CH (gs.getD k Good.z).low (gs.getD k Good.z).high then (1:Int) else 0)=c):D6 gs k=c:=by
 obtain rfl:j=k:=by omega
 unfold D6;rw [if_neg (by rw [h0];decide),if_neg (by rw [h];decide),hc]
def Dc (gs:List Good) (ms:List AB) (cs:List AJ):Bool:=decide ((20:Int)<gs.length) || decide ((20:Int)<ms.length) || decide ((20:Int)<cs.length) || gs.any fun x=>decide ((100:Int)<x.name.size)
theorem Rr (h:((20:Int)<gs.length∨(20:Int)<ms.length)∨(20:Int)<cs.length):Dc gs ms cs=true:=by
 unfold Dc;rcases h with (h | h) | h <;> simp [h]
theorem Rs {k:Nat} (hk:k<gs.length) (h:(100:Int)<(gs.getD k Good.z).name.size):Dc gs ms cs=true:=by
 unfold Dc;rw [Bool.or_eq_true];right;rw [List.any_eq_true];exact ⟨_,CX hk,decide_eq_true h⟩
theorem Ru {k:Nat} (h:¬(20:Int)<gs.length) (h2:¬(20:Int)<ms.length) (h3:¬(20:Int)<cs.length) (hk:gs.length≤k) (hs:∀j,j<k→¬(100:Int)<(gs.getD j Good.z).name.size):Dc gs ms cs=false:=by
 unfold Dc;rw [decide_eq_false h,decide_eq_false h2,decide_eq_false h3];simp only [Bool.false_or];rw [List.any_eq_false];intro x hx;obtain ⟨i,hi,rfl⟩:=List.getElem_of_mem hx
 have:=hs i (by omega)
 rw [DO Good.z hi] at this;simpa using this
theorem Ot (h:Dc gs ms cs=false):∀k,(gs.getD k Good.z).name.size≤1000:=by
 unfold Dc at h;rw [Bool.or_eq_false_iff] at h;intro k;by_cases hk:k<gs.length
 ·have:=List.any_eq_false.1 h.2 _ (CX (d:=Good.z) hk)
  have:=of_decide_eq_false (Bool.eq_false_iff.2 this)
  omega
 ·rw [Dx (by omega)];decide
theorem I2 (h:(!Dc gs ms cs)=true):∀k,(gs.getD k Good.z).name.size≤1000:=Ot (by simpa using h)
def LB (d m:Int) (gs:List Good) (ms:List AB) (cs:List AJ):Bool:= !Dc gs ms cs && decide (AR d m gs ms cs=0)
end
theorem Bl.cons {h:GH} {l:List Sl} {v:Value} {xs:List Int} (a:AK h v 1 eI xs) (b:Bl h l):Bl h ((v,xs) ::l):=fun k=>by
 cases k with
 | zero=>exact a
 | succ k=>exact b k
theorem QE {a b:List Sl} {k:Nat} (h:(Br a).take k=(Br b).take k) (ha:k<a.length) (hb:k<b.length) (e:(a.getD k Sl.z).2=(b.getD k Sl.z).2):(Br a).take (k+1)=(Br b).take (k+1):=
 KZ [] h (by rw [CU];exact ha) (by rw [CU];exact hb) (by rw [D7 ha,D7 hb,e])
theorem Rv {a b:List Sl} {k:Nat} (h:(Br a).take k=(Br b).take k) (hk:¬(k:Int)<a.length) (hl:(a.length:Int)=b.length):Br a=Br b:=by
 rw [List.take_of_length_le (by rw [CU];omega),List.take_of_length_le (by rw [CU];omega)] at h;exact h
theorem TH {a b:List Sl} (h:¬(a.length:Int)=b.length):¬Br a=Br b:=fun e=>h (by rw [←CU,←CU,e])
theorem QF {a b:List Sl} {k:Nat} (ha:k<a.length) (hb:k<b.length) (e:¬(a.getD k Sl.z).2=(b.getD k Sl.z).2):¬Br a=Br b:=fun q=>e (by rw [←D7 ha,←D7 hb,q])
end Go.Ns
namespace Go.Ns
open Go.Conc
def Ch:List Good:=[⟨⟨#[116,101,97]⟩,5,4,3,3⟩,⟨⟨#[114,105,99,101]⟩,2,10,5,6⟩]
def Co:List AB:=[⟨0,0,2,4,4⟩,⟨1,0,3,2,3⟩,⟨2,1,4,0,1⟩,⟨0,1,5,10,10⟩]
def Cp:List AJ:=[⟨0,10,4,5⟩,⟨1,10,5,5⟩]
theorem DH:∀k,(Ch.getD k Good.z).name.size≤1000
 | 0=>by decide
 | 1=>by decide
 | k+2=>by rw [Dx (by simp [Ch])];decide
theorem TJ {v0 v1 v2 v3 v4 v5 v6:Value} (h0:v0.cells=#[v0]) (h1:v1.cells=#[v1]) (h2:v2.cells=#[v2]) (h3:v3.cells=#[v3]) (h4:v4.cells=#[v4]) (h5:v5.cells=#[v5]) (h6:v6.cells=#[v6]):Instr.fill (fun i=>some (i*1,1)) ((Array.range (7*1)).map (#[Value.slice none 0 0][·% #[Value.slice none 0 0].size]!)) [(0,v0),(1,v1),(2,v2),(3,v3),(4,v4),(5,v5),(6,v6)]=some #[v0,v1,v2,v3,v4,v5,v6]:=by
 have e:((Array.range (7*1)).map (#[Value.slice none 0 0][·% #[Value.slice none 0 0].size]!))=#[Value.slice none 0 0,Value.slice none 0 0,Value.slice none 0 0,Value.slice none 0 0,Value.slice none 0 0,Value.slice none 0 0,Value.slice none 0 0]:=by kernel_rfl
 rw [e];simp [Instr.fill,h0,h1,h2,h3,h4,h5,h6]
theorem AK.isSl {α:Type} {h:GH} {v:Value} {n:Nat} {enc:α→Array Value} {xs:List α} (x:AK h v n enc xs):∀k i,v≠.int k i:=by
 obtain ⟨a,cap,rfl,_⟩:=x;intro k i e;cases e
theorem AK.across {h h':GH} {v:Value} {xs:List Int} {r:Nat} {a b c:Value} {T:TypeId} (x:AK h v 1 eI xs) (hb:h r=some (true,.cells #[.int .i64 10,.int .i64 1,a,b,c] T (0,0))) (ho:∀y,y≠r→h' y=h y)
  (ha:∀k i,a≠.int k i) (hb':∀k i,b≠.int k i) (hc:∀k i,c≠.int k i) (hx:∀o,o<5→∃i:Fin xs.length,(o+i.val=0→xs[i.val]≠10)∧(o+i.val=1→xs[i.val]≠1)):AK h' v 1 eI xs:=by
 obtain ⟨ad,cap,hv,hcap,hm,he⟩:=x;refine ⟨ad,cap,hv,hcap,hm,fun i hi=>?_⟩;obtain ⟨y,off,h1,h2⟩:=he i hi;refine ⟨y,off,h1,h2.same (ho y ?_)⟩;rintro rfl;have key:∀j (hj:j<xs.length),off+j<5∧(#[Value.int .i64 10,.int .i64 1,a,b,c]:Array Value).extract (off+j) (off+j+1)=eI xs[j]:=fun j hj=>by
  obtain ⟨y2,off2,h3,h4⟩:=he j hj;rw [h1] at h3;simp only [Option.some.injEq,Addr.mk.injEq,and_true] at h3;obtain ⟨rfl,rfl⟩:=h3;obtain ⟨p,cc,t,f,q1,q2,q3⟩:=h4;rw [hb] at q1;simp only [Option.some.injEq,Prod.mk.injEq,Obj.cells.injEq] at q1;obtain ⟨_,rfl,_⟩:=q1;rw [Nat.mul_one] at q2 q3;exact ⟨by simp at q2;omega,q3⟩
 obtain ⟨⟨j,hj⟩,e0,e1⟩:=hx off (by have:=(key i hi).1;omega);obtain ⟨k1,k2⟩:=key j hj;simp only at e0 e1;generalize off+j=o at k1 k2 e0 e1;generalize xs[j]=z at k2 e0 e1
 have:o=0∨o=1∨o=2∨o=3∨o=4:=by omega
 rcases this with rfl | rfl | rfl | rfl | rfl
 ·have k3:(#[.int .i64 10]:Array Value)=#[.int .i64 z]:=k2;simp at k3;exact e0 rfl k3.symm
 ·have k3:(#[.int .i64 1]:Array Value)=#[.int .i64 z]:=k2;simp at k3;exact e1 rfl k3.symm
 ·have k3:(#[a]:Array Value)=#[.int .i64 z]:=k2;simp at k3;exact ha _ _ k3
 ·have k3:(#[b]:Array Value)=#[.int .i64 z]:=k2;simp at k3;exact hb' _ _ k3
 ·have k3:(#[c]:Array Value)=#[.int .i64 z]:=k2;simp at k3;exact hc _ _ k3
def CZ (d m:Int) (gs:List Good) (ms:List AB) (cs:List AJ):Int:=if AR d m gs ms cs=0 then ((AP d gs ms cs m).length:Int) else 0
end Go.Ns
namespace Go.Ns
open Go.Conc
section
variable {P:Program} {E:FJ P} {σ:Nat→Value} {ds:List Deferred} {h:GH} {T:(Nat→Value)→List Deferred→GH→Prop} {dst:Option Nat} {ty:TypeId} {pos:String} {af:Array Edge} {gd:Option (Nat×Bool)}
end
section
variable {d m:Int} {gs:List Good} {ms:List AB} {cs:List AJ} {f y l:List Int}
theorem U1 (h:LB d m gs ms cs=true):BL d m gs ms cs∧∀k,(gs.getD k Good.z).name.size≤1000:=by
 unfold LB at h;rw [Bool.and_eq_true] at h;exact ⟨FO (of_decide_eq_true h.2),I2 h.1⟩
end
end Go.Ns
namespace Go.Ns
open Go.Conc
section
variable {P:Program} {E:FJ P} {σ:Nat→Value} {ds:List Deferred} {h:GH} {T:(Nat→Value)→List Deferred→GH→Prop} {dst:Option Nat} {ty:TypeId} {pos:String} {af:Array Edge} {gd:Option (Nat×Bool)}
end
end Go.Ns
namespace Go.Ns
open Go.Conc Go Go.RowKit
section
variable {d m:Int} {gs:List Good} {ms:List AB} {cs:List AJ}
end
section
variable {P:Program} {E:FJ P} {σ:Nat→Value} {ds:List Deferred} {h:GH} {T:(Nat→Value)→List Deferred→GH→Prop} {dst:Option Nat} {ty:TypeId} {pos:String} {af:Array Edge} {gd:Option (Nat×Bool)}
end
end Go.Ns
namespace Go.Ns
open Go.Conc Go Go.RowKit
theorem F5 {p q:AQ}:∀{n:Nat},(∀k,k<n→p.lies k=q.lies k)→Aq p n=Aq q n
 | 0,_=>rfl
 | n+1,h=>by unfold Aq;rw [F5 fun k hk=>h k (by omega),h n (by omega)]
theorem Gr (p:AQ):∀{i n:Nat},i≤n→Aq p i≤Aq p n
 | i,0,h=>by rw [show i=0 by omega];exact Nat.le_refl _
 | i,n+1,h=>by
  by_cases e:i=n+1
  ·rw [e];exact Nat.le_refl _
  ·have:=Gr p (i:=i) (n:=n) (by omega)
   have h2:Aq p (n+1)=Aq p n+if p.lies n then 1 else 0:=rfl
   omega
theorem HM {p:AQ}:∀{i n:Nat},(∀k,i≤k→k<n→p.lies k=false)→i≤n→Aq p n=Aq p i
 | i,0,_,h=>by rw [show i=0 by omega]
 | i,n+1,h0,h=>by
  by_cases e:i=n+1
  ·rw [e]
  ·have h2:Aq p (n+1)=Aq p n+if p.lies n then 1 else 0:=rfl
   rw [h2,h0 n (by omega) (by omega),HM (fun k hk hk'=>h0 k hk (by omega)) (by omega)];rfl
theorem Jr {p:AQ} {i:Nat} {n:Int} (h:p.lies i=false):∀k,Aq (p.setMove i n true) k=Aq p k+if i<k then 1 else 0
 | 0=>rfl
 | k+1=>by
  have h1:Aq (p.setMove i n true) (k+1)=Aq (p.setMove i n true) k+if (p.setMove i n true).lies k then 1 else 0:=rfl
  have h2:Aq p (k+1)=Aq p k+if p.lies k then 1 else 0:=rfl
  have h3:(p.setMove i n true).lies k=if k=i then true else p.lies k:=rfl
  rw [h1,h2,h3,Jr h k];by_cases e:k=i
  ·subst e;have e3:¬k<k:=by omega
   have e4:k<k+1:=by omega
   simp [h,e3,e4]
  ·rw [if_neg e];by_cases e2:i<k
   ·have e4:i<k+1:=by omega
    simp only [e2,e4,if_true];omega
   ·have e4:¬i<k+1:=by omega
    simp only [e2,e4,if_false];omega
structure RE (gs:List Good) (ms:List AB) (mo:Int) (p:AQ):Prop where
 first:∀i,i<gs.length→(gs.getD i Good.z).low≤p.first i∧p.first i≤(gs.getD i Good.z).high
 many:∀i,i<ms.length→(ms.getD i AB.z).low≤p.many i∧p.many i≤(ms.getD i AB.z).high
 note:∀i,i<ms.length→p.lies i=true→Cy ms i=true
 few:(Aq p ms.length:Int)≤mo
theorem F6 {ag:AQ→Bool} {ms:List AB} {mo:Int} (h6:ms.length≤6):∀(f i:Nat) (p q:AQ),i+f=ms.length→(∀k,i≤k→p.lies k=false)→(Aq p 6:Int)≤mo→q ∈ Ao ag ms mo f i p→
  ag q=true∧q.first=p.first∧(∀k,k<i→q.many k=p.many k∧q.lies k=p.lies k)∧(∀k,i≤k→k<ms.length→(ms.getD k AB.z).low≤q.many k∧q.many k≤(ms.getD k AB.z).high∧(q.lies k=true→Cy ms k=true))∧(Aq q 6:Int)≤mo
 | 0,i,p,q,e,_,hl,h=>by
  unfold Ao at h;split at h
  ·rename_i ha
   rw [List.mem_singleton] at h;subst h;exact ⟨ha,rfl,fun _ _=>⟨rfl,rfl⟩,fun k h1 h2=>by omega,hl⟩
  ·cases h
 | f+1,i,p,q,e,hz,hl,h=>by
  rw [B1,List.mem_flatMap] at h;obtain ⟨n,hn,h⟩:=h;rw [FG] at hn;have hlf:∀k,i+1≤k→(p.setMove i n false).lies k=false:=fun k hk=>by
   show (if k=i then false else p.lies k)=false;split
   ·rfl
   ·exact hz k (by omega)
  have hcf:Aq (p.setMove i n false) 6=Aq p 6:=F5 fun k _=>by
   show (if k=i then false else p.lies k)=p.lies k;split
   ·rename_i e2;rw [e2,hz i (Nat.le_refl _)]
   ·rfl
  unfold BO at h;rw [List.mem_append] at h;rcases h with h | h
  ·obtain ⟨a1,a2,a3,a4,a5⟩:=F6 h6 f (i+1) _ q (by omega) hlf (by rw [hcf];exact hl) h;refine ⟨a1,a2,fun k hk=>?_,fun k h1 h2=>?_,a5⟩
   ·have:=a3 k (by omega)
    rw [this.1,this.2];exact ⟨show (if k=i then n else p.many k)=_ from if_neg (by omega),show (if k=i then false else p.lies k)=_ from if_neg (by omega)⟩
   ·by_cases e2:k=i
    ·subst e2
     have:=a3 k (by omega)
     have g1:(p.setMove k n false).many k=n:=if_pos rfl;have g2:(p.setMove k n false).lies k=false:=if_pos rfl;rw [this.1,this.2,g1,g2];exact ⟨hn.1,hn.2,fun q=>by cases q⟩
    ·exact a4 k (by omega) h2
  ·split at h
   ·rename_i hc
    rw [Bool.and_eq_true] at hc;have hlt:=of_decide_eq_true hc.2;have hct:Aq (p.setMove i n true) 6=Aq p 6+1:=by rw [Jr (hz i (Nat.le_refl _)),if_pos (by omega)]
    have hlt2:∀k,i+1≤k→(p.setMove i n true).lies k=false:=fun k hk=>by
     show (if k=i then true else p.lies k)=false;rw [if_neg (by omega)];exact hz k (by omega)
    obtain ⟨a1,a2,a3,a4,a5⟩:=F6 h6 f (i+1) _ q (by omega) hlt2 (by rw [hct];omega) h;refine ⟨a1,a2,fun k hk=>?_,fun k h1 h2=>?_,a5⟩
    ·have:=a3 k (by omega)
     rw [this.1,this.2];exact ⟨show (if k=i then n else p.many k)=_ from if_neg (by omega),show (if k=i then true else p.lies k)=_ from if_neg (by omega)⟩
    ·by_cases e2:k=i
     ·subst e2
      have:=a3 k (by omega)
      have g1:(p.setMove k n true).many k=n:=if_pos rfl;rw [this.1,g1];exact ⟨hn.1,hn.2,fun _=>hc.1⟩
     ·exact a4 k (by omega) h2
   ·cases h
theorem H0 {ag:AQ→Bool} {gs:List Good} {ms:List AB} {mo:Int} (h6:ms.length≤6) (h0:0≤mo):∀(f i:Nat) (p q:AQ),i+f=gs.length→(∀k,p.lies k=false)→q ∈ A6 ag gs ms mo f i p→
  ag q=true∧(∀k,k<i→q.first k=p.first k)∧(∀k,i≤k→k<gs.length→(gs.getD k Good.z).low≤q.first k∧q.first k≤(gs.getD k Good.z).high)∧(∀k,k<ms.length→(ms.getD k AB.z).low≤q.many k∧q.many k≤(ms.getD k AB.z).high∧(q.lies k=true→Cy ms k=true))∧(Aq q 6:Int)≤mo
 | 0,i,p,q,e,hz,h=>by
  have hl:(Aq p 6:Int)≤mo:=by
   rw [HM (i:=0) (fun k _ _=>hz k) (Nat.zero_le _)];exact h0
  obtain ⟨a1,a2,_,a4,a5⟩:=F6 h6 ms.length 0 p q (by omega) (fun k _=>hz k) hl h;exact ⟨a1,fun k _=>by rw [a2],fun k h1 h2=>by omega,fun k hk=>a4 k (Nat.zero_le _) hk,a5⟩
 | f+1,i,p,q,e,hz,h=>by
  rw [CI,List.mem_flatMap] at h;obtain ⟨n,hn,h⟩:=h;rw [FG] at hn;obtain ⟨a1,a2,a3,a4,a5⟩:=H0 h6 h0 f (i+1) (p.setFirst i n) q (by omega) hz h;refine ⟨a1,fun k hk=>?_,fun k h1 h2=>?_,a4,a5⟩
  ·rw [a2 k (by omega)];exact if_neg (by omega)
  ·by_cases e2:k=i
   ·subst e2;rw [a2 k (by omega)];have g1:(p.setFirst k n).first k=n:=if_pos rfl;rw [g1];exact hn
   ·exact a3 k (by omega) h2
theorem MX {d:Int} {gs:List Good} {ms:List AB} {cs:List AJ} {mo:Int} (h6:ms.length≤6) (h0:0≤mo) {q:AQ} (h:q ∈ AP d gs ms cs mo):RE gs ms mo q∧A2 d gs.length ms cs q=true:=by
 obtain ⟨a1,_,a3,a4,a5⟩:=H0 h6 h0 gs.length 0 AQ.zero q (by omega) (fun _=>rfl) h;refine ⟨⟨fun i hi=>a3 i (Nat.zero_le _) hi,fun i hi=>⟨(a4 i hi).1,(a4 i hi).2.1⟩,fun i hi=>(a4 i hi).2.2,?_⟩,a1⟩
 have:=Gr q h6
 omega
def G4 (p:AQ) (i j:Nat):AQ:=⟨fun k=>if k<i then p.first k else 0,fun k=>if k<j then p.many k else 0,fun k=>if k<j then p.lies k else false⟩
theorem MY (p:AQ) (i j:Nat):(G4 p i j).setMove j (p.many j) (p.lies j)=G4 p i (j+1):=by
 unfold G4 AQ.setMove AQ.setMany AQ.setLie;congr 1
 ·funext k;show (if k=j then p.many j else if k<j then p.many k else 0)=if k<j+1 then p.many k else 0
  by_cases e:k=j
  ·rw [if_pos e,e,if_pos (by omega)]
  ·rw [if_neg e];by_cases e2:k<j
   ·rw [if_pos e2,if_pos (by omega)]
   ·rw [if_neg e2,if_neg (by omega)]
 ·funext k;show (if k=j then p.lies j else if k<j then p.lies k else false)=if k<j+1 then p.lies k else false
  by_cases e:k=j
  ·rw [if_pos e,e,if_pos (by omega)]
  ·rw [if_neg e];by_cases e2:k<j
   ·rw [if_pos e2,if_pos (by omega)]
   ·rw [if_neg e2,if_neg (by omega)]
theorem QG (p:AQ) (i:Nat):(G4 p i 0).setFirst i (p.first i)=G4 p (i+1) 0:=by
 unfold G4 AQ.setFirst;congr 1;funext k;show (if k=i then p.first i else if k<i then p.first k else 0)=if k<i+1 then p.first k else 0
 by_cases e:k=i
 ·rw [if_pos e,e,if_pos (by omega)]
 ·rw [if_neg e];by_cases e2:k<i
  ·rw [if_pos e2,if_pos (by omega)]
  ·rw [if_neg e2,if_neg (by omega)]
theorem I3 {ag:AQ→Bool} {gs:List Good} {ms:List AB} {mo:Int} (h6:ms.length≤6) {p:AQ} (L:RE gs ms mo p) (ha:ag (G4 p gs.length ms.length)=true):∀(f i:Nat),i+f=ms.length→G4 p gs.length ms.length ∈ Ao ag ms mo f i (G4 p gs.length i)
 | 0,i,e=>by
  rw [show i=ms.length by omega];unfold Ao;rw [if_pos ha];exact List.mem_singleton.2 rfl
 | f+1,i,e=>by
  rw [B1,List.mem_flatMap];refine ⟨p.many i,FG.2 (L.many i (by omega)),?_⟩;have ih:=I3 h6 L ha f (i+1) (by omega);unfold BO;rw [List.mem_append];cases hli:p.lies i with
  | false=>
   left
   have:=MY p gs.length i
   rw [hli] at this;rw [this];exact ih
  | true=>
   right;have hlie:Aq ((G4 p gs.length i).setMove i (p.many i) false) 6=Aq p i:=by
    rw [HM (i:=i) (fun k h1 h2=>?_) (by omega)]
    ·refine F5 fun k hk=>?_;show (if k=i then false else if k<i then p.lies k else false)=_;rw [if_neg (by omega),if_pos hk]
    ·show (if k=i then false else if k<i then p.lies k else false)=_;split
     ·rfl
     ·rw [if_neg (by omega)]
   have h1:Aq p (i+1)=Aq p i+1:=by
    show Aq p i+(if p.lies i then 1 else 0)=_;rw [hli];rfl
   have h2:=Gr p (i:=i+1) (n:=ms.length) (by omega);have h3:=L.few;rw [if_pos (by rw [Bool.and_eq_true];exact ⟨L.note i (by omega) hli,decide_eq_true (by rw [hlie];omega)⟩)]
   have:=MY p gs.length i
   rw [hli] at this;rw [this];exact ih
theorem I4 {ag:AQ→Bool} {gs:List Good} {ms:List AB} {mo:Int} (h6:ms.length≤6) {p:AQ} (L:RE gs ms mo p) (ha:ag (G4 p gs.length ms.length)=true):∀(f i:Nat),i+f=gs.length→G4 p gs.length ms.length ∈ A6 ag gs ms mo f i (G4 p i 0)
 | 0,i,e=>by
  rw [show i=gs.length by omega];exact I3 h6 L ha ms.length 0 (by omega)
 | f+1,i,e=>by
  rw [CI,List.mem_flatMap];refine ⟨p.first i,FG.2 (L.first i (by omega)),?_⟩;rw [QG];exact I4 h6 L ha f (i+1) (by omega)
theorem H1 {ms ms':List AB} {p p':AQ} {g dy:Int} (hlen:ms.length=ms'.length) (hm:∀k,(ms.getD k AB.z).day=(ms'.getD k AB.z).day∧(ms.getD k AB.z).good=(ms'.getD k AB.z).good∧(ms.getD k AB.z).kind=(ms'.getD k AB.z).kind)
  (hr:∀k,k<ms.length→Bu p k=Bu p' k):∀(f k:Nat) (n low:Int),k+f=ms.length→CY ms p g dy f k n low=CY ms' p' g dy f k n low
 | 0,_,_,_,_=>rfl
 | f+1,k,n,low,e=>by
  unfold CY;rw [(hm k).1];have h1:E2 ms p g k n=E2 ms' p' g k n:=by unfold E2;rw [(hm k).2.1,(hm k).2.2,hr k (by omega)]
  have h2:∀n,D1 ms k low n=D1 ms' k low n:=fun n=>by unfold D1;rw [(hm k).1,(hm (k+1)).1,hlen]
  rw [h1,h2,H1 hlen hm hr f (k+1) _ _ (by omega)]
theorem NY {ms ms':List AB} {p p':AQ} {g dy:Int} (hlen:ms.length=ms'.length) (hm:∀k,(ms.getD k AB.z).day=(ms'.getD k AB.z).day∧(ms.getD k AB.z).good=(ms'.getD k AB.z).good∧(ms.getD k AB.z).kind=(ms'.getD k AB.z).kind)
  (hr:∀k,k<ms.length→Bu p k=Bu p' k) (hf:p.first g.toNat=p'.first g.toNat):AM ms p g dy=AM ms' p' g dy:=by
 unfold AM;rw [hf,←hlen];exact H1 hlen hm hr _ _ _ _ (by omega)
theorem QH {d:Int} {ng:Nat} {ms ms':List AB} {cs:List AJ} {p p':AQ} (h:A2 d ng ms cs p=true) (h1:∀j,j<ng→(AM ms' p' (j:Int) d).2=(AM ms p (j:Int) d).2) (h2:∀x ∈ cs,(AM ms' p' x.good x.day).1=(AM ms p x.good x.day).1):A2 d ng ms' cs p'=true:=by
 unfold A2 at h ⊢;rw [Bool.and_eq_true] at h ⊢;refine ⟨decide_eq_true fun j hj=>by rw [h1 j hj];exact of_decide_eq_true h.1 j hj,?_⟩;have h3:=h.2;rw [Bool.not_eq_true',List.any_eq_false] at h3 ⊢;intro x hx
 have:=h3 x hx
 rw [h2 x hx];exact this
end Go.Ns
namespace Go.Ns
open Go.Conc
theorem HN {x:Int}:∀(l acc:List Int),x ∈ acc∨x ∈ l→x ∈ l.foldl E3 acc
 | [],acc,h=>h.elim id fun h=>by cases h
 | y ::l,acc,h=>by
  refine HN l _ ?_;unfold E3;rcases h with h | h
  ·left;split
   ·exact h
   ·exact List.mem_append_left _ h
  ·rcases List.mem_cons.1 h with rfl | h
   ·left;split
    ·rename_i e;exact List.mem_of_getLast? e
    ·exact List.mem_append_right _ (List.mem_singleton.2 rfl)
   ·exact .inr h
theorem G0:∀(l acc:List Int),l.Pairwise (·≤·)→acc.Pairwise (· < ·)→(∀a ∈ acc,∀x ∈ l,a≤x)→(l.foldl E3 acc).Pairwise (· < ·)
 | [],_,_,h,_=>h
 | y ::l,acc,hl,ha,hx=>by
  rw [List.pairwise_cons] at hl;refine G0 l _ hl.2 ?_ ?_
  ·unfold E3;split
   ·exact ha
   ·rename_i hne
    rw [List.pairwise_append];refine ⟨ha,List.pairwise_singleton ..,fun a ha' b hb=>?_⟩;rw [List.mem_singleton] at hb;subst hb;have h1:=hx a ha' b List.mem_cons_self;rcases Int.lt_or_eq_of_le h1 with h2 | h2
    ·exact h2
    ·subst h2;exfalso;obtain ⟨z,hz⟩:∃z,acc.getLast? =some z:=by
      cases hq:acc.getLast? with
      | none=>rw [List.getLast?_eq_none_iff] at hq;subst hq;cases ha'
      | some z=>exact ⟨z,rfl⟩
     have hzm:=List.mem_of_getLast? hz;have h3:=hx z hzm a List.mem_cons_self;have h4:a≤z:=by
      obtain ⟨l0,hl0⟩:∃l0,acc=l0++[z]:=by
       rcases List.eq_nil_or_concat acc with e | ⟨l0,y0,e⟩
       ·subst e;cases hz
       ·subst e;simp at hz;subst hz;exact ⟨l0,by simp⟩
      subst hl0;rcases List.mem_append.1 ha' with q | q
      ·rw [List.pairwise_append] at ha;exact Int.le_of_lt (ha.2.2 a q z (List.mem_singleton.2 rfl))
      ·rw [List.mem_singleton] at q;omega
     exact hne (by rw [hz,show z=a by omega])
  ·intro a ha' x hx';unfold E3 at ha';split at ha'
   ·exact hx a ha' x (List.mem_cons_of_mem _ hx')
   ·rcases List.mem_append.1 ha' with q | q
    ·exact hx a q x (List.mem_cons_of_mem _ hx')
    ·rw [List.mem_singleton] at q;subst q;exact hl.1 x hx'
theorem JU {n:Nat} {f:Nat→Int} {x:Int}:x ∈ Bm n f↔∃i,i<n∧f i=x:=by
 refine ⟨Hf,fun ⟨i,hi,e⟩=>HN _ _ (.inr ?_)⟩;rw [HE];exact List.mem_mergeSort.2 (List.mem_map.2 ⟨i,List.mem_range.2 hi,e⟩)
theorem MZ (n:Nat) (f:Nat→Int):(Bm n f).Pairwise (· < ·):=by
 refine G0 _ _ ?_ List.Pairwise.nil (fun a ha=>by cases ha);rw [HE]
 have:=List.pairwise_mergeSort (le:=fun x y:Int=>decide (x≤y)) (fun a b c h1 h2=>by simp at *;omega) (fun a b=>by simp;omega) ((List.range n).map f)
 exact this.imp fun h=>by simpa using h
theorem Ou {l:List Int} (h:l.Pairwise (· < ·)) {i j:Nat} (hij:i≤j) (hj:j<l.length):l.getD i 0≤l.getD j 0:=by
 rcases Nat.lt_or_eq_of_le hij with q | rfl
 ·rw [DO 0 hj,DO 0 (by omega)];exact Int.le_of_lt (List.pairwise_iff_getElem.1 h i j (by omega) hj q)
 ·exact Int.le_refl _
theorem LC {n:Nat} (f:Nat→Int) (hn:0<n):(∀i,i<n→BM (Bm n f)≤f i∧f i≤B4 (Bm n f))∧(∃i,i<n∧f i=BM (Bm n f))∧∃i,i<n∧f i=B4 (Bm n f):=by
 have hp:=GJ f hn;refine ⟨fun i hi=>?_,Hf (CX (d:=0) hp),Hf (CX (d:=0) (by omega))⟩;obtain ⟨k,hk,e⟩:=List.mem_iff_getElem.1 (JU.2 ⟨i,hi,rfl⟩);have e':(Bm n f).getD k 0=f i:=by rw [DO 0 hk];exact e
 rw [←e'];exact ⟨Ou (MZ n f) (Nat.zero_le _) hk,Ou (MZ n f) (by omega) (by omega)⟩
section
variable {d m:Int} {gs:List Good} {ms:List AB} {cs:List AJ}
theorem TK {o:List Int} (h:∀x ∈ o,x=0):DC (fun k=>o.getD k 0) 0 o.length=0:=B2 (k:=o.length) (fun j hj=>h _ (CX hj)) (Nat.le_refl _)
theorem Ma (b:BL d m gs ms cs) {o:List Int} (h:∀x ∈ o,x=0):AV d m gs ms cs o=if (AP d gs ms cs m).length=0 then 9 else 0:=by
 unfold AV;rw [if_neg (by rw [B8 b];simp),if_neg (by rw [TK h];simp)]
end
end Go.Ns
namespace Go.Ns
open Go.Conc
section
variable {P:Program} {E:FJ P} {σ:Nat→Value} {ds:List Deferred} {h:GH} {T:(Nat→Value)→List Deferred→GH→Prop}
variable {dst:Option Nat} {ty:TypeId} {pos:String} {af:Array Edge} {gd:Option (Nat×Bool)}
end
section
variable {d m:Int} {gs:List Good} {ms:List AB} {cs:List AJ}
end
end Go.Ns
namespace Go.Ns
open Go.Conc
section
variable {d m:Int} {gs:List Good} {ms:List AB} {cs:List AJ}
theorem Mb (b:BL d m gs ms cs) {g r:Int} (hg:0≤g∧g<gs.length) (hr:0≤r∧r≤d):Cz d m gs ms cs g r=if (AP d gs ms cs m).length=0 then 9 else 0:=by
 refine Ma b fun z hz=>?_;rw [if_pos (by simp;omega),if_pos (by simp;omega)] at hz;simp at hz;exact hz
end
end Go.Ns
namespace Go.Ns
open Go.Conc
theorem ER {ag:AQ→Bool} {ms:List AB} {mo:Int}:∀(f i:Nat) (p q:AQ),q ∈ Ao ag ms mo f i p→q.first=p.first∧∀k,k<i→q.many k=p.many k∧q.lies k=p.lies k
 | 0,i,p,q,h=>by
  unfold Ao at h;split at h
  ·rw [List.mem_singleton] at h;subst h;exact ⟨rfl,fun _ _=>⟨rfl,rfl⟩⟩
  ·cases h
 | f+1,i,p,q,h=>by
  rw [B1,List.mem_flatMap] at h;obtain ⟨n,_,h⟩:=h;have key:∀b,q ∈ Ao ag ms mo f (i+1) (p.setMove i n b)→q.first=p.first∧∀k,k<i→q.many k=p.many k∧q.lies k=p.lies k:=fun b hb=>by
   obtain ⟨a1,a2⟩:=ER f (i+1) _ q hb;refine ⟨a1,fun k hk=>?_⟩;obtain ⟨b1,b2⟩:=a2 k (by omega);exact ⟨b1.trans (if_neg (by omega)),b2.trans (if_neg (by omega))⟩
  unfold BO at h;rcases List.mem_append.1 h with h | h
  ·exact key _ h
  ·split at h
   ·exact key _ h
   ·cases h
theorem Ov (lo hi:Int):(EX lo hi).Pairwise (·≠·):=by
 unfold EX Be;rw [List.pairwise_map];exact List.pairwise_lt_range.imp fun h=>by omega
theorem Ez {ag:AQ→Bool} {ms:List AB} {mo:Int}:∀(f i:Nat) (p:AQ),(Ao ag ms mo f i p).Pairwise (·≠·)
 | 0,i,p=>by
  unfold Ao;split
  ·exact List.pairwise_singleton ..
  ·exact List.Pairwise.nil
 | f+1,i,p=>by
  rw [B1,List.pairwise_flatMap];have at1:∀n b q,q ∈ Ao ag ms mo f (i+1) (p.setMove i n b)→q.many i=n∧q.lies i=b:=fun n b q hq=>by
   obtain ⟨b1,b2⟩:=(ER f (i+1) _ q hq).2 i (by omega);exact ⟨b1.trans (if_pos rfl),b2.trans (if_pos rfl)⟩
  have atR:∀n q,q ∈ BO ag ms mo f i p n→q.many i=n:=fun n q hq=>by
   unfold BO at hq;rcases List.mem_append.1 hq with h | h
   ·exact (at1 _ _ _ h).1
   ·split at h
    ·exact (at1 _ _ _ h).1
    ·cases h
  refine ⟨fun n _=>?_,(Ov _ _).imp fun hne x hx y hy e=>hne (by rw [←atR _ x hx,←atR _ y hy,e])⟩;unfold BO;rw [List.pairwise_append];refine ⟨Ez f (i+1) _,?_,fun x hx y hy e=>?_⟩
  ·split
   ·exact Ez f (i+1) _
   ·exact List.Pairwise.nil
  ·split at hy
   ·have h1:=(at1 _ _ _ hx).2;have h2:=(at1 _ _ _ hy).2;rw [e,h2] at h1;cases h1
   ·cases hy
theorem HO {ag:AQ→Bool} {gs:List Good} {ms:List AB} {mo:Int}:∀(f i:Nat) (p q:AQ),q ∈ A6 ag gs ms mo f i p→∀k,k<i→q.first k=p.first k
 | 0,i,p,q,h,k,hk=>by rw [(ER _ _ _ _ h).1]
 | f+1,i,p,q,h,k,hk=>by
  rw [CI,List.mem_flatMap] at h;obtain ⟨n,_,h⟩:=h;exact (HO f (i+1) _ q h k (by omega)).trans (if_neg (by omega))
theorem G1 {ag:AQ→Bool} {gs:List Good} {ms:List AB} {mo:Int}:∀(f i:Nat) (p:AQ),(A6 ag gs ms mo f i p).Pairwise (·≠·)
 | 0,i,p=>Ez _ _ _
 | f+1,i,p=>by
  rw [CI,List.pairwise_flatMap];have at1:∀n q,q ∈ A6 ag gs ms mo f (i+1) (p.setFirst i n)→q.first i=n:=fun n q hq=>(HO f (i+1) _ q hq i (by omega)).trans (if_pos rfl);exact ⟨fun n _=>G1 f (i+1) _,(Ov _ _).imp fun hne x hx y hy e=>hne (by rw [←at1 _ x hx,←at1 _ y hy,e])⟩
theorem Ow (d:Int) (gs:List Good) (ms:List AB) (cs:List AJ) (mo:Int):(AP d gs ms cs mo).Nodup:=G1 _ _ _
theorem H2 {ag:AQ→Bool} {ms:List AB} {mo:Int}:∀(f i:Nat) (p q:AQ),q ∈ Ao ag ms mo f i p→∀k,i+f≤k→q.many k=p.many k∧q.lies k=p.lies k
 | 0,i,p,q,h,k,_=>by
  unfold Ao at h;split at h
  ·rw [List.mem_singleton] at h;subst h;exact ⟨rfl,rfl⟩
  ·cases h
 | f+1,i,p,q,h,k,hk=>by
  rw [B1,List.mem_flatMap] at h;obtain ⟨n,_,h⟩:=h;have key:∀b,q ∈ Ao ag ms mo f (i+1) (p.setMove i n b)→q.many k=p.many k∧q.lies k=p.lies k:=fun b hb=>by
   obtain ⟨b1,b2⟩:=H2 f (i+1) _ q hb k (by omega);exact ⟨b1.trans (if_neg (by omega)),b2.trans (if_neg (by omega))⟩
  unfold BO at h;rcases List.mem_append.1 h with h | h
  ·exact key _ h
  ·split at h
   ·exact key _ h
   ·cases h
theorem H3 {ag:AQ→Bool} {gs:List Good} {ms:List AB} {mo:Int}:∀(f i:Nat) (p q:AQ),q ∈ A6 ag gs ms mo f i p→(∀k,i+f≤k→q.first k=p.first k)∧∀k,ms.length≤k→q.many k=p.many k∧q.lies k=p.lies k
 | 0,i,p,q,h=>⟨fun k _=>by rw [(ER _ _ _ _ h).1],fun k hk=>H2 _ _ _ _ h k (by omega)⟩
 | f+1,i,p,q,h=>by
  rw [CI,List.mem_flatMap] at h;obtain ⟨n,_,h⟩:=h;obtain ⟨a1,a2⟩:=H3 f (i+1) _ q h;exact ⟨fun k hk=>(a1 k (by omega)).trans (if_neg (by omega)),a2⟩
theorem Rw {d:Int} {gs:List Good} {ms:List AB} {cs:List AJ} {mo:Int} {q:AQ} (h:q ∈ AP d gs ms cs mo):G4 q gs.length ms.length=q:=by
 obtain ⟨a1,a2⟩:=H3 _ _ _ _ h;cases q with
 | mk fi ma li=>
  simp only [Nat.zero_add] at a1 a2;unfold G4;congr 1
  ·funext k;by_cases hk:k<gs.length
   ·exact if_pos hk
   ·exact (if_neg hk).trans (a1 k (by omega)).symm
  ·funext k;by_cases hk:k<ms.length
   ·exact if_pos hk
   ·exact (if_neg hk).trans (a2 k (by omega)).1.symm
  ·funext k;by_cases hk:k<ms.length
   ·exact if_pos hk
   ·exact (if_neg hk).trans (a2 k (by omega)).2.symm
theorem Rx (p:AQ):G4 p 0 0=AQ.zero:=by
 unfold G4 AQ.zero;congr 1
theorem Mc {d:Int} {gs:List Good} {ms:List AB} {cs:List AJ} {mo:Int} {q:AQ} (h6:ms.length≤6) (h0:0≤mo) :
  q ∈ AP d gs ms cs mo↔RE gs ms mo q∧A2 d gs.length ms cs q=true∧G4 q gs.length ms.length=q:=
 ⟨fun h=>⟨(MX h6 h0 h).1,(MX h6 h0 h).2,Rw h⟩,fun ⟨L,ha,e⟩=>by
  have h1:=I4 (ag:=A2 d gs.length ms cs) h6 L (by rw [e];exact ha) gs.length 0 (by omega);rw [e,Rx] at h1;exact h1⟩
end Go.Ns
namespace Go.Ns
open Go.Conc
theorem LD {hs:List AQ} {F:AQ→Int} {x:Int}:x ∈ Bm hs.length (fun (i:Nat)=>F (hs.getD ((i:Int)).toNat AQ.zero))↔∃p ∈ hs,F p=x:=by
 rw [JU];constructor
 ·rintro ⟨i,hi,e⟩;exact ⟨_,CX (show ((i:Int)).toNat<hs.length by omega),e⟩
 ·rintro ⟨p,hp,e⟩;obtain ⟨i,hi,e2⟩:=List.getElem_of_mem hp;refine ⟨i,hi,?_⟩;show F (hs.getD ((i:Int)).toNat AQ.zero)=x;rw [show ((i:Int)).toNat=i by omega,DO AQ.zero hi,e2,e]
theorem HP (gs:List Good) (ms:List AB) (p:AQ) (dy:Int):∀k,Bo gs ms p dy k=((List.range k).map fun (i:Nat)=>(gs.getD i Good.z).cost*(AM ms p (i:Int) dy).1).sum
 | 0=>rfl
 | k+1=>by
  unfold Bo;rw [HP gs ms p dy k,List.range_succ,List.map_append,List.sum_append];simp
section
variable {d m:Int} {gs:List Good} {ms:List AB} {cs:List AJ} {t:Nat}
end
section
variable {d m:Int} {gs:List Good} {ms:List AB} {cs:List AJ} {t:Nat}
end
section
variable {d m:Int} {gs:List Good} {ms:List AB} {cs:List AJ} {t:Nat}
theorem LE (b:BL d m gs ms cs) {dy:Int} (hd:0≤dy∧dy≤d):Cj d m gs ms cs dy=if (AP d gs ms cs m).length=0 then 9 else 0:=by
 refine Ma b fun z hz=>?_;rw [if_pos (by simp;omega)] at hz;simp at hz;exact hz
end
section
variable {d m:Int} {gs:List Good} {ms:List AB} {cs:List AJ} {t:Nat}
end
end Go.Ns
namespace Go.Ns
open Go.Conc
def Js (c x:Int):Int:=if c=0 then x else 0
def E0 {α:Type} (c:Int) (l:List α):List α:=if c=0 then l else []
theorem RF {c x:Int} (h:c=0):Js c x=x:=if_pos h
theorem EY {c x:Int} (h:¬c=0):Js c x=0:=if_neg h
theorem Md {α:Type} {c:Int} {l:List α} (h:c=0):E0 c l=l:=if_pos h
theorem DI {α:Type} {c:Int} {l:List α} (h:¬c=0):E0 c l=[]:=if_neg h
def A3 (d m:Int) (gs:List Good) (ms:List AB) (cs:List AJ):Int:=if AR d m gs ms cs=0 then (if Bv d gs ms cs m=true then 0 else 9) else AR d m gs ms cs
theorem C8 (a:ByteArray):(a==a)=true:=by
 cases a with
 | mk d=>show (d==d)=true;simp
def LF (a b:Int):Int:=if a=0 then b else a
theorem NZ {a b:Int} (h:a=0):LF a b=b:=if_pos h
theorem U2 {a b:Int} (h:¬a=0):LF a b=a:=if_neg h
section
variable {d m:Int} {gs:List Good} {ms ms2:List AB} {cs cs2:List AJ}
theorem TL (h:¬AR d m gs ms cs=0):A3 d m gs ms cs=AR d m gs ms cs:=if_neg h
theorem QI (h:AR d m gs ms cs=0) (h2:Bv d gs ms cs m=false):A3 d m gs ms cs=9:=by unfold A3;rw [if_pos h,if_neg (by rw [h2];decide)]
theorem IO (h:AR d m gs ms cs=0) (h2:Bv d gs ms cs m=true):A3 d m gs ms cs=0:=by unfold A3;rw [if_pos h,if_pos h2]
theorem I5 (h:¬AR d m gs ms cs=0):¬A3 d m gs ms cs=0:=by rw [TL h];exact h
theorem I6 (h:AR d m gs ms cs=0) (h2:Bv d gs ms cs m=false):¬A3 d m gs ms cs=0:=by rw [QI h h2];decide
theorem RG {α:Type}:∀{l l1:List α},l.Nodup→(∀x ∈ l,x ∈ l1)→l.length≤l1.length
 | [],_,_,_=>Nat.zero_le _
 | a ::t,l1,hn,hs=>by
  obtain ⟨s,u,rfl⟩:=List.append_of_mem (hs a (List.mem_cons_self ..))
  have:=RG (l1:=s++u) (List.nodup_cons.1 hn).2 fun x hx=>by
   have h1:=hs x (List.mem_cons_of_mem _ hx);rw [List.mem_append] at h1 ⊢;rcases h1 with h | h
   ·exact .inl h
   ·rcases List.mem_cons.1 h with rfl | h
    ·exact absurd hx (List.nodup_cons.1 hn).1
    ·exact .inr h
  simp only [List.length_append,List.length_cons] at this ⊢;omega
theorem Na (h:∀q g dy,AM ms2 q g dy=AM ms q g dy) (p:AQ) (dy:Int) (k:Nat):Bo gs ms2 p dy k=Bo gs ms p dy k:=by
 rw [HP,HP];simp only [h]
theorem TM {hs hs2:List AQ} {F F2:AQ→Int} (hsub:∀q ∈ hs2,q ∈ hs) (hF:∀q,F2 q=F q) (h2:0<hs2.length) :
  BM (Bm hs.length fun (i:Nat)=>F (hs.getD ((i:Int)).toNat AQ.zero))≤BM (Bm hs2.length fun (i:Nat)=>F2 (hs2.getD ((i:Int)).toNat AQ.zero))∧B4 (Bm hs2.length fun (i:Nat)=>F2 (hs2.getD ((i:Int)).toNat AQ.zero))≤B4 (Bm hs.length fun (i:Nat)=>F (hs.getD ((i:Int)).toNat AQ.zero)):=by
 obtain ⟨_,⟨i,hi,e1⟩,j,hj,e2⟩:=LC (fun (i:Nat)=>F2 (hs2.getD ((i:Int)).toNat AQ.zero)) h2;have g:∀i,i<hs2.length→∃k,k<hs.length∧F (hs.getD ((k:Int)).toNat AQ.zero)=F2 (hs2.getD ((i:Int)).toNat AQ.zero):=fun i hi=>by
  have hm:=hsub _ (CX (d:=AQ.zero) (show ((i:Int)).toNat<hs2.length by omega));obtain ⟨k,hk,e⟩:=JU.1 (LD (F:=F).2 ⟨_,hm,rfl⟩);exact ⟨k,hk,by rw [hF];exact e⟩
 obtain ⟨k1,hk1,f1⟩:=g i hi;obtain ⟨k2,hk2,f2⟩:=g j hj;have q:=(LC (fun (i:Nat)=>F (hs.getD ((i:Int)).toNat AQ.zero)) (show 0<hs.length by omega)).1;have q1:=(q k1 hk1).1;have q2:=(q k2 hk2).2;rw [←e1,←e2];exact ⟨by rw [←f1];exact q1,by rw [←f2];exact q2⟩
structure TN (d m:Int) (gs:List Good) (ms:List AB) (cs:List AJ) (d2 m2:Int) (gs2:List Good) (ms2:List AB) (cs2:List AJ) (g dy:Int):Prop where
 nm:∀k,(gs.getD k Good.z).name.size≤1000
 nm2:∀k,(gs2.getD k Good.z).name.size≤1000
 bk:BL d m gs ms cs
 b2:BL d2 m2 gs2 ms2 cs2
 hist:1≤CZ d2 m2 gs2 ms2 cs2∧CZ d2 m2 gs2 ms2 cs2≤CZ d m gs ms cs
 l1:Cz d m gs ms cs g dy=0
 l2:Cz d2 m2 gs2 ms2 cs2 g dy=0
 ins:∀x ∈ GG d2 m2 gs2 ms2 cs2 g dy,x ∈ GG d m gs ms cs g dy
 w1:Cj d m gs ms cs dy=0
 w2:Cj d2 m2 gs2 ms2 cs2 dy=0
 lo:CK d m gs ms cs dy≤CK d2 m2 gs2 ms2 cs2 dy
 hi:CL d2 m2 gs2 ms2 cs2 dy≤CL d m gs ms cs dy
theorem TO {g dy:Int} (hsub:∀q ∈ AP d gs ms2 cs2 m,q ∈ AP d gs ms cs m) (hst:∀q,(AM ms2 q g dy).1=(AM ms q g dy).1) (e1:Cz d m gs ms cs g dy=0) :
  ∀x ∈ GG d m gs ms2 cs2 g dy,x ∈ GG d m gs ms cs g dy:=fun x hx=>by
 unfold GG at hx ⊢;rw [if_pos e1];split at hx
 ·obtain ⟨p,hp,e⟩:=(LD (F:=fun p=>(AM ms2 p g dy).1)).1 hx;exact (LD (F:=fun p=>(AM ms p g dy).1)).2 ⟨p,hsub p hp,by rw [←hst];exact e⟩
 ·cases hx
theorem U3 (nm:∀k,(gs.getD k Good.z).name.size≤1000) (b:BL d m gs ms cs) (b2:BL d m gs ms2 cs2) (hsub:∀q ∈ AP d gs ms2 cs2 m,q ∈ AP d gs ms cs m) (hst:∀q g dy,AM ms2 q g dy=AM ms q g dy)
  (hs:Bv d gs ms2 cs2 m=true) {g dy:Int} (hg:0≤g∧g<gs.length) (hd:0≤dy∧dy≤d):TN d m gs ms cs d m gs ms2 cs2 g dy:=by
 have hne:AP d gs ms2 cs2 m≠[]:=fun e=>by rw [ND e] at hs;cases hs
 have hp:=List.length_pos_iff.2 hne;have hle:=RG (Ow d gs ms2 cs2 m) hsub;have z1:¬(AP d gs ms cs m).length=0:=by omega
 have z2:¬(AP d gs ms2 cs2 m).length=0:=by omega
 have e1:Cz d m gs ms cs g dy=0:=by rw [Mb b hg hd,if_neg z1]
 have e2:Cz d m gs ms2 cs2 g dy=0:=by rw [Mb b2 hg hd,if_neg z2]
 have f1:Cj d m gs ms cs dy=0:=by rw [LE b hd,if_neg z1]
 have f2:Cj d m gs ms2 cs2 dy=0:=by rw [LE b2 hd,if_neg z2]
 have ends:=TM (hs:=AP d gs ms cs m) (hs2:=AP d gs ms2 cs2 m) (F:=fun p=>Bo gs ms p dy gs.length) (F2:=fun p=>Bo gs ms2 p dy gs.length) hsub (fun q=>Na hst q dy _) hp;refine ⟨nm,nm,b,b2,?_,e1,e2,TO hsub (fun q=>by rw [hst]) e1,f1,f2,?_,?_⟩
 ·unfold CZ;rw [if_pos (B8 b),if_pos (B8 b2)];omega
 ·unfold CK;rw [if_pos f1,if_pos f2];exact ends.1
 ·unfold CL;rw [if_pos f1,if_pos f2];exact ends.2
end
end Go.Ns
namespace Go.Ns
open Go.Conc
def Ay (ms:List AB) (i:Nat) (lo hi:Int):List AB:=ms.set i { ms.getD i AB.z with low:=lo,high:=hi }
theorem CB (ms:List AB) (i:Nat) (lo hi:Int):(Ay ms i lo hi).length=ms.length:=by unfold Ay;rw [List.length_set]
theorem GO {ms:List AB} {i:Nat} {lo hi:Int} (h:i<ms.length):(Ay ms i lo hi).getD i AB.z={ ms.getD i AB.z with low:=lo,high:=hi }:=by
 unfold Ay;rw [List.getD_eq_getElem?_getD,List.getElem?_set_self h];rfl
theorem JV {ms:List AB} {i k:Nat} {lo hi:Int} (h:i≠k):(Ay ms i lo hi).getD k AB.z=ms.getD k AB.z:=by
 unfold Ay;rw [List.getD_eq_getElem?_getD,List.getElem?_set_ne h,←List.getD_eq_getElem?_getD]
theorem Ft {ms:List AB} {i:Nat} {lo hi:Int} (h:i<ms.length) (k:Nat):((Ay ms i lo hi).getD k AB.z).day=(ms.getD k AB.z).day∧((Ay ms i lo hi).getD k AB.z).good=(ms.getD k AB.z).good∧((Ay ms i lo hi).getD k AB.z).kind=(ms.getD k AB.z).kind:=by
 by_cases e:i=k
 ·subst e;rw [GO h];exact ⟨rfl,rfl,rfl⟩
 ·rw [JV e];exact ⟨rfl,rfl,rfl⟩
def A5 (ms:List AB) (mv xl xh:Int):List AB:=Ay ms mv.toNat (max (ms.getD mv.toNat AB.z).low xl) (min (ms.getD mv.toNat AB.z).high xh)
def An (d m:Int) (gs:List Good) (ms:List AB) (cs:List AJ) (mv xl xh:Int):Int:=
 LF (AR d m gs ms cs) (if 0≤mv∧mv≤(ms.length:Int)-1 then (if (0≤xl∧xl≤xh)∧xh≤99 then (if min (ms.getD mv.toNat AB.z).high xh<max (ms.getD mv.toNat AB.z).low xl then 9 else A3 d m gs (A5 ms mv xl xh) cs) else 1) else 6)
section
variable {d m:Int} {gs:List Good} {ms:List AB} {cs:List AJ} {mv xl xh:Int}
theorem TP (h:¬AR d m gs ms cs=0):An d m gs ms cs mv xl xh=AR d m gs ms cs:=U2 h
theorem TQ (h0:AR d m gs ms cs=0) (h1:¬(0≤mv∧mv≤(ms.length:Int)-1)):An d m gs ms cs mv xl xh=6:=(NZ h0).trans (if_neg h1)
theorem QJ (h0:AR d m gs ms cs=0) (h1:0≤mv∧mv≤(ms.length:Int)-1) (h2:¬((0≤xl∧xl≤xh)∧xh≤99)):An d m gs ms cs mv xl xh=1:=(NZ h0).trans ((if_pos h1).trans (if_neg h2))
theorem QK (h0:AR d m gs ms cs=0) (h1:0≤mv∧mv≤(ms.length:Int)-1) (h2:(0≤xl∧xl≤xh)∧xh≤99) (h3:min (ms.getD mv.toNat AB.z).high xh<max (ms.getD mv.toNat AB.z).low xl):An d m gs ms cs mv xl xh=9:=
 (NZ h0).trans ((if_pos h1).trans ((if_pos h2).trans (if_pos h3)))
theorem LG (h0:AR d m gs ms cs=0) (h1:0≤mv∧mv≤(ms.length:Int)-1) (h2:(0≤xl∧xl≤xh)∧xh≤99) (h3:¬min (ms.getD mv.toNat AB.z).high xh<max (ms.getD mv.toNat AB.z).low xl):An d m gs ms cs mv xl xh=A3 d m gs (A5 ms mv xl xh) cs:=
 (NZ h0).trans ((if_pos h1).trans ((if_pos h2).trans (if_neg h3)))
theorem I7 (h:¬AR d m gs ms cs=0):¬An d m gs ms cs mv xl xh=0:=by rw [TP h];exact h
theorem I8 (h0:AR d m gs ms cs=0) (h1:¬(0≤mv∧mv≤(ms.length:Int)-1)):¬An d m gs ms cs mv xl xh=0:=by rw [TQ h0 h1];decide
theorem I9 (h0:AR d m gs ms cs=0) (h1:0≤mv∧mv≤(ms.length:Int)-1) (h2:¬((0≤xl∧xl≤xh)∧xh≤99)):¬An d m gs ms cs mv xl xh=0:=by rw [QJ h0 h1 h2];decide
theorem JA (h0:AR d m gs ms cs=0) (h1:0≤mv∧mv≤(ms.length:Int)-1) (h2:(0≤xl∧xl≤xh)∧xh≤99) (h3:min (ms.getD mv.toNat AB.z).high xh<max (ms.getD mv.toNat AB.z).low xl):¬An d m gs ms cs mv xl xh=0:=by rw [QK h0 h1 h2 h3];decide
theorem IP {i:Nat} {lo hi:Int} (h:i<ms.length) (q:AQ) (g dy:Int):AM (Ay ms i lo hi) q g dy=AM ms q g dy:=
 NY (CB ..) (Ft h) (fun _ _=>rfl) rfl
theorem TR {i:Nat} {lo hi:Int} (b:BL d m gs ms cs) (h:i<ms.length) (h1:(ms.getD i AB.z).low≤lo) (h2:hi≤(ms.getD i AB.z).high):∀q ∈ AP d gs (Ay ms i lo hi) cs m,q ∈ AP d gs ms cs m:=fun q hq=>by
 rw [Mc (by rw [CB];exact b.mlen) b.most.1,CB] at hq;obtain ⟨L,ha,e⟩:=hq;refine (Mc b.mlen b.most.1).2 ⟨⟨L.first,fun k hk=>?_,fun k hk hl=>?_,?_⟩,?_,e⟩
 ·have:=L.many k (by rw [CB];exact hk)
  by_cases ek:i=k
  ·subst ek;rw [GO h] at this;dsimp only at this;omega
  ·rwa [JV ek] at this
 ·have:=L.note k (by rw [CB];exact hk) hl
  unfold Cy at this ⊢;rw [CB,Int.toNat_natCast,(Ft h k).2.2] at this;rw [Int.toNat_natCast];exact this
 ·have:=L.few;rwa [CB] at this
 ·exact QH ha (fun j _=>by rw [IP h]) fun x _=>by rw [IP h]
theorem BL.told {i:Nat} {lo hi:Int} (b:BL d m gs ms cs) (h:i<ms.length) (hf:CH lo hi):BL d m gs (Ay ms i lo hi) cs:=by
 refine ⟨b.days,b.most,b.glen,b.good,by rw [CB];exact b.mlen,fun k hk=>?_,b.clen,b.count⟩;rw [CB] at hk;have hl:Cg (Ay ms i lo hi) k=Cg ms k:=by unfold Cg;rw [(Ft h (k-1)).1]
 obtain ⟨g1,g2,g3,g4,g5⟩:=b.move' hk;obtain ⟨e1,e2,e3⟩:=Ft (lo:=lo) (hi:=hi) h k;refine MR (by rw [e3];exact g1) (by rw [e2];exact g2) (by rw [e1];exact g3) (by rw [hl,e1];exact g4) ?_;by_cases ek:i=k
 ·subst ek;rw [GO h];exact hf
 ·rw [JV ek];exact g5
theorem UQ (b:BL d m gs ms cs) (h1:0≤mv∧mv<(ms.length:Int)) (h2:(0≤xl∧xl≤xh)∧xh≤99) (h3:¬min (ms.getD mv.toNat AB.z).high xh<max (ms.getD mv.toNat AB.z).low xl):BL d m gs (A5 ms mv xl xh) cs:=by
 have hf:=b.few mv.toNat;refine b.told (by omega) ?_;unfold CH;omega
theorem QL (ms:List AB) (mv xl xh:Int):(A5 ms mv xl xh).length=ms.length:=CB ..
theorem LH (h1:0≤mv∧mv<(ms.length:Int)):((A5 ms mv xl xh).getD mv.toNat AB.z).low=max (ms.getD mv.toNat AB.z).low xl:=by unfold A5;rw [GO (by omega)]
theorem JW (h1:0≤mv∧mv<(ms.length:Int)):((A5 ms mv xl xh).getD mv.toNat AB.z).high=min (ms.getD mv.toNat AB.z).high xh:=by unfold A5;rw [GO (by omega)]
theorem TS (nm:∀k,(gs.getD k Good.z).name.size≤1000) (b:BL d m gs ms cs) (h1:0≤mv∧mv<(ms.length:Int)) (b2:BL d m gs (A5 ms mv xl xh) cs) (hs:Bv d gs (A5 ms mv xl xh) cs m=true) {g dy:Int} (hg:0≤g∧g<gs.length) (hd:0≤dy∧dy≤d) :
  TN d m gs ms cs d m gs (A5 ms mv xl xh) cs g dy:=U3 nm b b2 (TR b (by omega) (by omega) (by omega)) (IP (by omega)) hs hg hd
end
end Go.Ns
namespace Go.Ns
open Go.Conc
section
variable {P:Program} {Post:Value→World→Prop}
def RH (P:Program) (Post:Value→World→Prop):Wk P:=⟨true,DA P Post,Hp⟩
theorem Nc:K3 (RH P Post):=⟨Post,rfl⟩
theorem Ry {f:FuncId} {fn:Func} {c:Code} {args:Array Value} {h:GH} {R:Value→GH→Prop} (hf:P.funcs[f]? =some fn) (hb:fn.body=some c) (hsz:args.size≤fn.ntmps) (hin:P.inits.idxOf? f=none) (hpost:∀v h',R v h'→∀w,C6 w h'→Post v w)
  (x:Tr ⟨RH P Post,f,none,fn.ntmps⟩ c (fun i=>args.getD i undef) [] h (fun e σ ds h'=>(e=.normal∨e=.ret)∧E6 P fn σ R ds h')):DA P Post (G (Frame.enter P f args .normal) []) h:=by
 have e0:Frame.enter P f args .normal=B6 (Frame.enter P f args .normal) (args++Array.replicate (fn.ntmps-args.size) undef) [] [.code c]:=by
  simp [Frame.enter,B6,hf,hb]
 rw [e0];let L:Lv:=fun j t ds h'=>(j=none∨j=some .ret)∧∃σ,BX t fn.ntmps σ∧E6 P fn σ R ds h';have fin:∀σ ds h' t k,BX t fn.ntmps σ→E6 P fn σ R ds h'→(RH P Post).K (G (Cv (Frame.enter P f args .normal) t ds k) []) h':=by
  intro σ ds h' t k hs ho;refine Je (W:=RH P Post) (R:=R) hf (b:=Frame.enter P f args .normal) rfl (fun t k v h h' hr hrun=>?_) ds h' t k hs ho;refine PP rfl fun w fw=>?_;obtain ⟨w',es,r1,r2⟩:=hrun w fw;refine ⟨v,w',seen P f es++ #[],h',?_,r2.sub (es':=seen P f es++ #[]) fun e he=>?_,hpost v h' hr w' r2.fits⟩
  ·rw [H6];unfold unwind;have hfn:(Cv (Frame.enter P f args .normal) t [] k).fn=f:=rfl;have hk:(Cv (Frame.enter P f args .normal) t [] k).kind=.normal:=rfl;have hm:(Cv (Frame.enter P f args .normal) t [] k).mode=.returning:=rfl;have hd:(Cv (Frame.enter P f args .normal) t [] k).defers=[]:=rfl;have ht:(Cv (Frame.enter P f args .normal) t [] k).tmps=t:=rfl;simp only [hd,hm,hfn,hf,ht,r1,GStep.after,doReturn,hk,hin];rfl
  ·rw [Array.append_empty] at he;exact mem_seen he
 refine x (Frame.enter P f args .normal) [] [] L _ rfl rfl ⟨?_,?_,?_⟩ ⟨by simp;omega,fun i=>?_⟩ ?_
 ·rintro t ds h' ⟨_,σ,hs,ho⟩;exact Wk.go (Cv (Frame.enter P f args .normal) t ds []) (fun w=>by rw [Ax];simp [stepG.exec,B6,Cv,G,Frame.enter]) (fin σ ds h' t [] hs ho)
 ·rintro t ds h' k ⟨_,σ,hs,ho⟩;exact Wk.go (Cv (Frame.enter P f args .normal) t ds (.code .ret ::k)) (fun w=>by rw [Ax];simp [stepG.exec,B6,Cv,G,Frame.enter]) (fin σ ds h' t _ hs ho)
 ·rintro id t ds h' k _ ⟨h1 | h1,_⟩ <;> cases h1
 ·by_cases hi:i<args.size
  ·simp [Array.getD_eq_getD_getElem?,Array.getElem?_append_left hi]
  ·simp only [Array.getD_eq_getD_getElem?];rw [Array.getElem?_append_right (by omega),Array.getElem?_eq_none (show args.size≤i by omega),Array.getElem?_replicate];split <;> rfl
 ·rintro e σ ds h' ⟨he,ho⟩ t' ht';rcases he with rfl | rfl
  ·exact Wk.go (Cv (Frame.enter P f args .normal) t' ds []) (fun w=>by rw [Ax];simp [stepG.exec,B6,Cv,G,Frame.enter]) (fin σ ds h' t' [] ht' ho)
  ·exact ⟨.inr rfl,σ,ht',ho⟩
def GH.of (W:World):GH:=fun b=>(W.heap[b]?).map fun o=>(false,o)
theorem GH.of_some {W:World} {b:Nat} {o:Obj} (h:W.heap[b]? =some o):GH.of W b=some (false,o):=by unfold GH.of;rw [h];rfl
theorem UR (W:World):C6 W (GH.of W):=fun b p o h=>by
 unfold GH.of at h;cases e:W.heap[b]? with
 | none=>rw [e] at h;cases h
 | some x=>rw [e] at h;cases h;rfl
theorem US {W w:World} {h:GH} (l:(GH.of W).Le h) (f:C6 w h) {b:Nat} {o:Obj} (hb:W.heap[b]? =some o):w.heap[b]? =some o:=f b _ _ (l.keep (GH.of_some hb) rfl)
theorem QM {g:Goroutine} {W:World} (hg:DA P Post g (GH.of W)):BW P (GT Post W.os W.output) (solo g W) #[]:=by
 have hno:∀k a,touchAt (#[]:Trace) k=some a→False:=fun k a h=>by
  obtain ⟨op,h1,_⟩:=touch_of h;simp at h1
 refine hg #[g] W none (fun _=>0) #[] ⟨rfl,?_,UR W,?_,?_,fun k a b hk=>(hno k a hk).elim,?_,fun k a hk=>(hno k a hk).elim,fun b p o k a _ _ hk=>(hno k a hk).elim⟩
 ·intro j x hj hx;rw [Array.getElem?_eq_none (by simp;omega)] at hx;cases hx
 ·intro op hop;simp at hop
 ·rintro said ⟨i,j,hij,⟨a,b,ha,_⟩,_⟩;exact hno i a ha
 ·intro op hop;simp at hop
end
end Go.Ns
namespace Go.Ns
open Go.Conc Go.ChangeShapes Go.WideShapes Go.ChangeAt Go.RowKit
section
variable {P:Program} {W:World}
theorem QN {b off n:Nat} {cs:List Value} (h:W.cells? 0 ⟨b,off,none⟩ n=some cs) (hn:0<n):Aa (GH.of W) b off n cs.toArray:=by
 obtain ⟨_,hl,hc⟩:=World.cells?_some h;have hcell:∀i,i<n→W.cell? ⟨b,off+i,none⟩=cs[i]? :=fun i hi=>by
  have:=hc i hi
  unfold Addr.add at this;split at this
  ·rename_i e;subst e;exact this
  ·exact this
 have h0:=hcell 0 hn;unfold World.cell? at h0;cases hb:W.heap[b]? with
 | none=>simp [hb,List.getElem?_eq_getElem (show 0<cs.length by omega)] at h0
 | some o=>
  cases o with
  | cells c t f=>
   have hall:∀i,i<n→c[off+i]? =cs[i]? :=fun i hi=>by
    have:=hcell i hi
    unfold World.cell? at this;simpa [hb] using this
   have hlast:=hall (n-1) (by omega);rw [List.getElem?_eq_getElem (show n-1<cs.length by omega)] at hlast;have hsz:=(Array.getElem?_eq_some_iff.1 hlast).1;refine ⟨false,c,t,f,GH.of_some hb,by omega,?_⟩;apply Array.ext
   ·simp;omega
   ·intro i h1 h2;have hi:i<n:=by simp at h2;omega
    have:=hall i hi
    rw [Array.getElem?_eq_getElem (by omega),List.getElem?_eq_getElem (by omega)] at this;simpa using this
  | _=>simp [hb,List.getElem?_eq_getElem (show 0<cs.length by omega)] at h0
def Me (P:Program) (e:TypeId) {α:Type} (enc:α→Array Value) (good:α→Prop):Prop:=
 ∀{H:Type} (en:TypeId×Value→H) (W:World) (base:Nat) (sp:Nat→Bool) (held:Bool) (fuel:Nat) (cs:List Value) (x:DataW H×List MemPlace),DataW.trod en P W base sp held fuel e cs=some x→∃a:α,cs=(enc a).toList∧good a
theorem Nd {H:Type} {en:TypeId×Value→H} {sp:Nat→Bool} {held:Bool} {fuel:Nat} {t e:TypeId} {n:Nat} {α:Type} {enc:α→Array Value} {good:α→Prop} {v:Value} {d:DataW H} {ps:List MemPlace} (ht:P.underlying t=some (.slice e)) (hc:P.cellsOf e=n) (hn:0<n)
  (ho:Me P e enc good) (h:DataW.trod en P W 0 sp held fuel t [v]=some (d,ps)) (hw:∀es rs,d=.slice es rs→es.length≤140737488355328):∃xs:List α,AK (GH.of W) v n enc xs∧∀x ∈ xs,good x:=by
 rcases DataW.trod_slice ht h with ⟨h1,_⟩ | ⟨a,len,cap,elems,rest,m,rfl,h1,h2,_,hl,_,hlen,hel,_,_⟩
 ·simp at h1;subst h1;exact ⟨[],AK.nil _ _ _,fun x hx=>by cases hx⟩
 ·simp only [List.cons.injEq,and_true] at h1;subst h1;simp only [Prod.mk.injEq] at h2;have hlim:len≤140737488355328:=by
   have:=hw _ _ h2.1
   simpa [hlen] using this
  have each:∀i,i<len→∃x:α,∃b off,a=⟨b,off,none⟩∧Aa (GH.of W) b (off+i*n) n (enc x)∧good x:=fun i hi=>by
   have:=hel i hi
   rw [List.getElem?_eq_getElem (by omega),hc] at this;simp only [Option.bind_eq_some_iff] at this;obtain ⟨cs,hcs,hx⟩:=this;obtain ⟨x,e1,e2⟩:=ho _ _ _ _ _ _ _ _ hx;have hc0:=(World.cells?_some hcs).2.2 0 hn;have hlen2:=(World.cells?_some hcs).2.1;rw [List.getElem?_eq_getElem (show 0<cs.length by omega)] at hc0;have hsp:=World.cell?_spot hc0;obtain ⟨b,off,spot⟩:=a;have hspot:spot=none∨i≠0:=by
    by_cases e0:i=0
    ·subst e0;left;simpa [Addr.add] using hsp
    ·exact .inr e0
   have hfirst:spot=none:=by
    rcases hspot with e | e
    ·exact e
    ·have h00:=hel 0 (by omega);rw [List.getElem?_eq_getElem (by omega),hc] at h00;simp only [Option.bind_eq_some_iff] at h00;obtain ⟨c0,hc00,_⟩:=h00;have z:=(World.cells?_some hc00).2.2 0 hn;have zl:=(World.cells?_some hc00).2.1;rw [List.getElem?_eq_getElem (show 0<c0.length by omega)] at z
     have:=World.cell?_spot z
     simpa [Addr.add] using this
   subst hfirst;refine ⟨x,b,off,rfl,?_,e2⟩;have ea:(Addr.add ⟨b,off,none⟩ (i*n))=⟨b,off+i*n,none⟩:=by
    unfold Addr.add;split
    ·rename_i e;rw [e];rfl
    ·rfl
   rw [ea] at hcs
   have:=QN hcs hn
   rw [e1] at this;simpa using this
  by_cases hz:len=0
  ·subst hz;exact ⟨[],⟨some a,cap,rfl,Nat.zero_le _,Nat.zero_le _,fun i hi=>by simp at hi⟩,fun x hx=>by cases hx⟩
  ·have hch:∀i:Fin len,∃x:α,∃b off,a=⟨b,off,none⟩∧Aa (GH.of W) b (off+i.val*n) n (enc x)∧good x:=fun i=>each i.val i.isLt;refine ⟨List.ofFn fun i=>Classical.choose (hch i),⟨some a,cap,by rw [List.length_ofFn],by rw [List.length_ofFn];exact hl,by rw [List.length_ofFn];exact hlim,fun i hi=>?_⟩,fun x hx=>?_⟩
   ·rw [List.length_ofFn] at hi;obtain ⟨b,off,e1,e2,_⟩:=Classical.choose_spec (hch ⟨i,hi⟩);refine ⟨b,off,by rw [e1],?_⟩;rw [List.getElem_ofFn];exact e2
   ·obtain ⟨i,rfl⟩:=List.mem_ofFn.1 hx;obtain ⟨_,_,_,_,e3⟩:=Classical.choose_spec (hch i);exact e3
theorem GP {H:Type} {en:TypeId×Value→H} {t:TypeId} (hl:laidOutB P=true) (hr:P.readableRec t=true) (hrow:t<P.types.size) {W':World} {v:Value} {d:DataW H} {ps:List MemPlace} (h:DataW.Trod en P W 0 (fun _=>true) true t v d ps)
  (hk:∀(b:Nat) (o:Obj),W.heap[b]? =some o→W'.heap[b]? =some o) (hlt:∀x ∈ ps,x.block<W.heap.size):DataW.Trod en P W' 0 (fun b=>decide (b<W.heap.size)) true t v d ps:=by
 let W2:World:={ W' with os:=W.os,tape:=W.tape,output:=W.output };have hsz:W.heap.size≤W'.heap.size:=by
  rcases Nat.lt_or_ge W'.heap.size W.heap.size with x | x
  ·have:=hk W'.heap.size _ (Array.getElem?_eq_getElem x)
   rw [Array.getElem?_eq_none (Nat.le_refl _)] at this;cases this
  ·exact x
 have hb:Below W.heap.size W W2:=⟨rfl,rfl,rfl,hsz,fun k hk'=>by
  show W'.heap[k]? =_;rw [Array.getElem?_eq_getElem hk'];exact hk k _ (Array.getElem?_eq_getElem hk')⟩
 exact DataW.Trod.of_heap (w:=W2) (w':=W') rfl (Below.trod hl hr hrow h hb hlt)
theorem TT {W':World} (hk:∀(b:Nat) (o:Obj),W.heap[b]? =some o→W'.heap[b]? =some o) (ho:W'.os=W.os) (hp:W'.output=W.output) (may:MemPlace→Prop):W.keptBut W' may:=by
 refine ⟨ho,hp,fun i hi=>?_⟩;rw [hk i _ (Array.getElem?_eq_getElem hi),Array.getElem?_eq_getElem hi];split <;> simp_all
end
end Go.Ns
namespace Go.Ns
open Go.Conc
universe u
theorem Z {α:Sort u} {a:α}:a=a:=rfl
theorem Lr {h:GH}:GH.Le h h:=GH.Le.refl h
theorem Ln {h h':GH} (l:h.Le h') {r:Nat} (hr:h' r=none):h r=none:=l.nothing hr
theorem B9 {h:GH} {b r:Nat} {p:Bool} {o:Obj} (hb:h b=some (p,o)) (hr:h r=none):b≠r:=GH.ne_of hb hr
theorem Nb {a b:Nat} (h:Nat.ble a b=true):a≤b:=Nat.le_of_ble_eq_true h
theorem Dn {p:Prop} [Decidable p] (h:¬¬p):p:=Decidable.not_not.1 h
theorem Et {α:Sort u} {a b c:α} (x:a=b) (y:b=c):a=c:=x.trans y
theorem Kl {h0 h:GH} (k:DE (fun b=>h0 b=none) h0 h):h0.Le h:=k.leOf
theorem Bx {h:GH} {b:Nat} {p:Bool} {c:Array Value} {t:TypeId} {f:Nat×Nat} (hb:h b=some (p,.cells c t f)) {n:Nat} (hn:c.size=n):Aa h b 0 n c:=Aa.box hb hn
abbrev lE (v:Value):GE:=fun _ u _=>u=v
abbrev lF (v:Value):LV:=fun u _=>u=v
abbrev zP:Array Value:=#[.int .i64 0,.int .i64 0,.slice none 0 0,.slice none 0 0,.slice none 0 0,.slice none 0 0,.map none]
section
variable {P:Program} {E:FJ P} {σ:Nat→Value} {ds:List Deferred} {h:GH} {Q:Post} {T:(Nat→Value)→List Deferred→GH→Prop}
variable {dst:Option Nat} {ty:TypeId} {pos:String} {af:Array Edge} {ops:Array Oper} {o:Oper} {l:List Oper}
theorem Sq {x y:Code} (a:Tr E x σ ds h (fun e σ' ds' h'=>match e with | .normal=>Tr E y σ' ds' h' Q | e=>Q e σ' ds' h')):Tr E (.seq x y) σ ds h Q:=SO a
theorem Rg {id:Nat} {l:List Oper} (a:DR E l.toArray l σ ds h Q):Tr E (.region id l.toArray false) σ ds h Q:=RK a
theorem Nl (q:Q .normal σ ds h):DR E ops [] σ ds h Q:=Tu q
abbrev Rt:=@Uh
abbrev Bk:=@SP
abbrev Sk:=@Ts
abbrev Xt:=@Tt
def TU (N:Nat) (o:Oper):Bool:=o.guard.isNone && !DL o.op && Df o.dst N
theorem Pl (hp:TU E.N o=true) (x:BY E o σ ds h fun σ' ds' h'=>DR E ops l σ' ds' h' Q):DR E ops (o ::l) σ ds h Q:=by
 simp only [TU,Bool.and_eq_true,Option.isNone_iff_eq_none,Bool.not_eq_true'] at hp;exact Ea hp.1.1 hp.1.2 hp.2 x
theorem Mv {x:Operand} (v:Value) (hp:Df dst E.N=true) (hx:AT σ x=v) (k:DR E ops l (putS σ dst v) ds h Q):DR E ops (⟨dst,.move x,ty,pos,af,none⟩ ::l) σ ds h Q:=Ea rfl rfl hp (AA hx k)
theorem As {x:Operand} (v:Value) (hp:Df dst E.N=true) (hx:AT σ x=v) (k:DR E ops l (putS σ dst v) ds h Q):DR E ops (⟨dst,.assign x,ty,pos,af,none⟩ ::l) σ ds h Q:=Ea rfl rfl hp (HY hx k)
theorem Ld {t:TypeId} {x:Operand} {b off:Nat} (v:Value) (hp:Df dst E.N=true) (hx:AT σ x=.pointer (some ⟨b,off,none⟩)) (hr:Rd P h t b off v) (k:DR E ops l (putS σ dst v) ds h Q):DR E ops (⟨dst,.load t x,ty,pos,af,none⟩ ::l) σ ds h Q:=
 Ea rfl rfl hp (AE hx hr k)
theorem Fa {s:TypeId} {x:Operand} {f o b off:Nat} (hf:Cx P s f=some o) (hp:Df dst E.N=true) (hx:AT σ x=.pointer (some ⟨b,off,none⟩)) (k:DR E ops l (putS σ dst (.pointer (some ⟨b,off+o,none⟩))) ds h Q) :
  DR E ops (⟨dst,.fieldAddr s x f,ty,pos,af,none⟩ ::l) σ ds h Q:=Ea rfl rfl hp (AF hf hx k)
theorem Pk {c a b:Operand} (t:Bool) (v:Value) (hp:Df dst E.N=true) (hc:AT σ c=.bool t) (hv:(if t then AT σ a else AT σ b)=v) (k:DR E ops l (putS σ dst v) ds h Q):DR E ops (⟨dst,.pick c a b,ty,pos,af,none⟩ ::l) σ ds h Q:=
 Ea rfl rfl hp (Bb hc hv k)
theorem Ad {xt yt:TypeId} {x y:Operand} (a b:Int) (hp:Df dst E.N=true) (hx:AT σ x=.int .i64 a) (hy:AT σ y=.int .i64 b) (hr: -9223372036854775808≤a+b∧a+b≤9223372036854775807) (k:DR E ops l (putS σ dst (.int .i64 (a+b))) ds h Q) :
  DR E ops (⟨dst,.binOp .add xt x y yt,ty,pos,af,none⟩ ::l) σ ds h Q:=Ea rfl rfl hp (CR hx hy hr k)
def Ug (N:Nat) (ops:Array Oper) (o:Oper) (j d:Nat) (is:Bool):Bool:=(match o.guard with
 | some (i,w)=>i==j && w !=is
 | none=>false) && (match ops[j]? with
 | some oj=>(match oj.dst with
  | some e=>e==d
  | none=>false)
 | none=>false) && Nat.blt d N && Df o.dst N
theorem Gs (j d:Nat) {is:Bool} (hv:σ d=.bool is) (hs:Ug E.N ops o j d is=true) (x:DR E ops l (putS σ o.dst undef) ds h Q):DR E ops (o ::l) σ ds h Q:=by
 simp only [Ug,Bool.and_eq_true] at hs;obtain ⟨⟨⟨h1,h2⟩,h3⟩,h4⟩:=hs;cases hg:o.guard with
 | none=>rw [hg] at h1;cases h1
 | some q=>
  obtain ⟨i,w⟩:=q;rw [hg] at h1;simp only [Bool.and_eq_true,beq_iff_eq,bne_iff_ne,ne_eq] at h1;obtain ⟨rfl,hne⟩:=h1;cases hj:ops[i]? with
  | none=>rw [hj] at h2;cases h2
  | some oj=>
   cases hd:oj.dst with
   | none=>simp [hj,hd] at h2
   | some e=>
    obtain rfl:e=d:=by simpa [hj,hd] using h2
    exact KC hg hj hd hv h3 hne h4 x
def Vz (N:Nat) (ops:Array Oper) (o:Oper) (j d:Nat) (is:Bool):Bool:=(match o.guard with
 | some (i,w)=>i==j && w==is
 | none=>false) && (match ops[j]? with
 | some oj=>(match oj.dst with
  | some e=>e==d
  | none=>false)
 | none=>false) && Nat.blt d N && !DL o.op && Df o.dst N
theorem Gg (j d:Nat) {is:Bool} (hv:σ d=.bool is) (hs:Vz E.N ops o j d is=true) (x:BY E o σ ds h fun σ' ds' h'=>DR E ops l σ' ds' h' Q):DR E ops (o ::l) σ ds h Q:=by
 simp only [Vz,Bool.and_eq_true,Bool.not_eq_true'] at hs;obtain ⟨⟨⟨⟨h1,h2⟩,h3⟩,h5⟩,h4⟩:=hs;cases hg:o.guard with
 | none=>rw [hg] at h1;cases h1
 | some q=>
  obtain ⟨i,w⟩:=q;rw [hg] at h1;simp only [Bool.and_eq_true,beq_iff_eq] at h1;obtain ⟨rfl,rfl⟩:=h1;cases hj:ops[i]? with
  | none=>rw [hj] at h2;cases h2
  | some oj=>
   cases hd:oj.dst with
   | none=>simp [hj,hd] at h2
   | some e=>
    obtain rfl:e=d:=by simpa [hj,hd] using h2
    exact T1 hg hj hd hv h3 (.inr h5) h4 x
end
section
variable {S:Nat→Prop} {Pre:Nat→GH→Prop} {Φ:List GE} {cl:List Nat} {k d:Nat} {h h':GH} {σ:Nat→Value} {ds:List Deferred} {v:Value}
theorem fS (p:Ef Φ k (putS σ (some d) v) v h):ds=ds∧St (DE S) Pre Φ cl k h h∧∃w,putS σ (some d) v=putS σ (some d) w∧Ef Φ k (putS σ (some d) v) w h∧((some d:Option Nat)=none→w=undef):=
 ⟨rfl,St.same,_,rfl,p,fun e=>by cases e⟩
theorem fT (l:h.Le h') (m:C7 GH.Le Φ) (p:Ef Φ k (putS σ (some d) v) v h'):ds=ds∧St (DE S) (fun _ _=>True) Φ cl k h h'∧∃w,putS σ (some d) v=putS σ (some d) w∧Ef Φ k (putS σ (some d) v) w h'∧((some d:Option Nat)=none→w=undef):=
 ⟨rfl,St.ofLe l m (fun _ _ _ _ _=>trivial),_,rfl,p,fun e=>by cases e⟩
theorem fL {Φ:List LV} (p:Id Φ k v h):ds=ds∧GH.Le h h∧∃w,putS σ (some d) v=putS σ (some d) w∧Id Φ k w h:=⟨rfl,GH.Le.refl _,_,rfl,p⟩
theorem L1 {R:GH→GH→Prop} {a:Value} (x:C7 R Φ):C7 R (lE a ::Φ):=⟨fun _ _ _ _ _ y=>y,x⟩
theorem L2 {R:GH→GH→Prop} {a b:Value} (x:C7 R Φ):C7 R (lE a ::lE b ::Φ):=L1 (L1 x)
theorem L4 {R:GH→GH→Prop} {a b c d:Value} (x:C7 R Φ):C7 R (lE a ::lE b ::lE c ::lE d ::Φ):=L2 (L2 x)
theorem L8 {R:GH→GH→Prop} {a b c d a' b' c' d':Value} (x:C7 R Φ):C7 R (lE a ::lE b ::lE c ::lE d ::lE a' ::lE b' ::lE c' ::lE d' ::Φ):=L4 (L4 x)
theorem K1 {R:GH→GH→Prop} {Φ:List LV} {a:Value} (x:D4 R Φ):D4 R (lF a ::Φ):=⟨fun _ _ _ _ y=>y,x⟩
theorem K2 {R:GH→GH→Prop} {Φ:List LV} {a b:Value} (x:D4 R Φ):D4 R (lF a ::lF b ::Φ):=K1 (K1 x)
theorem K4 {R:GH→GH→Prop} {Φ:List LV} {a b c d:Value} (x:D4 R Φ):D4 R (lF a ::lF b ::lF c ::lF d ::Φ):=K2 (K2 x)
theorem K8 {R:GH→GH→Prop} {Φ:List LV} {a b c d a' b' c' d':Value} (x:D4 R Φ):D4 R (lF a ::lF b ::lF c ::lF d ::lF a' ::lF b' ::lF c' ::lF d' ::Φ):=K4 (K4 x)
end
theorem Dk {P:Program} {E:FJ P} {S:Nat→Prop} {id:Nat} {l:List Oper} {σ:Nat→Value} {ds:List Deferred} {h:GH} {Q:Post} {Φ:List GE} (_:C7 GH.Le Φ) (n:Nat) (cls:List (List Nat)) (Pre:Nat→GH→Prop)
  (hm:P.follows .mixedOrders=true) (ok:D0 E.N l n cls=true) (p0:∀k,k<n→Pre k h) (ind:NB l n cls Φ) (x:HA (DE S) Pre E l n Φ σ ds h Q n 0 l cls):Tr E (.region id l.toArray true) σ ds h Q:=
 RS n cls Φ Pre hm ok p0 ind x
end Go.Ns
namespace Go.Ns.Fx
open Go.Conc Go.Proofs
theorem app102_102:Hr Tryz.prog 102 102=some (27,1,24):=by kernel_rfl
theorem app105_105:Hr Tryz.prog 105 105=some (119,15,80):=by kernel_rfl
theorem app22_22:Hr Tryz.prog 22 22=some (99,5,48):=by kernel_rfl
theorem app23_23:Hr Tryz.prog 23 23=some (75,5,40):=by kernel_rfl
theorem app24_24:Hr Tryz.prog 24 24=some (79,4,32):=by kernel_rfl
theorem app27_27:Hr Tryz.prog 27 27=some (3,1,8):=by kernel_rfl
theorem arr117:Qv Tryz.prog 117=some (6,false,1):=by kernel_rfl
theorem arr135:Qv Tryz.prog 135=some (4,false,1):=by kernel_rfl
theorem asz115:Jg Tryz.prog 115=some (3,1):=by kernel_rfl
theorem asz116:Jg Tryz.prog 116=some (6,1):=by kernel_rfl
theorem asz117:Jg Tryz.prog 117=some (6,1):=by kernel_rfl
theorem asz174:Jg Tryz.prog 174=some (5,2):=by kernel_rfl
theorem call100:AS Tryz.f100=true:=by kernel_rfl
theorem call101:AS Tryz.f101=true:=by kernel_rfl
theorem call102:AS Tryz.f102=true:=by kernel_rfl
theorem call105:AS Tryz.f105=true:=by kernel_rfl
theorem call106:AS Tryz.f106=true:=by kernel_rfl
theorem call108:AS Tryz.f108=true:=by kernel_rfl
theorem call109:AS Tryz.f109=true:=by kernel_rfl
theorem call110:AS Tryz.f110=true:=by kernel_rfl
theorem call114:AS Tryz.f114=true:=by kernel_rfl
theorem call115:AS Tryz.f115=true:=by kernel_rfl
theorem call116:AS Tryz.f116=true:=by kernel_rfl
theorem call117:AS Tryz.f117=true:=by kernel_rfl
theorem call118:AS Tryz.f118=true:=by kernel_rfl
theorem call119:AS Tryz.f119=true:=by kernel_rfl
theorem call12:AS Tryz.f12=true:=by kernel_rfl
theorem call120:AS Tryz.f120=true:=by kernel_rfl
theorem call126:AS Tryz.f126=true:=by kernel_rfl
theorem Vd:AS Tryz.f127=true:=by kernel_rfl
theorem call129:AS Tryz.f129=true:=by kernel_rfl
theorem call13:AS Tryz.f13=true:=by kernel_rfl
theorem call130:AS Tryz.f130=true:=by kernel_rfl
theorem call131:AS Tryz.f131=true:=by kernel_rfl
theorem call136:AS Tryz.f136=true:=by kernel_rfl
theorem call137:AS Tryz.f137=true:=by kernel_rfl
theorem call138:AS Tryz.f138=true:=by kernel_rfl
theorem call139:AS Tryz.f139=true:=by kernel_rfl
theorem call14:AS Tryz.f14=true:=by kernel_rfl
theorem call140:AS Tryz.f140=true:=by kernel_rfl
theorem call142:AS Tryz.f142=true:=by kernel_rfl
theorem call143:AS Tryz.f143=true:=by kernel_rfl
theorem call144:AS Tryz.f144=true:=by kernel_rfl
theorem call145:AS Tryz.f145=true:=by kernel_rfl
theorem call146:AS Tryz.f146=true:=by kernel_rfl
theorem call147:AS Tryz.f147=true:=by kernel_rfl
theorem call148:AS Tryz.f148=true:=by kernel_rfl
theorem call149:AS Tryz.f149=true:=by kernel_rfl
theorem call151:AS Tryz.f151=true:=by kernel_rfl
theorem call152:AS Tryz.f152=true:=by kernel_rfl
theorem call153:AS Tryz.f153=true:=by kernel_rfl
theorem call154:AS Tryz.f154=true:=by kernel_rfl
theorem call155:AS Tryz.f155=true:=by kernel_rfl
theorem call156:AS Tryz.f156=true:=by kernel_rfl
theorem call157:AS Tryz.f157=true:=by kernel_rfl
theorem call158:AS Tryz.f158=true:=by kernel_rfl
theorem call159:AS Tryz.f159=true:=by kernel_rfl
theorem call16:AS Tryz.f16=true:=by kernel_rfl
theorem call160:AS Tryz.f160=true:=by kernel_rfl
theorem call161:AS Tryz.f161=true:=by kernel_rfl
theorem call162:AS Tryz.f162=true:=by kernel_rfl
theorem call163:AS Tryz.f163=true:=by kernel_rfl
theorem call164:AS Tryz.f164=true:=by kernel_rfl
theorem call165:AS Tryz.f165=true:=by kernel_rfl
theorem call166:AS Tryz.f166=true:=by kernel_rfl
theorem call167:AS Tryz.f167=true:=by kernel_rfl
theorem call168:AS Tryz.f168=true:=by kernel_rfl
theorem call170:AS Tryz.f170=true:=by kernel_rfl
theorem call171:AS Tryz.f171=true:=by kernel_rfl
theorem call172:AS Tryz.f172=true:=by kernel_rfl
theorem call173:AS Tryz.f173=true:=by kernel_rfl
theorem call174:AS Tryz.f174=true:=by kernel_rfl
theorem call175:AS Tryz.f175=true:=by kernel_rfl
theorem call176:AS Tryz.f176=true:=by kernel_rfl
theorem call177:AS Tryz.f177=true:=by kernel_rfl
theorem call18:AS Tryz.f18=true:=by kernel_rfl
theorem call194:AS Tryz.f194=true:=by kernel_rfl
theorem call195:AS Tryz.f195=true:=by kernel_rfl
theorem call196:AS Tryz.f196=true:=by kernel_rfl
theorem call197:AS Tryz.f197=true:=by kernel_rfl
theorem call198:AS Tryz.f198=true:=by kernel_rfl
theorem call199:AS Tryz.f199=true:=by kernel_rfl
theorem call20:AS Tryz.f20=true:=by kernel_rfl
theorem call200:AS Tryz.f200=true:=by kernel_rfl
theorem call201:AS Tryz.f201=true:=by kernel_rfl
theorem call202:AS Tryz.f202=true:=by kernel_rfl
theorem call203:AS Tryz.f203=true:=by kernel_rfl
theorem call204:AS Tryz.f204=true:=by kernel_rfl
theorem call22:AS Tryz.f22=true:=by kernel_rfl
theorem call23:AS Tryz.f23=true:=by kernel_rfl
theorem call25:AS Tryz.f25=true:=by kernel_rfl
theorem call26:AS Tryz.f26=true:=by kernel_rfl
theorem call29:AS Tryz.f29=true:=by kernel_rfl
theorem call31:AS Tryz.f31=true:=by kernel_rfl
theorem call33:AS Tryz.f33=true:=by kernel_rfl
theorem call35:AS Tryz.f35=true:=by kernel_rfl
theorem call37:AS Tryz.f37=true:=by kernel_rfl
theorem call40:AS Tryz.f40=true:=by kernel_rfl
theorem call41:AS Tryz.f41=true:=by kernel_rfl
theorem call42:AS Tryz.f42=true:=by kernel_rfl
theorem call56:AS Tryz.f56=true:=by kernel_rfl
theorem call57:AS Tryz.f57=true:=by kernel_rfl
theorem call58:AS Tryz.f58=true:=by kernel_rfl
theorem call59:AS Tryz.f59=true:=by kernel_rfl
theorem call60:AS Tryz.f60=true:=by kernel_rfl
theorem call63:AS Tryz.f63=true:=by kernel_rfl
theorem call64:AS Tryz.f64=true:=by kernel_rfl
theorem call65:AS Tryz.f65=true:=by kernel_rfl
theorem call66:AS Tryz.f66=true:=by kernel_rfl
theorem call73:AS Tryz.f73=true:=by kernel_rfl
theorem call74:AS Tryz.f74=true:=by kernel_rfl
theorem call75:AS Tryz.f75=true:=by kernel_rfl
theorem call76:AS Tryz.f76=true:=by kernel_rfl
theorem call77:AS Tryz.f77=true:=by kernel_rfl
theorem call78:AS Tryz.f78=true:=by kernel_rfl
theorem call79:AS Tryz.f79=true:=by kernel_rfl
theorem call80:AS Tryz.f80=true:=by kernel_rfl
theorem call81:AS Tryz.f81=true:=by kernel_rfl
theorem call82:AS Tryz.f82=true:=by kernel_rfl
theorem call83:AS Tryz.f83=true:=by kernel_rfl
theorem call88:AS Tryz.f88=true:=by kernel_rfl
theorem call89:AS Tryz.f89=true:=by kernel_rfl
theorem call90:AS Tryz.f90=true:=by kernel_rfl
theorem call92:AS Tryz.f92=true:=by kernel_rfl
theorem call93:AS Tryz.f93=true:=by kernel_rfl
theorem call94:AS Tryz.f94=true:=by kernel_rfl
theorem call95:AS Tryz.f95=true:=by kernel_rfl
theorem call98:AS Tryz.f98=true:=by kernel_rfl
theorem call99:AS Tryz.f99=true:=by kernel_rfl
theorem eqg31:Tryz.prog.eqGuardType Tryz.prog.depth 31=false:=by kernel_rfl
theorem eqg75:Tryz.prog.eqGuardType Tryz.prog.depth 75=false:=by kernel_rfl
theorem eqg79:Tryz.prog.eqGuardType Tryz.prog.depth 79=false:=by kernel_rfl
theorem eqg99:Tryz.prog.eqGuardType Tryz.prog.depth 99=false:=by kernel_rfl
theorem esz102:Dd Tryz.prog 102=some 1:=by kernel_rfl
theorem esz105:Dd Tryz.prog 105=some 15:=by kernel_rfl
theorem esz165:Dd Tryz.prog 165=some 1:=by kernel_rfl
theorem esz22:Dd Tryz.prog 22=some 5:=by kernel_rfl
theorem esz23:Dd Tryz.prog 23=some 5:=by kernel_rfl
theorem esz230:Dd Tryz.prog 230=some 1:=by kernel_rfl
theorem esz24:Dd Tryz.prog 24=some 4:=by kernel_rfl
theorem esz27:Dd Tryz.prog 27=some 1:=by kernel_rfl
theorem V0:Dd Tryz.prog 55=some 1:=by kernel_rfl
theorem fld104_0:Cx Tryz.prog 104 0=some 0:=by kernel_rfl
theorem fld108_0:Cx Tryz.prog 108 0=some 0:=by kernel_rfl
theorem fld108_1:Cx Tryz.prog 108 1=some 5:=by kernel_rfl
theorem fld108_2:Cx Tryz.prog 108 2=some 6:=by kernel_rfl
theorem fld119_0:Cx Tryz.prog 119 0=some 0:=by kernel_rfl
theorem fld119_1:Cx Tryz.prog 119 1=some 3:=by kernel_rfl
theorem fld119_2:Cx Tryz.prog 119 2=some 9:=by kernel_rfl
theorem fld173_1:Cx Tryz.prog 173 1=some 1:=by kernel_rfl
theorem fld26_0:Cx Tryz.prog 26 0=some 0:=by kernel_rfl
theorem fld26_1:Cx Tryz.prog 26 1=some 1:=by kernel_rfl
theorem fld26_2:Cx Tryz.prog 26 2=some 2:=by kernel_rfl
theorem fld26_3:Cx Tryz.prog 26 3=some 3:=by kernel_rfl
theorem fld26_4:Cx Tryz.prog 26 4=some 4:=by kernel_rfl
theorem fld31_0:Cx Tryz.prog 31 0=some 0:=by kernel_rfl
theorem fld31_1:Cx Tryz.prog 31 1=some 1:=by kernel_rfl
theorem fld75_0:Cx Tryz.prog 75 0=some 0:=by kernel_rfl
theorem fld75_1:Cx Tryz.prog 75 1=some 1:=by kernel_rfl
theorem fld75_2:Cx Tryz.prog 75 2=some 2:=by kernel_rfl
theorem fld75_3:Cx Tryz.prog 75 3=some 3:=by kernel_rfl
theorem fld79_0:Cx Tryz.prog 79 0=some 0:=by kernel_rfl
theorem fld79_1:Cx Tryz.prog 79 1=some 1:=by kernel_rfl
theorem fld79_2:Cx Tryz.prog 79 2=some 2:=by kernel_rfl
theorem fld99_0:Cx Tryz.prog 99 0=some 0:=by kernel_rfl
theorem fld99_1:Cx Tryz.prog 99 1=some 1:=by kernel_rfl
theorem fld99_2:Cx Tryz.prog 99 2=some 2:=by kernel_rfl
theorem fld99_3:Cx Tryz.prog 99 3=some 3:=by kernel_rfl
theorem infs27:(Tryz.prog.info? 27).isSome=true:=by kernel_rfl
theorem infz27:(Tryz.prog.info? 27).map (·.zero)=some (some (.slice none 0 0)):=by kernel_rfl
theorem kind188:JJ Tryz.prog 188=some .u64:=by kernel_rfl
theorem kind204:JJ Tryz.prog 204=some .u64:=by kernel_rfl
theorem kind3:JJ Tryz.prog 3=some .i64:=by kernel_rfl
theorem kind5:JJ Tryz.prog 5=some .u8:=by kernel_rfl
theorem map106:Hs Tryz.prog 106=some (168,3):=by kernel_rfl
theorem map159:Hs Tryz.prog 159=some (3,3):=by kernel_rfl
theorem mck106:∀a:UE,Sf Tryz.prog 3 168 (Ho a)=true:=by intros;kernel_rfl
theorem mcn159:∀a:Int,Sf Tryz.prog 3 3 (Db a)=true:=by intros;kernel_rfl
theorem men159:∀a b:Int,LS Tryz.prog 3 3 (Db a) (Db b)=some (a==b):=by intros;kernel_rfl
theorem meq106:∀a b:UE,LS Tryz.prog 3 168 (Ho a) (Ho b)=some (a.1==b.1 && (a.2.1==b.2.1 && (a.2.2==b.2.2 && true))):=by intros;kernel_rfl
theorem mixed:Tryz.prog.follows .mixedOrders=true:=by kernel_rfl
theorem mz106:(Tryz.prog.info? 3).bind (·.zero)=some (.int .i64 0):=by kernel_rfl
theorem mz159:(Tryz.prog.info? 3).bind (·.zero)=some (.int .i64 0):=by kernel_rfl
theorem pl104:Di Tryz.prog 104=some [(0,5)]:=by kernel_rfl
theorem pl108:Di Tryz.prog 108=some [(0,5),(5,1),(6,1)]:=by kernel_rfl
theorem pl119:Di Tryz.prog 119=some [(0,3),(3,6),(9,6)]:=by kernel_rfl
theorem pl168:Di Tryz.prog 168=some [(0,1),(1,1),(2,1)]:=by kernel_rfl
theorem pl26:Di Tryz.prog 26=some [(0,1),(1,1),(2,1),(3,1),(4,1)]:=by kernel_rfl
theorem pl31:Di Tryz.prog 31=some [(0,1),(1,1)]:=by kernel_rfl
theorem pl75:Di Tryz.prog 75=some [(0,1),(1,1),(2,1),(3,2)]:=by kernel_rfl
theorem pl79:Di Tryz.prog 79=some [(0,1),(1,1),(2,2)]:=by kernel_rfl
theorem pl99:Di Tryz.prog 99=some [(0,1),(1,1),(2,1),(3,2)]:=by kernel_rfl
theorem s2b9_230:Sd Tryz.prog 9 230=some 5:=by kernel_rfl
theorem sel102:De Tryz.prog 102=some (1,#[.slice none 0 0],27):=by kernel_rfl
theorem sel105:De Tryz.prog 105=some (15,#[.int .i64 0,.int .i64 0,.int .i64 0,.int .i64 0,.int .i64 0,.int .i64 0,.int .i64 0,.int .i64 0,.int .i64 0,.bool false,.bool false,.bool false,.bool false,.bool false,.bool false],119):=by kernel_rfl
theorem sel165:De Tryz.prog 165=some (1,#[.int .i64 0],32):=by kernel_rfl
theorem sel22:De Tryz.prog 22=some (5,#[.string ⟨#[]⟩,.int .i64 0,.int .i64 0,.int .i64 0,.int .i64 0],99):=by kernel_rfl
theorem sel23:De Tryz.prog 23=some (5,#[.int .i64 0,.int .i64 0,.int .i64 0,.int .i64 0,.int .i64 0],75):=by kernel_rfl
theorem sel24:De Tryz.prog 24=some (4,#[.int .i64 0,.int .i64 0,.int .i64 0,.int .i64 0],79):=by kernel_rfl
theorem sel27:De Tryz.prog 27=some (1,#[.int .i64 0],3):=by kernel_rfl
theorem sl102:H8 Tryz.prog 102=true:=by kernel_rfl
theorem sl105:H8 Tryz.prog 105=true:=by kernel_rfl
theorem sl165:H8 Tryz.prog 165=true:=by kernel_rfl
theorem sl22:H8 Tryz.prog 22=true:=by kernel_rfl
theorem sl23:H8 Tryz.prog 23=true:=by kernel_rfl
theorem sl230:H8 Tryz.prog 230=true:=by kernel_rfl
theorem sl24:H8 Tryz.prog 24=true:=by kernel_rfl
theorem sl27:H8 Tryz.prog 27=true:=by kernel_rfl
theorem WE:H8 Tryz.prog 55=true:=by kernel_rfl
theorem str9:KK Tryz.prog 9=true:=by kernel_rfl
theorem ty102:B0 Tryz.prog 102=some (false,1):=by kernel_rfl
theorem ty104:B0 Tryz.prog 104=some (true,5):=by kernel_rfl
theorem ty105:B0 Tryz.prog 105=some (false,1):=by kernel_rfl
theorem ty106:B0 Tryz.prog 106=some (false,1):=by kernel_rfl
theorem ty108:B0 Tryz.prog 108=some (true,7):=by kernel_rfl
theorem ty117:B0 Tryz.prog 117=some (true,6):=by kernel_rfl
theorem ty119:B0 Tryz.prog 119=some (true,15):=by kernel_rfl
theorem ty120:B0 Tryz.prog 120=some (false,1):=by kernel_rfl
theorem ty135:B0 Tryz.prog 135=some (true,4):=by kernel_rfl
theorem ty138:B0 Tryz.prog 138=some (false,1):=by kernel_rfl
theorem ty147:B0 Tryz.prog 147=some (false,1):=by kernel_rfl
theorem ty168:B0 Tryz.prog 168=some (true,3):=by kernel_rfl
theorem V1:B0 Tryz.prog 179=some (false,1):=by kernel_rfl
theorem ty181:B0 Tryz.prog 181=some (false,1):=by kernel_rfl
theorem ty204:B0 Tryz.prog 204=some (false,1):=by kernel_rfl
theorem ty22:B0 Tryz.prog 22=some (false,1):=by kernel_rfl
theorem ty23:B0 Tryz.prog 23=some (false,1):=by kernel_rfl
theorem ty24:B0 Tryz.prog 24=some (false,1):=by kernel_rfl
theorem ty26:B0 Tryz.prog 26=some (true,5):=by kernel_rfl
theorem ty27:B0 Tryz.prog 27=some (false,1):=by kernel_rfl
theorem ty3:B0 Tryz.prog 3=some (false,1):=by kernel_rfl
theorem ty31:B0 Tryz.prog 31=some (true,2):=by kernel_rfl
theorem ty32:B0 Tryz.prog 32=some (false,1):=by kernel_rfl
theorem ty4:B0 Tryz.prog 4=some (false,1):=by kernel_rfl
theorem ty5:B0 Tryz.prog 5=some (false,1):=by kernel_rfl
theorem ty73:B0 Tryz.prog 73=some (false,1):=by kernel_rfl
theorem ty75:B0 Tryz.prog 75=some (true,5):=by kernel_rfl
theorem ty79:B0 Tryz.prog 79=some (true,4):=by kernel_rfl
theorem ty9:B0 Tryz.prog 9=some (false,1):=by kernel_rfl
theorem ty99:B0 Tryz.prog 99=some (true,5):=by kernel_rfl
theorem Vg:(Tryz.prog.underlying 179).isSome=true:=by kernel_rfl
theorem und188:(Tryz.prog.underlying 188).isSome=true:=by kernel_rfl
theorem und203:(Tryz.prog.underlying 203).isSome=true:=by kernel_rfl
theorem und3:(Tryz.prog.underlying 3).isSome=true:=by kernel_rfl
theorem und5:(Tryz.prog.underlying 5).isSome=true:=by kernel_rfl
theorem und_chan147:Tryz.prog.underlying 147=some (.chan .both 27):=by kernel_rfl
theorem zero102:Bq Tryz.prog 102=some #[.slice none 0 0]:=by kernel_rfl
theorem zero104:Bq Tryz.prog 104=some #[.int .i64 0,.int .i64 0,.slice none 0 0,.slice none 0 0,.slice none 0 0]:=by kernel_rfl
theorem zero105:Bq Tryz.prog 105=some #[.slice none 0 0]:=by kernel_rfl
theorem zero108:Bq Tryz.prog 108=some #[.int .i64 0,.int .i64 0,.slice none 0 0,.slice none 0 0,.slice none 0 0,.slice none 0 0,.map none]:=by kernel_rfl
theorem zero119:Bq Tryz.prog 119=some #[.int .i64 0,.int .i64 0,.int .i64 0,.int .i64 0,.int .i64 0,.int .i64 0,.int .i64 0,.int .i64 0,.int .i64 0,.bool false,.bool false,.bool false,.bool false,.bool false,.bool false]:=by kernel_rfl
theorem zero147:Bq Tryz.prog 147=some #[.chan none]:=by kernel_rfl
theorem zero168:Bq Tryz.prog 168=some #[.int .i64 0,.int .i64 0,.int .i64 0]:=by kernel_rfl
theorem zero181:Bq Tryz.prog 181=some #[.nilFunc]:=by kernel_rfl
theorem zero204:Bq Tryz.prog 204=some #[.int .u64 0]:=by kernel_rfl
theorem zero26:Bq Tryz.prog 26=some #[.int .i64 0,.int .i64 0,.slice none 0 0,.slice none 0 0,.slice none 0 0]:=by kernel_rfl
theorem zero27:Bq Tryz.prog 27=some #[.slice none 0 0]:=by kernel_rfl
theorem zero3:Bq Tryz.prog 3=some #[.int .i64 0]:=by kernel_rfl
theorem zero31:Bq Tryz.prog 31=some #[.int .i64 0,.int .i64 0]:=by kernel_rfl
theorem Vh:Bq Tryz.prog 32=some #[.int .i64 0]:=by kernel_rfl
theorem zero4:Bq Tryz.prog 4=some #[.bool false]:=by kernel_rfl
theorem zero75:Bq Tryz.prog 75=some #[.int .i64 0,.int .i64 0,.int .i64 0,.int .i64 0,.int .i64 0]:=by kernel_rfl
theorem zero79:Bq Tryz.prog 79=some #[.int .i64 0,.int .i64 0,.int .i64 0,.int .i64 0]:=by kernel_rfl
theorem zero99:Bq Tryz.prog 99=some #[.string ⟨#[]⟩,.int .i64 0,.int .i64 0,.int .i64 0,.int .i64 0]:=by kernel_rfl
end Go.Ns.Fx
namespace Go.Ns
open Go.Conc Go.Proofs
attribute [local irreducible] BY DR Tr AZ CA Bp
theorem BQ {W:Wk Tryz.prog} {h:GH} (n:Int) (lo:Int) (hi:Int):AZ W 79 #[.int .i64 n,.int .i64 lo,.int .i64 hi] h (fun v h'=>v=(.bool (decide (lo≤n∧n≤hi)):Value)∧h=h'):=by
 refine AN Tryz.func79 Z (Nb Z) ?_;refine Sq (Rg ?_);refine As (.bool false) Z Z ?_;refine Nl ?_;refine BA (fun σ' ds' h'=>ds'=[]∧h=h'∧σ' 6=.bool (decide ((lo≤n)∧(n≤hi)))) ?_ ?_
 ·refine Rg ?_;refine Mv (.int .i64 lo) Z Z ?_;refine Mv (.int .i64 n) Z Z ?_;refine Pl Z (C2 (a:=lo) (b:=n) Z Z ?_);refine Mv (.bool (decide (lo≤n))) Z Z ?_;refine BH (p:=lo≤n) ?_ ?_
  ·intro aa;refine Gg 3 10 (AD Z aa) Z (AA (v:=.int .i64 n) Z ?_);refine Gg 3 10 (AD Z aa) Z (AA (v:=.int .i64 hi) Z ?_);refine Gg 3 10 (AD Z aa) Z (C2 (a:=n) (b:=hi) Z Z ?_);refine Pk true (.bool (decide (n≤hi))) Z (AD Z aa) Z ?_;refine As (.bool (decide (n≤hi))) Z Z ?_;refine Nl ?_;exact ⟨Z,Z,Et (b:=(.bool (decide (n≤hi)):Value)) Z (congrArg Value.bool (by (simp [aa];done):decide (n≤hi)=(decide ((lo≤n)∧(n≤hi)))))⟩
  ·intro aa;refine Gs 3 10 (AC Z aa) Z ?_;refine Gs 3 10 (AC Z aa) Z ?_;refine Gs 3 10 (AC Z aa) Z ?_;refine Pk false (.bool false) Z (AC Z aa) Z ?_;refine As (.bool false) Z Z ?_;refine Nl ?_;exact ⟨Z,Z,Et (b:=(.bool false:Value)) Z (congrArg Value.bool (by (simp [aa];done):false=(decide ((lo≤n)∧(n≤hi)))))⟩
 ·rintro _ _ _ ⟨ac,ab,ad⟩;subst ac;subst ab;refine Rt ?_;refine ⟨.inr Z,Ac Z (v:=.bool (decide ((lo≤n)∧(n≤hi)))) ad ?_⟩;exact ⟨(by rfl),Z⟩
theorem IQ {W:Wk Tryz.prog} {h:GH} (xl:Int) (xh:Int) (lo:Int) (hi:Int):AZ W 129 #[.agg #[.int .i64 xl,.int .i64 xh],.int .i64 lo,.int .i64 hi] h (fun v h'=>v=(.bool (decide ((lo≤xl∧xl≤xh)∧xh≤hi)):Value)∧h.Le h'):=by
 refine AN Tryz.func129 Z (Nb Z) ?_;refine Sq (Rg ?_);refine Pl Z (Am (v:=.agg #[.int .i64 xl,.int .i64 xh]) (c:=#[.int .i64 xl,.int .i64 xh]) Z Z fun _ h2 _ ae ad _=>?_);refine As (.bool false) Z Z ?_;refine Nl ?_;refine BA (fun σ' ds' h'=>ds'=[]∧h2=h'∧σ' 6=.bool (decide (((lo≤xl)∧(xl≤xh))∧(xh≤hi)))) ?_ ?_
 ·refine Rg ?_;refine Mv (.int .i64 lo) Z Z ?_;refine Fa Fx.fld31_0 Z Z ?_;refine Ld (.int .i64 xl) Z Z (Rd.one Fx.ty3 ad Z) ?_;refine Pl Z (C2 (a:=lo) (b:=xl) Z Z ?_);refine Mv (.bool (decide (lo≤xl))) Z Z ?_;refine BH (p:=lo≤xl) ?_ ?_
  ·intro aa;refine Gg 4 11 (AD Z aa) Z (AF Fx.fld31_0 Z ?_);refine Gg 4 11 (AD Z aa) Z (AE (v:=.int .i64 xl) Z (Rd.one Fx.ty3 ad Z) ?_);refine Gg 4 11 (AD Z aa) Z (AF Fx.fld31_1 Z ?_);refine Gg 4 11 (AD Z aa) Z (AE (v:=.int .i64 xh) Z (Rd.one Fx.ty3 ad Z) ?_);refine Gg 4 11 (AD Z aa) Z (C2 (a:=xl) (b:=xh) Z Z ?_);refine Pk true (.bool (decide (xl≤xh))) Z (AD Z aa) Z ?_;refine Mv (.bool (decide (xl≤xh))) Z Z ?_;refine BH (p:=xl≤xh) ?_ ?_
   ·intro ab;refine Gg 11 18 (AD Z ab) Z (AF Fx.fld31_1 Z ?_);refine Gg 11 18 (AD Z ab) Z (AE (v:=.int .i64 xh) Z (Rd.one Fx.ty3 ad Z) ?_);refine Gg 11 18 (AD Z ab) Z (AA (v:=.int .i64 hi) Z ?_);refine Gg 11 18 (AD Z ab) Z (C2 (a:=xh) (b:=hi) Z Z ?_);refine Pk true (.bool (decide (xh≤hi))) Z (AD Z ab) Z ?_;refine As (.bool (decide (xh≤hi))) Z Z ?_;refine Nl ?_;exact ⟨Z,Z,Et (b:=(.bool (decide (xh≤hi)):Value)) Z (congrArg Value.bool (by (simp [aa,ab];done):decide (xh≤hi)=(decide (((lo≤xl)∧(xl≤xh))∧(xh≤hi)))))⟩
   ·intro ab;refine Gs 11 18 (AC Z ab) Z ?_;refine Gs 11 18 (AC Z ab) Z ?_;refine Gs 11 18 (AC Z ab) Z ?_;refine Gs 11 18 (AC Z ab) Z ?_;refine Pk false (.bool false) Z (AC Z ab) Z ?_;refine As (.bool false) Z Z ?_;refine Nl ?_;exact ⟨Z,Z,Et (b:=(.bool false:Value)) Z (congrArg Value.bool (by (simp [aa,ab];done):false=(decide (((lo≤xl)∧(xl≤xh))∧(xh≤hi)))))⟩
  ·intro aa;refine Gs 4 11 (AC Z aa) Z ?_;refine Gs 4 11 (AC Z aa) Z ?_;refine Gs 4 11 (AC Z aa) Z ?_;refine Gs 4 11 (AC Z aa) Z ?_;refine Gs 4 11 (AC Z aa) Z ?_;refine Pk false (.bool false) Z (AC Z aa) Z ?_;refine Mv (.bool false) Z Z ?_;refine Gs 11 18 Z Z ?_;refine Gs 11 18 Z Z ?_;refine Gs 11 18 Z Z ?_;refine Gs 11 18 Z Z ?_;refine Pk false (.bool false) Z Z Z ?_;refine As (.bool false) Z Z ?_;refine Nl ?_;exact ⟨Z,Z,Et (b:=(.bool false:Value)) Z (congrArg Value.bool (by (simp [aa];done):false=(decide (((lo≤xl)∧(xl≤xh))∧(xh≤hi)))))⟩
 ·rintro _ _ _ ⟨af,ac,ag⟩;subst af;subst ac;refine Rt ?_;refine ⟨.inr Z,Ac Z (v:=.bool (decide (((lo≤xl)∧(xl≤xh))∧(xh≤hi)))) ag ?_⟩;exact ⟨(by rfl),ae⟩
theorem Ox {W:Wk Tryz.prog} {h:GH} (xl:Int) (xh:Int):AZ W 201 #[.agg #[.int .i64 xl,.int .i64 xh]] h (fun v h'=>v=(.bool (decide (CH xl xh)):Value)∧h.Le h'):=by
 refine AN Tryz.func201 Z (Nb Z) ?_;refine Sq (Rg ?_);refine Pl Z (Am (v:=.agg #[.int .i64 xl,.int .i64 xh]) (c:=#[.int .i64 xl,.int .i64 xh]) Z Z fun _ h2 _ ae ah _=>?_);refine As (.bool false) Z Z ?_;refine Nl ?_;refine BA (fun σ' ds' h'=>ds'=[]∧GH.Le h2 h'∧σ' 2=.bool (decide (((0≤xl∧xl≤xh)∧xh≤99)∧((xh-xl)<3)))) ?_ ?_
 ·refine Rg ?_;refine Ld (.agg #[.int .i64 xl,.int .i64 xh]) Z Z (AL Fx.ty31 (Bx ah Z)) ?_;refine Pl Z (Ak Tryz.func129 Fx.call129 Z Z Z ((IQ xl xh 0 99 ).mono fun _ _ ai=>?_));obtain ⟨rfl,ab⟩:=ai;refine Mv (.bool (decide ((0≤xl∧xl≤xh)∧xh≤99))) Z Z ?_;refine BH (p:=(0≤xl∧xl≤xh)∧xh≤99) ?_ ?_
  ·intro aa;refine Gg 2 5 (AD Z aa) Z (AF Fx.fld31_1 Z ?_);have ac:=ab.keep ah Z;refine Gg 2 5 (AD Z aa) Z (AE (v:=.int .i64 xh) Z (Rd.one Fx.ty3 ac Z) ?_);refine Gg 2 5 (AD Z aa) Z (AF Fx.fld31_0 Z ?_);refine Gg 2 5 (AD Z aa) Z (AE (v:=.int .i64 xl) Z (Rd.one Fx.ty3 ac Z) ?_);refine Gg 2 5 (AD Z aa) Z (BE (a:=xh) (b:=xl) Z Z (by omega) ?_);refine Gg 2 5 (AD Z aa) Z (A1 (a:=xh-xl) (b:=3) Z Z ?_);refine Pk true (.bool (decide ((xh-xl)<3))) Z (AD Z aa) Z ?_;refine As (.bool (decide ((xh-xl)<3))) Z Z ?_;refine Nl ?_;exact ⟨Z,ab,Et (b:=(.bool (decide ((xh-xl)<3)):Value)) Z (congrArg Value.bool (by (simp [aa];done):decide ((xh-xl)<3)=(decide (((0≤xl∧xl≤xh)∧xh≤99)∧((xh-xl)<3)))))⟩
  ·intro aa;refine Gs 2 5 (AC Z aa) Z ?_;refine Gs 2 5 (AC Z aa) Z ?_;refine Gs 2 5 (AC Z aa) Z ?_;refine Gs 2 5 (AC Z aa) Z ?_;refine Gs 2 5 (AC Z aa) Z ?_;refine Gs 2 5 (AC Z aa) Z ?_;refine Pk false (.bool false) Z (AC Z aa) Z ?_;refine As (.bool false) Z Z ?_;refine Nl ?_;exact ⟨Z,ab,Et (b:=(.bool false:Value)) Z (congrArg Value.bool (by (simp [aa];done):false=(decide (((0≤xl∧xl≤xh)∧xh≤99)∧((xh-xl)<3)))))⟩
 ·rintro _ _ _ ⟨af,ad,ag⟩;subst af;refine Rt ?_;refine ⟨.inr Z,Ac Z (v:=.bool (decide (((0≤xl∧xl≤xh)∧xh≤99)∧((xh-xl)<3)))) ag ?_⟩;exact ⟨(by rfl),(ae.trans ad)⟩
theorem ES {W:Wk Tryz.prog} {h:GH} (b:Bool):AZ W 76 #[.bool b] h (fun v h'=>v=(.int .i64 (if b then (0:Int) else 6):Value)∧h=h'):=by
 refine AN Tryz.func76 Z (Nb Z) ?_;refine Sq (Rg ?_);refine As (.int .i64 0) Z Z ?_;refine Nl (Sq (Sq (Rg ?_)));refine Mv (.bool b) Z Z ?_;refine Pl Z (Cl (b:=b) Z ?_);refine Nl ?_;refine CN (t:= !b) Z (fun aa=>?_) (fun aa=>?_)
 ·have hc1_:b=false:=by simpa using aa
  refine Sq (Rg ?_);refine As (.int .i64 6) Z Z ?_;refine Nl (Rt ?_);refine ⟨.inr Z,Ac Z (v:=.int .i64 6) Z ?_⟩;exact ⟨(by simp_all),Z⟩
 ·have hc1_:b=true:=by simpa using aa
  refine Sk (Sq (Rg ?_));refine As (.int .i64 0) Z Z ?_;refine Nl (Rt ?_);refine ⟨.inr Z,Ac Z (v:=.int .i64 0) Z ?_⟩;exact ⟨(by simp_all),Z⟩
theorem D9 {W:Wk Tryz.prog} {h:GH} (b:Bool):AZ W 78 #[.bool b] h (fun v h'=>v=(.int .i64 (if b then (0:Int) else 1):Value)∧h=h'):=by
 refine AN Tryz.func78 Z (Nb Z) ?_;refine Sq (Rg ?_);refine As (.int .i64 0) Z Z ?_;refine Nl (Sq (Sq (Rg ?_)));refine Mv (.bool b) Z Z ?_;refine Pl Z (Cl (b:=b) Z ?_);refine Nl ?_;refine CN (t:= !b) Z (fun aa=>?_) (fun aa=>?_)
 ·have hc1_:b=false:=by simpa using aa
  refine Sq (Rg ?_);refine As (.int .i64 1) Z Z ?_;refine Nl (Rt ?_);refine ⟨.inr Z,Ac Z (v:=.int .i64 1) Z ?_⟩;exact ⟨(by simp_all),Z⟩
 ·have hc1_:b=true:=by simpa using aa
  refine Sk (Sq (Rg ?_));refine As (.int .i64 0) Z Z ?_;refine Nl (Rt ?_);refine ⟨.inr Z,Ac Z (v:=.int .i64 0) Z ?_⟩;exact ⟨(by simp_all),Z⟩
theorem Eu {W:Wk Tryz.prog} {h:GH} (d:Int) (m:Int) (gs:List Good) (gsv:Value) (ms:List AB) (msv:Value) (cs:List AJ) (csv:Value) (n:Int) (hgs:AK h gsv 5 A9 gs) (hms:AK h msv 5 Aw ms) (hcs:AK h csv 4 Ar cs):AZ W 77 #[.agg #[.int .i64 d,.int .i64 m,gsv,msv,csv],.int .i64 n] h (fun v h'=>v=(.bool (decide (0≤n∧n≤(gs.length:Int)-1)):Value)∧h.Le h'):=by
 have ab:=hgs.len;have ac:=hms.len;have ad:=hcs.len;refine AN Tryz.func77 Z (Nb Z) ?_;refine Sq (Rg ?_);refine Pl Z (Am (v:=.agg #[.int .i64 d,.int .i64 m,gsv,msv,csv]) (c:=#[.int .i64 d,.int .i64 m,gsv,msv,csv]) Z Z fun _ _ _ aa af _=>?_);refine As (.bool false) Z Z ?_;refine Nl (Sq (Rg ?_));refine Mv (.int .i64 n) Z Z ?_;refine Fa Fx.fld104_0 Z Z ?_;refine Fa Fx.fld26_2 Z Z ?_;refine Ld gsv Z Z (Rd.one Fx.ty22 af Z) ?_;refine Pl Z (AY Fx.sl22 (hgs.le aa) Z ?_);refine Pl Z (BE (a:=(gs.length:Int)) (b:=1) Z Z (by omega) ?_);refine Pl Z (Ak Tryz.func79 Fx.call79 Z Z Z ((BQ n 0 ((gs.length:Int)-1) ).mono fun _ _ ae=>?_));obtain ⟨rfl,rfl⟩:=ae;refine As (.bool (decide (0≤n∧n≤((gs.length:Int)-1)))) Z Z ?_;refine Nl (Rt ?_);refine ⟨.inr Z,Ac Z (v:=.bool (decide (0≤n∧n≤((gs.length:Int)-1)))) Z ?_⟩;exact ⟨(by rfl),aa⟩
theorem HQ {W:Wk Tryz.prog} {h:GH} (d:Int) (m:Int) (gs:List Good) (gsv:Value) (ms:List AB) (msv:Value) (cs:List AJ) (csv:Value) (n:Int) (hgs:AK h gsv 5 A9 gs) (hms:AK h msv 5 Aw ms) (hcs:AK h csv 4 Ar cs):AZ W 108 #[.agg #[.int .i64 d,.int .i64 m,gsv,msv,csv],.int .i64 n] h (fun v h'=>v=(.bool (decide (0≤n∧n≤(ms.length:Int)-1)):Value)∧h.Le h'):=by
 have ab:=hgs.len;have ac:=hms.len;have ad:=hcs.len;refine AN Tryz.func108 Z (Nb Z) ?_;refine Sq (Rg ?_);refine Pl Z (Am (v:=.agg #[.int .i64 d,.int .i64 m,gsv,msv,csv]) (c:=#[.int .i64 d,.int .i64 m,gsv,msv,csv]) Z Z fun _ _ _ aa af _=>?_);refine As (.bool false) Z Z ?_;refine Nl (Sq (Rg ?_));refine Mv (.int .i64 n) Z Z ?_;refine Fa Fx.fld104_0 Z Z ?_;refine Fa Fx.fld26_3 Z Z ?_;refine Ld msv Z Z (Rd.one Fx.ty23 af Z) ?_;refine Pl Z (AY Fx.sl23 (hms.le aa) Z ?_);refine Pl Z (BE (a:=(ms.length:Int)) (b:=1) Z Z (by omega) ?_);refine Pl Z (Ak Tryz.func79 Fx.call79 Z Z Z ((BQ n 0 ((ms.length:Int)-1) ).mono fun _ _ ae=>?_));obtain ⟨rfl,rfl⟩:=ae;refine As (.bool (decide (0≤n∧n≤((ms.length:Int)-1)))) Z Z ?_;refine Nl (Rt ?_);refine ⟨.inr Z,Ac Z (v:=.bool (decide (0≤n∧n≤((ms.length:Int)-1)))) Z ?_⟩;exact ⟨(by rfl),aa⟩
theorem JX {W:Wk Tryz.prog} {h:GH} (p:AQ) (i:Int) (hi0:0≤i) (hi1:i<6):AZ W 83 #[.agg (Ag p),.int .i64 i] h (fun v h'=>v=(.int .i64 (Bu p ((i).toNat)):Value)∧h.Le h'):=by
 refine AN Tryz.func83 Z (Nb Z) ?_;refine Sq (Rg ?_);refine Pl Z (Am (v:=.agg (Ag p)) (c:=Ag p) Z Z fun _ _ _ aa ad _=>?_);refine As (.int .i64 0) Z Z ?_;refine Nl (Sq (Sq (Rg ?_)));refine Mv (.int .i64 i) Z Z ?_;refine Fa Fx.fld119_2 Z Z ?_;have ae:(0:Int)≤i:=by omega
 have af:i<((6:Nat):Int):=by omega
 refine Pl Z (CV Fx.asz117 Z Z ae af ?_);refine Ld (.bool (p.lies (i.toNat))) Z Z (Rd.one Fx.ty4 ad (ID (i:=i.toNat) (by omega))) ?_;refine Nl ?_;refine CN (t:=p.lies (i.toNat)) Z (fun ag=>?_) (fun ag=>?_)
 ·refine Sq (Rg ?_);refine As (.int .i64 0) Z Z ?_;refine Nl (Rt ?_);refine ⟨.inr Z,Ac Z (v:=.int .i64 0) Z ?_⟩;exact ⟨(by simp_all [Bu]),aa⟩
 ·refine Sk (Sq (Rg ?_));refine Mv (.int .i64 i) Z Z ?_;refine Fa Fx.fld119_1 Z Z ?_;have ab:(0:Int)≤i:=by omega
  have ac:i<((6:Nat):Int):=by omega
  refine Pl Z (CV Fx.asz116 Z Z ab ac ?_);refine Ld (.int .i64 (p.many (i.toNat))) Z Z (Rd.one Fx.ty3 ad (Pa (i:=i.toNat) (by omega))) ?_;refine As (.int .i64 (p.many (i.toNat))) Z Z ?_;refine Nl (Rt ?_);refine ⟨.inr Z,Ac Z (v:=.int .i64 (p.many (i.toNat))) Z ?_⟩;exact ⟨(by simp_all [Bu]),aa⟩
theorem QO {W:Wk Tryz.prog} {h:GH} (p:AQ):AZ W 101 #[.agg (Ag p)] h (fun v h'=>v=(.int .i64 (Aq p 6:Int):Value)∧h.Le h'):=by
 refine AN Tryz.func101 Z (Nb Z) ?_;refine Sq (Rg ?_);refine Pl Z (Am (v:=.agg (Ag p)) (c:=Ag p) Z Z fun _ h2 _ ab al _=>?_);refine As (.int .i64 0) Z Z ?_;refine Nl (Sq (Rg ?_));refine As (.int .i64 0) Z Z ?_;refine Nl (Sq (Sq (Rg ?_)));refine Fa Fx.fld119_2 Z Z ?_;refine Ld (.agg #[.bool (p.lies 0),.bool (p.lies 1),.bool (p.lies 2),.bool (p.lies 3),.bool (p.lies 4),.bool (p.lies 5)]) Z Z (Ew (o:=9) (ws:=#[.bool (p.lies 0),.bool (p.lies 1),.bool (p.lies 2),.bool (p.lies 3),.bool (p.lies 4),.bool (p.lies 5)]) Fx.ty117 (Bx al Z) (Nb Z) Z) ?_;refine Mv (.int .i64 0) Z Z ?_;refine Nl (Bk ?_);refine Au (fun nn σ' ds' h'=>∃(k:Nat),nn=6-k∧(k≤6)∧ds'=[]∧GH.Le h2 h'∧σ' 2=.int .i64 0∧σ' 7=.agg #[.bool (p.lies 0),.bool (p.lies 1),.bool (p.lies 2),.bool (p.lies 3),.bool (p.lies 4),.bool (p.lies 5)]∧σ' 3=.int .i64 (Aq p k:Int)∧σ' 8=.int .i64 (k:Int)) ⟨0,Z,(by omega),Z,Lr,Z,Z,Z,Z⟩ (fun nn _ _ _ ac=>?_);obtain ⟨k,rfl,hk,am,ad,ak,ae,af,aa⟩:=ac;subst am;have hly:=KY p k;refine Sq (Rg ?_);refine Pl Z (A1 (a:=(k:Int)) (b:=6) aa Z ?_);refine Nl (Sq ?_);refine AX (p:=(k:Int)<6) Z (fun ag=>?_) (fun ag=>?_)
 ·refine Sk (Sq (Bk (Sq (Rg ?_))));have ah:(0:Int)≤(k:Int):=by omega
  have ai:(k:Int)<((6:Nat):Int):=by omega
  refine Pl Z (MC Fx.arr117 ae aa ah ai (OC (by omega)) ?_);refine As (.bool (p.lies k)) Z Z ?_;refine Nl (Sq (Rg ?_));refine Mv (.bool (p.lies k)) Z Z ?_;refine Nl ?_;refine CN (t:=p.lies k) Z (fun aj=>?_) (fun aj=>?_)
  ·refine Rg ?_;refine Mv (.int .i64 (Aq p k:Int)) Z af ?_;refine Ad (Aq p k:Int) 1 Z Z Z (by omega) ?_;refine As (.int .i64 ((Aq p k:Int)+1)) Z Z ?_;refine Nl (Rg ?_);refine Ad (k:Int) 1 Z aa Z (by omega) ?_;refine Mv (.int .i64 ((k:Int)+1)) Z Z ?_;refine Nl ?_;exact ⟨_,by omega,k+1,Z,(by omega),Z,ad,ak,ae,(Et (b:=(.int .i64 ((Aq p k:Int)+1):Value)) Z (by congr 1;simp_all [Aq])),Z⟩
  ·refine Sk (Rg ?_);refine Ad (k:Int) 1 Z aa Z (by omega) ?_;refine Mv (.int .i64 ((k:Int)+1)) Z Z ?_;refine Nl ?_;exact ⟨_,by omega,k+1,Z,(by omega),Z,ad,ak,ae,(Et (b:=(.int .i64 (Aq p k:Int):Value)) af (by congr 1;simp_all [Aq])),Z⟩
 ·refine Xt (Sq (Rg ?_));refine Mv (.int .i64 (Aq p k:Int)) Z af ?_;refine As (.int .i64 (Aq p k:Int)) Z Z ?_;refine Nl (Rt ?_);refine ⟨.inr Z,Ac Z (v:=.int .i64 (Aq p k:Int)) Z ?_⟩;exact ⟨(by obtain rfl:k=6:=(by omega);rfl),(ab.trans ad)⟩
theorem Lp {W:Wk Tryz.prog} {h:GH} (a:List Int) (av:Value) (b:List Int) (bv:Value) (ha:AK h av 1 eI a) (hb:AK h bv 1 eI b):AZ W 22 #[av,bv] h (fun v h'=>v=(.bool (decide (a=b)):Value)∧h.Le h'):=by
 have ad:=ha.len;have ae:=hb.len;refine AN Tryz.func22 Z (Nb Z) ?_;refine Sq (Rg ?_);refine As (.bool false) Z Z ?_;refine Nl (Sq (Sq (Rg ?_)));refine Mv av Z Z ?_;refine Pl Z (AY Fx.sl27 ha Z ?_);refine Mv bv Z Z ?_;refine Pl Z (AY Fx.sl27 hb Z ?_);refine Pl Z (A4 (a:=(a.length:Int)) (b:=(b.length:Int)) Z Z ?_);refine Nl ?_;refine AX (p:=¬(a.length:Int)=(b.length:Int)) Z (fun ar=>?_) (fun ar=>?_)
 ·refine Sq (Rg ?_);refine As (.bool false) Z Z ?_;refine Nl (Rt ?_);refine ⟨.inr Z,Ac Z (v:=.bool false) Z ?_⟩;exact ⟨(by (rw [decide_eq_false (Uo (by omega))];done)),Lr⟩
 ·refine Sk (Sq (Sq (Rg ?_)));refine As (.int .i64 0) Z Z ?_;refine Nl (Bk ?_);refine Au (fun nn σ' ds' h'=>∃(k:Nat),nn=a.length-k∧(k≤a.length)∧(a.take k=b.take k)∧ds'=[]∧GH.Le h h'∧σ' 0=av∧σ' 1=bv∧σ' 5=.int .i64 (k:Int)) ⟨0,Z,(by omega),(by rfl),Z,Lr,Z,Z,Z⟩ (fun nn _ _ _ au=>?_);obtain ⟨k,rfl,hk,hs,x8,x9,af,aq,ac⟩:=au;subst x8;refine Sq (Sq (Rg ?_));refine Mv (.int .i64 (k:Int)) Z ac ?_;refine Mv av Z af ?_;refine Pl Z (AY Fx.sl27 (ha.le x9) Z ?_);refine Pl Z (A1 (a:=(k:Int)) (b:=(a.length:Int)) Z Z ?_);refine Nl ?_;refine AX (p:=(k:Int)<(a.length:Int)) Z (fun ag=>?_) (fun ag=>?_)
  ·refine Sk (Sq (Bk (Sq ?_)));refine BI 8 false [1,6,10,16,21,26,30,36] Fx.mixed (by kernel_rfl) ?_;refine tR Z Z (AA (v:=av) af vz) ?_;refine tR Z Z (AA (v:=.int .i64 (k:Int)) ac vz) ?_;have ah:(0:Int)≤(k:Int):=by omega
   have ai:(k:Int)<((a.length:Nat):Int):=by omega
   refine tI Z Z Fx.esz27 ha Z Z ah ai fun aw aa aj=>?_;have ak:Aa _ aw aa 1 (eI (a.getD k 0)):=Aa.getD 0 aj;refine tR Z Z (AE (v:=.int .i64 (a.getD k 0)) Z (CE Fx.ty3 (ak.le x9) Z) vz) ?_;refine tR Z Z (AA (v:=bv) aq vz) ?_;refine tR Z Z (AA (v:=.int .i64 (k:Int)) ac vz) ?_;have al:(0:Int)≤(k:Int):=by omega
   have am:(k:Int)<((b.length:Nat):Int):=by omega
   refine tI Z Z Fx.esz27 hb Z Z al am fun ax ab an=>?_;have ao:Aa _ ax ab 1 (eI (b.getD k 0)):=Aa.getD 0 an;refine tR Z Z (AE (v:=.int .i64 (b.getD k 0)) Z (CE Fx.ty3 (ao.le x9) Z) vz) ?_;refine tN ?_;refine Pl Z (A4 (a:=a.getD k 0) (b:=b.getD k 0) Z Z ?_);refine Nl ?_;refine AX (p:=¬(a.getD k 0)=(b.getD k 0)) Z (fun ap=>?_) (fun ap=>?_)
   ·refine Sq (Rg ?_);refine As (.bool false) Z Z ?_;refine Nl (Rt ?_);refine ⟨.inr Z,Ac Z (v:=.bool false) Z ?_⟩;exact ⟨(by (rw [decide_eq_false (T4 (k:=k) (d:=0) ‹_›)])),x9⟩
   ·refine Sk (Rg ?_);refine Mv (.int .i64 (k:Int)) Z ac ?_;refine Ad (k:Int) 1 Z Z Z (by omega) ?_;refine As (.int .i64 ((k:Int)+1)) Z Z ?_;refine Nl ?_;exact ⟨_,by omega,k+1,Z,(by omega),(by exact KZ 0 hs (by omega) (by omega) (by simp_all)),Z,x9,af,aq,Z⟩
  ·refine Xt (Sq (Rg ?_));refine As (.bool true) Z Z ?_;refine Nl (Rt ?_);refine ⟨.inr Z,Ac Z (v:=.bool true) Z ?_⟩;exact ⟨(by (rw [decide_eq_true (M1 hs hk ‹_› (by omega))];done)),x9⟩
theorem TV {W:Wk Tryz.prog} {h:GH} (a:List Int) (av:Value) (n:Int) (ha:AK h av 1 eI a):AZ W 42 #[av,.int .i64 n] h (fun v h'=>v=(.bool (decide (n ∈ a)):Value)∧h.Le h'):=by
 have ab:=ha.len;refine AN Tryz.func42 Z (Nb Z) ?_;refine Sq (Rg ?_);refine As (.bool false) Z Z ?_;refine Nl (Sq (Sq (Rg ?_)));refine As (.int .i64 0) Z Z ?_;refine Nl (Bk ?_);refine Au (fun nn σ' ds' h'=>∃(k:Nat),nn=a.length-k∧(k≤a.length)∧(¬n ∈ a.take k)∧ds'=[]∧GH.Le h h'∧σ' 0=av∧σ' 1=.int .i64 n∧σ' 5=.int .i64 (k:Int)) ⟨0,Z,(by omega),(by simp),Z,Lr,Z,Z,Z⟩ (fun nn _ _ _ aj=>?_);obtain ⟨k,rfl,hk,hs,x6,x7,x8,x9,ac⟩:=aj;subst x6;refine Sq (Sq (Rg ?_));refine Mv (.int .i64 (k:Int)) Z ac ?_;refine Mv av Z x8 ?_;refine Pl Z (AY Fx.sl27 (ha.le x7) Z ?_);refine Pl Z (A1 (a:=(k:Int)) (b:=(a.length:Int)) Z Z ?_);refine Nl ?_;refine AX (p:=(k:Int)<(a.length:Int)) Z (fun ad=>?_) (fun ad=>?_)
 ·refine Sk (Sq (Bk (Sq (Rg ?_))));refine Mv av Z x8 ?_;refine Mv (.int .i64 (k:Int)) Z ac ?_;have ae:(0:Int)≤(k:Int):=by omega
  have af:(k:Int)<((a.length:Nat):Int):=by omega
  refine Pl Z (A0 Fx.esz27 ha Z Z ae af fun ak aa ag=>?_);have ah:Aa _ ak aa 1 (eI (a.getD k 0)):=Aa.getD 0 ag;refine Ld (.int .i64 (a.getD k 0)) Z Z (CE Fx.ty3 (ah.le x7) Z) ?_;refine Mv (.int .i64 n) Z x9 ?_;refine Pl Z (Bc (a:=a.getD k 0) (b:=n) Z Z ?_);refine Nl ?_;refine AX (p:=(a.getD k 0)=n) Z (fun ai=>?_) (fun ai=>?_)
  ·refine Sq (Rg ?_);refine As (.bool true) Z Z ?_;refine Nl (Rt ?_);refine ⟨.inr Z,Ac Z (v:=.bool true) Z ?_⟩;exact ⟨(by (rw [decide_eq_true (T5 (k:=k) ‹_› ‹_›)];done)),x7⟩
  ·refine Sk (Rg ?_);refine Mv (.int .i64 (k:Int)) Z ac ?_;refine Ad (k:Int) 1 Z Z Z (by omega) ?_;refine As (.int .i64 ((k:Int)+1)) Z Z ?_;refine Nl ?_;exact ⟨_,by omega,k+1,Z,(by omega),(by exact Si ‹_› hs ‹_›),Z,x7,x8,x9,Z⟩
 ·refine Xt (Sq (Rg ?_));refine As (.bool false) Z Z ?_;refine Nl (Rt ?_);refine ⟨.inr Z,Ac Z (v:=.bool false) Z ?_⟩;exact ⟨(by (rw [decide_eq_false (T6 (k:=k) ‹_› hs)])),x7⟩
theorem El {W:Wk Tryz.prog} {h:GH} (n:Int) (lo:Int) (hi:Int):AZ W 59 #[.int .i64 n,.int .i64 lo,.int .i64 hi] h (fun v h'=>v=(.bool (decide (lo≤n∧n≤hi)):Value)∧h=h'):=by
 refine AN Tryz.func59 Z (Nb Z) ?_;refine Sq (Rg ?_);refine As (.bool false) Z Z ?_;refine Nl ?_;refine BA (fun σ' ds' h'=>ds'=[]∧h=h'∧σ' 6=.bool (decide ((lo≤n)∧(n≤hi)))) ?_ ?_
 ·refine Rg ?_;refine Mv (.int .i64 n) Z Z ?_;refine Mv (.int .i64 lo) Z Z ?_;refine Pl Z (CD (a:=n) (b:=lo) Z Z ?_);refine Mv (.bool (decide (lo≤n))) Z Z ?_;refine BH (p:=lo≤n) ?_ ?_
  ·intro aa;refine Gg 3 10 (AD Z aa) Z (AA (v:=.int .i64 n) Z ?_);refine Gg 3 10 (AD Z aa) Z (AA (v:=.int .i64 hi) Z ?_);refine Gg 3 10 (AD Z aa) Z (C2 (a:=n) (b:=hi) Z Z ?_);refine Pk true (.bool (decide (n≤hi))) Z (AD Z aa) Z ?_;refine As (.bool (decide (n≤hi))) Z Z ?_;refine Nl ?_;exact ⟨Z,Z,Et (b:=(.bool (decide (n≤hi)):Value)) Z (congrArg Value.bool (by (simp [aa];done):decide (n≤hi)=(decide ((lo≤n)∧(n≤hi)))))⟩
  ·intro aa;refine Gs 3 10 (AC Z aa) Z ?_;refine Gs 3 10 (AC Z aa) Z ?_;refine Gs 3 10 (AC Z aa) Z ?_;refine Pk false (.bool false) Z (AC Z aa) Z ?_;refine As (.bool false) Z Z ?_;refine Nl ?_;exact ⟨Z,Z,Et (b:=(.bool false:Value)) Z (congrArg Value.bool (by (simp [aa];done):false=(decide ((lo≤n)∧(n≤hi)))))⟩
 ·rintro _ _ _ ⟨ac,ab,ad⟩;subst ac;subst ab;refine Rt ?_;refine ⟨.inr Z,Ac Z (v:=.bool (decide ((lo≤n)∧(n≤hi)))) ad ?_⟩;exact ⟨(by rfl),Z⟩
theorem EF {W:Wk Tryz.prog} {h:GH} (xl:Int) (xh:Int) (lo:Int) (hi:Int):AZ W 65 #[.agg #[.int .i64 xl,.int .i64 xh],.int .i64 lo,.int .i64 hi] h (fun v h'=>v=(.bool (decide ((lo≤xl∧xl≤xh)∧xh≤hi)):Value)∧h.Le h'):=by
 refine AN Tryz.func65 Z (Nb Z) ?_;refine Sq (Rg ?_);refine Pl Z (Am (v:=.agg #[.int .i64 xl,.int .i64 xh]) (c:=#[.int .i64 xl,.int .i64 xh]) Z Z fun _ h2 _ ae ad _=>?_);refine As (.bool false) Z Z ?_;refine Nl ?_;refine BA (fun σ' ds' h'=>ds'=[]∧h2=h'∧σ' 6=.bool (decide (((lo≤xl)∧(xl≤xh))∧(xh≤hi)))) ?_ ?_
 ·refine Rg ?_;refine Fa Fx.fld31_0 Z Z ?_;refine Ld (.int .i64 xl) Z Z (Rd.one Fx.ty3 ad Z) ?_;refine Mv (.int .i64 lo) Z Z ?_;refine Pl Z (CD (a:=xl) (b:=lo) Z Z ?_);refine Mv (.bool (decide (lo≤xl))) Z Z ?_;refine BH (p:=lo≤xl) ?_ ?_
  ·intro aa;refine Gg 4 11 (AD Z aa) Z (AF Fx.fld31_1 Z ?_);refine Gg 4 11 (AD Z aa) Z (AE (v:=.int .i64 xh) Z (Rd.one Fx.ty3 ad Z) ?_);refine Gg 4 11 (AD Z aa) Z (AF Fx.fld31_0 Z ?_);refine Gg 4 11 (AD Z aa) Z (AE (v:=.int .i64 xl) Z (Rd.one Fx.ty3 ad Z) ?_);refine Gg 4 11 (AD Z aa) Z (CD (a:=xh) (b:=xl) Z Z ?_);refine Pk true (.bool (decide (xl≤xh))) Z (AD Z aa) Z ?_;refine Mv (.bool (decide (xl≤xh))) Z Z ?_;refine BH (p:=xl≤xh) ?_ ?_
   ·intro ab;refine Gg 11 18 (AD Z ab) Z (AF Fx.fld31_1 Z ?_);refine Gg 11 18 (AD Z ab) Z (AE (v:=.int .i64 xh) Z (Rd.one Fx.ty3 ad Z) ?_);refine Gg 11 18 (AD Z ab) Z (AA (v:=.int .i64 hi) Z ?_);refine Gg 11 18 (AD Z ab) Z (C2 (a:=xh) (b:=hi) Z Z ?_);refine Pk true (.bool (decide (xh≤hi))) Z (AD Z ab) Z ?_;refine As (.bool (decide (xh≤hi))) Z Z ?_;refine Nl ?_;exact ⟨Z,Z,Et (b:=(.bool (decide (xh≤hi)):Value)) Z (congrArg Value.bool (by (simp [aa,ab];done):decide (xh≤hi)=(decide (((lo≤xl)∧(xl≤xh))∧(xh≤hi)))))⟩
   ·intro ab;refine Gs 11 18 (AC Z ab) Z ?_;refine Gs 11 18 (AC Z ab) Z ?_;refine Gs 11 18 (AC Z ab) Z ?_;refine Gs 11 18 (AC Z ab) Z ?_;refine Pk false (.bool false) Z (AC Z ab) Z ?_;refine As (.bool false) Z Z ?_;refine Nl ?_;exact ⟨Z,Z,Et (b:=(.bool false:Value)) Z (congrArg Value.bool (by (simp [aa,ab];done):false=(decide (((lo≤xl)∧(xl≤xh))∧(xh≤hi)))))⟩
  ·intro aa;refine Gs 4 11 (AC Z aa) Z ?_;refine Gs 4 11 (AC Z aa) Z ?_;refine Gs 4 11 (AC Z aa) Z ?_;refine Gs 4 11 (AC Z aa) Z ?_;refine Gs 4 11 (AC Z aa) Z ?_;refine Pk false (.bool false) Z (AC Z aa) Z ?_;refine Mv (.bool false) Z Z ?_;refine Gs 11 18 Z Z ?_;refine Gs 11 18 Z Z ?_;refine Gs 11 18 Z Z ?_;refine Gs 11 18 Z Z ?_;refine Pk false (.bool false) Z Z Z ?_;refine As (.bool false) Z Z ?_;refine Nl ?_;exact ⟨Z,Z,Et (b:=(.bool false:Value)) Z (congrArg Value.bool (by (simp [aa];done):false=(decide (((lo≤xl)∧(xl≤xh))∧(xh≤hi)))))⟩
 ·rintro _ _ _ ⟨af,ac,ag⟩;subst af;subst ac;refine Rt ?_;refine ⟨.inr Z,Ac Z (v:=.bool (decide (((lo≤xl)∧(xl≤xh))∧(xh≤hi)))) ag ?_⟩;exact ⟨(by rfl),ae⟩
theorem LI {W:Wk Tryz.prog} {h:GH} (xl:Int) (xh:Int):AZ W 143 #[.agg #[.int .i64 xl,.int .i64 xh]] h (fun v h'=>v=(.bool (decide (CH xl xh)):Value)∧h.Le h'):=by
 refine AN Tryz.func143 Z (Nb Z) ?_;refine Sq (Rg ?_);refine Pl Z (Am (v:=.agg #[.int .i64 xl,.int .i64 xh]) (c:=#[.int .i64 xl,.int .i64 xh]) Z Z fun _ h2 _ ae ah _=>?_);refine As (.bool false) Z Z ?_;refine Nl ?_;refine BA (fun σ' ds' h'=>ds'=[]∧GH.Le h2 h'∧σ' 2=.bool (decide (((0≤xl∧xl≤xh)∧xh≤99)∧((xh-xl)<3)))) ?_ ?_
 ·refine Rg ?_;refine Ld (.agg #[.int .i64 xl,.int .i64 xh]) Z Z (AL Fx.ty31 (Bx ah Z)) ?_;refine Pl Z (Ak Tryz.func65 Fx.call65 Z Z Z ((EF xl xh 0 99 ).mono fun _ _ ai=>?_));obtain ⟨rfl,ab⟩:=ai;refine Mv (.bool (decide ((0≤xl∧xl≤xh)∧xh≤99))) Z Z ?_;refine BH (p:=(0≤xl∧xl≤xh)∧xh≤99) ?_ ?_
  ·intro aa;refine Gg 2 5 (AD Z aa) Z (AF Fx.fld31_1 Z ?_);have ac:=ab.keep ah Z;refine Gg 2 5 (AD Z aa) Z (AE (v:=.int .i64 xh) Z (Rd.one Fx.ty3 ac Z) ?_);refine Gg 2 5 (AD Z aa) Z (AF Fx.fld31_0 Z ?_);refine Gg 2 5 (AD Z aa) Z (AE (v:=.int .i64 xl) Z (Rd.one Fx.ty3 ac Z) ?_);refine Gg 2 5 (AD Z aa) Z (BE (a:=xh) (b:=xl) Z Z (by omega) ?_);refine Gg 2 5 (AD Z aa) Z (A1 (a:=xh-xl) (b:=3) Z Z ?_);refine Pk true (.bool (decide ((xh-xl)<3))) Z (AD Z aa) Z ?_;refine As (.bool (decide ((xh-xl)<3))) Z Z ?_;refine Nl ?_;exact ⟨Z,ab,Et (b:=(.bool (decide ((xh-xl)<3)):Value)) Z (congrArg Value.bool (by (simp [aa];done):decide ((xh-xl)<3)=(decide (((0≤xl∧xl≤xh)∧xh≤99)∧((xh-xl)<3)))))⟩
  ·intro aa;refine Gs 2 5 (AC Z aa) Z ?_;refine Gs 2 5 (AC Z aa) Z ?_;refine Gs 2 5 (AC Z aa) Z ?_;refine Gs 2 5 (AC Z aa) Z ?_;refine Gs 2 5 (AC Z aa) Z ?_;refine Gs 2 5 (AC Z aa) Z ?_;refine Pk false (.bool false) Z (AC Z aa) Z ?_;refine As (.bool false) Z Z ?_;refine Nl ?_;exact ⟨Z,ab,Et (b:=(.bool false:Value)) Z (congrArg Value.bool (by (simp [aa];done):false=(decide (((0≤xl∧xl≤xh)∧xh≤99)∧((xh-xl)<3)))))⟩
 ·rintro _ _ _ ⟨af,ad,ag⟩;subst af;refine Rt ?_;refine ⟨.inr Z,Ac Z (v:=.bool (decide (((0≤xl∧xl≤xh)∧xh≤99)∧((xh-xl)<3)))) ag ?_⟩;exact ⟨(by rfl),(ae.trans ad)⟩
theorem Oy {W:Wk Tryz.prog} {h:GH} (c:Int):AZ W 156 #[.int .u8 c] h (fun v h'=>v=(.bool (decide (DB c)):Value)∧h=h'):=by
 refine AN Tryz.func156 Z (Nb Z) ?_;refine Sq (Rg ?_);refine As (.bool false) Z Z ?_;refine Nl ?_;refine BA (fun σ' ds' h'=>ds'=[]∧h=h'∧σ' 2=.bool (decide ((97≤c)∧(c≤122)))) ?_ ?_
 ·refine Rg ?_;refine Mv (.int .u8 c) Z Z ?_;refine Pl Z (CD (a:=c) (b:=97) Z Z ?_);refine Mv (.bool (decide (97≤c))) Z Z ?_;refine BH (p:=97≤c) ?_ ?_
  ·intro aa;refine Gg 2 5 (AD Z aa) Z (AA (v:=.int .u8 c) Z ?_);refine Gg 2 5 (AD Z aa) Z (C2 (a:=c) (b:=122) Z Z ?_);refine Pk true (.bool (decide (c≤122))) Z (AD Z aa) Z ?_;refine As (.bool (decide (c≤122))) Z Z ?_;refine Nl ?_;exact ⟨Z,Z,Et (b:=(.bool (decide (c≤122)):Value)) Z (congrArg Value.bool (by (simp [aa];done):decide (c≤122)=(decide ((97≤c)∧(c≤122)))))⟩
  ·intro aa;refine Gs 2 5 (AC Z aa) Z ?_;refine Gs 2 5 (AC Z aa) Z ?_;refine Pk false (.bool false) Z (AC Z aa) Z ?_;refine As (.bool false) Z Z ?_;refine Nl ?_;exact ⟨Z,Z,Et (b:=(.bool false:Value)) Z (congrArg Value.bool (by (simp [aa];done):false=(decide ((97≤c)∧(c≤122)))))⟩
 ·rintro _ _ _ ⟨ac,ab,ad⟩;subst ac;subst ab;refine Rt ?_;refine ⟨.inr Z,Ac Z (v:=.bool (decide ((97≤c)∧(c≤122)))) ad ?_⟩;exact ⟨(by rfl),Z⟩
theorem QP {W:Wk Tryz.prog} {h:GH} (c:Int):AZ W 157 #[.int .u8 c] h (fun v h'=>v=(.bool (decide (DP c)):Value)∧h=h'):=by
 refine AN Tryz.func157 Z (Nb Z) ?_;refine Sq (Rg ?_);refine As (.bool false) Z Z ?_;refine Nl ?_;refine BA (fun σ' ds' h'=>ds'=[]∧h=h'∧σ' 2=.bool (decide ((48≤c)∧(c≤57)))) ?_ ?_
 ·refine Rg ?_;refine Mv (.int .u8 c) Z Z ?_;refine Pl Z (CD (a:=c) (b:=48) Z Z ?_);refine Mv (.bool (decide (48≤c))) Z Z ?_;refine BH (p:=48≤c) ?_ ?_
  ·intro aa;refine Gg 2 5 (AD Z aa) Z (AA (v:=.int .u8 c) Z ?_);refine Gg 2 5 (AD Z aa) Z (C2 (a:=c) (b:=57) Z Z ?_);refine Pk true (.bool (decide (c≤57))) Z (AD Z aa) Z ?_;refine As (.bool (decide (c≤57))) Z Z ?_;refine Nl ?_;exact ⟨Z,Z,Et (b:=(.bool (decide (c≤57)):Value)) Z (congrArg Value.bool (by (simp [aa];done):decide (c≤57)=(decide ((48≤c)∧(c≤57)))))⟩
  ·intro aa;refine Gs 2 5 (AC Z aa) Z ?_;refine Gs 2 5 (AC Z aa) Z ?_;refine Pk false (.bool false) Z (AC Z aa) Z ?_;refine As (.bool false) Z Z ?_;refine Nl ?_;exact ⟨Z,Z,Et (b:=(.bool false:Value)) Z (congrArg Value.bool (by (simp [aa];done):false=(decide ((48≤c)∧(c≤57)))))⟩
 ·rintro _ _ _ ⟨ac,ab,ad⟩;subst ac;subst ab;refine Rt ?_;refine ⟨.inr Z,Ac Z (v:=.bool (decide ((48≤c)∧(c≤57)))) ad ?_⟩;exact ⟨(by rfl),Z⟩
theorem ET {W:Wk Tryz.prog} {h:GH} (a:Int) (b:Int):AZ W 60 #[.int .i64 a,.int .i64 b] h (fun v h'=>v=(.agg #[.int .i64 a,.int .i64 b]:Value)∧h.Le h'):=by
 refine AN Tryz.func60 Z (Nb Z) ?_;refine Sq (Rg ?_);refine Pl Z (Ab Fx.zero31 fun _ _ ab aa ac _=>?_);refine Nl (Sq (Rg ?_));refine Mv (.int .i64 a) Z Z ?_;refine Mv (.int .i64 b) Z Z ?_;refine Pl Z (Ap (cells:=#[.int .i64 a,.int .i64 b]) Fx.pl31 Fx.zero31 (by kernel_rfl) ?_);refine Pl Z (AG (v:=.agg #[.int .i64 a,.int .i64 b]) (c':=#[.int .i64 a,.int .i64 b]) Fx.ty31 Z Z ac Z Z (by simp) Z fun _ ad ae=>?_);refine Nl (Rt ?_);refine ⟨.inr Z,G7 Z (v:=.agg #[.int .i64 a,.int .i64 b]) Z (AL Fx.ty31 (Bx ad Z)) ?_⟩;exact ⟨Z,(aa.upd (Ln Lr ab) ae)⟩
theorem Fu {W:Wk Tryz.prog} {h:GH} (d:Int) (m:Int) (gs:List Good) (gsv:Value) (ms:List AB) (msv:Value) (cs:List AJ) (csv:Value) (n:Int) (hgs:AK h gsv 5 A9 gs) (hms:AK h msv 5 Aw ms) (hcs:AK h csv 4 Ar cs):AZ W 110 #[.agg #[.int .i64 d,.int .i64 m,gsv,msv,csv],.int .i64 n] h (fun v h'=>v=(.bool (decide ((0≤n∧n≤(ms.length:Int)-1)∧(ms.getD (n).toNat AB.z).kind=0)):Value)∧h.Le h'):=by
 have af:=hgs.len;have ag:=hms.len;have ah:=hcs.len;refine AN Tryz.func110 Z (Nb Z) ?_;refine Sq (Rg ?_);refine Pl Z (Am (v:=.agg #[.int .i64 d,.int .i64 m,gsv,msv,csv]) (c:=#[.int .i64 d,.int .i64 m,gsv,msv,csv]) Z Z fun _ h5 _ ac ap _=>?_);refine As (.bool false) Z Z ?_;refine Nl ?_;refine BA (fun σ' ds' h'=>ds'=[]∧GH.Le h5 h'∧σ' 4=.bool (decide ((0≤n∧n≤(ms.length:Int)-1)∧(((ms.getD (n.toNat) AB.z).kind)=0)))) ?_ ?_
 ·refine Rg ?_;refine Ld (.agg #[.int .i64 d,.int .i64 m,gsv,msv,csv]) Z Z (AL Fx.ty104 (Bx ap Z)) ?_;refine Mv (.int .i64 n) Z Z ?_;refine Pl Z (AW Tryz.func108 Fx.call108 Z Z ((HQ d m gs gsv ms msv cs csv n (hgs.le ac) (hms.le ac) (hcs.le ac) ).mono fun _ _ ai=>?_));obtain ⟨rfl,ab⟩:=ai;refine Mv (.bool (decide (0≤n∧n≤(ms.length:Int)-1))) Z Z ?_;refine BH (p:=0≤n∧n≤(ms.length:Int)-1) ?_ ?_
  ·intro aa;refine Gg 3 8 (AD Z aa) Z (AF Fx.fld104_0 Z ?_);refine Gg 3 8 (AD Z aa) Z (AF Fx.fld26_3 Z ?_);refine Gg 3 8 (AD Z aa) Z (AE (v:=msv) Z (Rd.one Fx.ty23 (ab.keep ap Z) Z) ?_);refine Gg 3 8 (AD Z aa) Z (AA (v:=.int .i64 n) Z ?_);have aj:(0:Int)≤n:=by omega
   have ak:n<((ms.length:Nat):Int):=by omega
   refine Gg 3 8 (AD Z aa) Z (A0 Fx.esz23 hms Z Z aj ak fun aq ad al=>?_);have am:Aa _ aq ad 5 (Aw (ms.getD (n.toNat) AB.z)):=Aa.getD AB.z al;refine Gg 3 8 (AD Z aa) Z (AF Fx.fld75_0 Z ?_);refine Gg 3 8 (AD Z aa) Z (AE (v:=.int .i64 ((ms.getD (n.toNat) AB.z).kind)) Z (CE Fx.ty73 (am.le (ac.trans ab)) Z) ?_);refine Gg 3 8 (AD Z aa) Z (Bc (a:=(ms.getD (n.toNat) AB.z).kind) (b:=0) Z Z ?_);refine Pk true (.bool (decide (((ms.getD (n.toNat) AB.z).kind)=0))) Z (AD Z aa) Z ?_;refine As (.bool (decide (((ms.getD (n.toNat) AB.z).kind)=0))) Z Z ?_;refine Nl ?_;exact ⟨Z,ab,Et (b:=(.bool (decide (((ms.getD (n.toNat) AB.z).kind)=0)):Value)) Z (congrArg Value.bool (by (simp [aa];done):decide (((ms.getD (n.toNat) AB.z).kind)=0)=(decide ((0≤n∧n≤(ms.length:Int)-1)∧(((ms.getD (n.toNat) AB.z).kind)=0)))))⟩
  ·intro aa;refine Gs 3 8 (AC Z aa) Z ?_;refine Gs 3 8 (AC Z aa) Z ?_;refine Gs 3 8 (AC Z aa) Z ?_;refine Gs 3 8 (AC Z aa) Z ?_;refine Gs 3 8 (AC Z aa) Z ?_;refine Gs 3 8 (AC Z aa) Z ?_;refine Gs 3 8 (AC Z aa) Z ?_;refine Gs 3 8 (AC Z aa) Z ?_;refine Pk false (.bool false) Z (AC Z aa) Z ?_;refine As (.bool false) Z Z ?_;refine Nl ?_;exact ⟨Z,ab,Et (b:=(.bool false:Value)) Z (congrArg Value.bool (by (simp [aa];done):false=(decide ((0≤n∧n≤(ms.length:Int)-1)∧(((ms.getD (n.toNat) AB.z).kind)=0)))))⟩
 ·rintro _ _ _ ⟨an,ae,ao⟩;subst an;refine Rt ?_;refine ⟨.inr Z,Ac Z (v:=.bool (decide ((0≤n∧n≤(ms.length:Int)-1)∧(((ms.getD (n.toNat) AB.z).kind)=0)))) ao ?_⟩;exact ⟨(by rfl),(ac.trans ae)⟩
theorem Rz {W:Wk Tryz.prog} {h:GH} (d:Int) (m:Int) (gs:List Good) (gsv:Value) (ms:List AB) (msv:Value) (cs:List AJ) (csv:Value) (hgs:AK h gsv 5 A9 gs) (hms:AK h msv 5 Aw ms) (hcs:AK h csv 4 Ar cs):AZ W 194 #[.agg #[.int .i64 d,.int .i64 m,gsv,msv,csv]] h (fun v h'=>v=(.int .i64 (DT d m):Value)∧h.Le h'):=by
 have ad:=hgs.len;have ae:=hms.len;have af:=hcs.len;refine AN Tryz.func194 Z (Nb Z) ?_;refine Sq (Rg ?_);refine Pl Z (Am (v:=.agg #[.int .i64 d,.int .i64 m,gsv,msv,csv]) (c:=#[.int .i64 d,.int .i64 m,gsv,msv,csv]) Z Z fun _ h5 _ ab al _=>?_);refine As (.int .i64 0) Z Z ?_;refine Nl (Sq ?_);refine BA (fun σ' ds' h'=>ds'=[]∧h5=h'∧σ' 2=.int .i64 0∧σ' 14=.bool (decide ((¬(1≤d∧d≤99))∨(¬(0≤m∧m≤2))))) ?_ ?_
 ·refine Rg ?_;refine Fa Fx.fld104_0 Z Z ?_;refine Fa Fx.fld26_0 Z Z ?_;refine Ld (.int .i64 d) Z Z (Rd.one Fx.ty3 al Z) ?_;refine Pl Z (Ak Tryz.func79 Fx.call79 Z Z Z ((BQ d 1 99 ).mono fun _ _ ag=>?_));obtain ⟨rfl,rfl⟩:=ag;refine Pl Z (BF (p:=1≤d∧d≤99) Z ?_);refine Mv (.bool (decide (¬(1≤d∧d≤99)))) Z Z ?_;refine BH (p:=¬(1≤d∧d≤99)) ?_ ?_
  ·intro aa;refine Gs 5 8 (AD Z aa) Z ?_;refine Gs 5 8 (AD Z aa) Z ?_;refine Gs 5 8 (AD Z aa) Z ?_;refine Gs 5 8 (AD Z aa) Z ?_;refine Gs 5 8 (AD Z aa) Z ?_;refine Pk true (.bool true) Z (AD Z aa) Z ?_;refine Nl ?_;exact ⟨Z,Z,Z,Et (b:=(.bool true:Value)) Z (congrArg Value.bool (by (simp [aa];done):true=(decide ((¬(1≤d∧d≤99))∨(¬(0≤m∧m≤2))))))⟩
  ·intro aa;refine Gg 5 8 (AC Z aa) Z (AF Fx.fld104_0 Z ?_);refine Gg 5 8 (AC Z aa) Z (AF Fx.fld26_1 Z ?_);refine Gg 5 8 (AC Z aa) Z (AE (v:=.int .i64 m) Z (Rd.one Fx.ty3 al Z) ?_);refine Gg 5 8 (AC Z aa) Z (Ak Tryz.func79 Fx.call79 Z Z Z ((BQ m 0 2 ).mono fun _ _ ah=>?_));obtain ⟨rfl,rfl⟩:=ah;refine Gg 5 8 (AC Z aa) Z (BF (p:=0≤m∧m≤2) Z ?_);refine Pk false (.bool (decide (¬(0≤m∧m≤2)))) Z (AC Z aa) Z ?_;refine Nl ?_;exact ⟨Z,Z,Z,Et (b:=(.bool (decide (¬(0≤m∧m≤2))):Value)) Z (congrArg Value.bool (by (simp [aa];done):decide (¬(0≤m∧m≤2))=(decide ((¬(1≤d∧d≤99))∨(¬(0≤m∧m≤2))))))⟩
 ·rintro _ _ _ ⟨ai,ac,am,aj⟩;subst ai;subst ac;refine AX (p:=(¬(1≤d∧d≤99))∨(¬(0≤m∧m≤2))) aj (fun ak=>?_) (fun ak=>?_)
  ·refine Sq (Rg ?_);refine As (.int .i64 1) Z Z ?_;refine Nl (Rt ?_);refine ⟨.inr Z,Ac Z (v:=.int .i64 1) Z ?_⟩;exact ⟨(by simp_all [DT]),ab⟩
  ·refine Sk (Sq (Rg ?_));refine As (.int .i64 0) Z Z ?_;refine Nl (Rt ?_);refine ⟨.inr Z,Ac Z (v:=.int .i64 0) Z ?_⟩;exact ⟨(by simp_all [DT]),ab⟩
theorem Lq {W:Wk Tryz.prog} {h:GH} (xs:List Int) (xsv:Value) (fv:Value) (p:Int→Bool) (hxs:AK h xsv 1 eI xs) (hf:∀x ∈ xs,∀h1,h.Le h1→CA W fv #[.int .i64 x] h1 fun v h2=>v=.bool (p x)∧h1.Le h2):AZ W 139 #[xsv,fv] h (fun v h'=>v=(.int .i64 (idxOf p xs):Value)∧h.Le h'):=by
 have ac:=hxs.len;refine AN Tryz.func139 Z (Nb Z) ?_;refine Sq (Rg ?_);refine As (.int .i64 0) Z Z ?_;refine Nl (Sq (Sq (Rg ?_)));refine Mv xsv Z Z ?_;refine Pl Z (AY Fx.sl27 hxs Z ?_);refine Mv (.int .i64 0) Z Z ?_;refine Nl (Bk ?_);refine Au (fun nn σ' ds' h'=>∃(k:Nat),nn=xs.length-k∧(k≤xs.length)∧((xs.take k).any p=false)∧ds'=[]∧GH.Le h h'∧σ' 0=xsv∧σ' 1=fv∧σ' 7=.int .i64 (xs.length:Int)∧σ' 8=.int .i64 (k:Int)) ⟨0,Z,(by omega),(by simp),Z,Lr,Z,Z,Z,Z⟩ (fun nn _ _ _ am=>?_);obtain ⟨k,rfl,hk,hs,x6,x7,x8,x9,al,ad⟩:=am;subst x6;refine Sq (Rg ?_);refine Pl Z (A1 (a:=(k:Int)) (b:=(xs.length:Int)) ad al ?_);refine Nl (Sq ?_);refine AX (p:=(k:Int)<(xs.length:Int)) Z (fun ae=>?_) (fun ae=>?_)
 ·refine Sk (Sq (Bk (Sq (Rg ?_))));refine Mv (.int .i64 (k:Int)) Z ad ?_;refine As (.int .i64 (k:Int)) Z Z ?_;refine Nl (Sq (Rg ?_));refine Mv fv Z x9 ?_;refine Mv xsv Z x8 ?_;refine Mv (.int .i64 (k:Int)) Z Z ?_;have af:(0:Int)≤(k:Int):=by omega
  have ag:(k:Int)<((xs.length:Nat):Int):=by omega
  refine Pl Z (A0 Fx.esz27 hxs Z Z af ag fun an ab ah=>?_);have ai:Aa _ an ab 1 (eI (xs.getD k 0)):=Aa.getD 0 ah;refine Ld (.int .i64 (xs.getD k 0)) Z Z (CE Fx.ty3 (ai.le x7) Z) ?_;refine Pl Z (Ga Z (vs:=#[.int .i64 (xs.getD k 0)]) (by simp only [List.map_toArray,List.map_cons,List.map_nil,AT] <;> rfl) ((hf (xs.getD k 0) (CX (by omega)) _ x7).mono fun _ _ aj=>?_));obtain ⟨rfl,aa⟩:=aj;refine Nl ?_;refine CN (t:=p (xs.getD k 0)) Z (fun ak=>?_) (fun ak=>?_)
  ·refine Sq (Rg ?_);refine Mv (.int .i64 (k:Int)) Z Z ?_;refine As (.int .i64 (k:Int)) Z Z ?_;refine Nl (Rt ?_);refine ⟨.inr Z,Ac Z (v:=.int .i64 (k:Int)) Z ?_⟩;exact ⟨(by (rw [JM (k:=k) (by omega) hs ‹_›];done)),(x7.trans aa)⟩
  ·refine Sk (Rg ?_);refine Ad (k:Int) 1 Z ad Z (by omega) ?_;refine Mv (.int .i64 ((k:Int)+1)) Z Z ?_;refine Nl ?_;exact ⟨_,by omega,k+1,Z,(by omega),(by exact Ii (d:=0) (by omega) hs ‹_›),Z,(x7.trans aa),x8,x9,al,Z⟩
 ·refine Xt (Sq (Rg ?_));refine As (.int .i64 (-1)) Z Z ?_;refine Nl (Rt ?_);refine ⟨.inr Z,Ac Z (v:=.int .i64 (-1)) Z ?_⟩;exact ⟨(by (rw [IE (k:=k) (by omega) hs])),x7⟩
theorem GQ {W:Wk Tryz.prog} {h:GH} (xs:List Int) (xsv:Value) (fv:Value) (p:Int→Bool) (hxs:AK h xsv 1 eI xs) (hf:∀x ∈ xs,∀h1,h.Le h1→CA W fv #[.int .i64 x] h1 fun v h2=>v=.bool (p x)∧h1.Le h2):AZ W 92 #[xsv,fv] h (fun v h'=>v=(.bool (xs.any p):Value)∧h.Le h'):=by
 have aa:=hxs.len;refine AN Tryz.func92 Z (Nb Z) ?_;refine Sq (Rg ?_);refine As (.bool false) Z Z ?_;refine Nl (Sq (Rg ?_));refine Mv xsv Z Z ?_;refine Mv fv Z Z ?_;refine Pl Z (AW Tryz.func139 Fx.call139 Z Z ((Lq xs xsv fv p hxs (fun x hx h1 l1=>hf x hx h1 (GH.Le.trans Lr l1))).mono fun _ _ ac=>?_));obtain ⟨rfl,ab⟩:=ac;refine Pl Z (CD (a:=idxOf p xs) (b:=0) Z Z ?_);refine As (.bool (decide (0≤(idxOf p xs)))) Z Z ?_;refine Nl (Rt ?_);refine ⟨.inr Z,Ac Z (v:=.bool (decide (0≤(idxOf p xs)))) Z ?_⟩;exact ⟨(by rw [show decide (0≤idxOf p xs)=xs.any p from by rw [Bool.eq_iff_iff];simp [GD]]),ab⟩
theorem J2 {W:Wk Tryz.prog} {h:GH} (xs:List AJ) (xsv:Value) (fv:Value) (p:AJ→Bool) (hxs:AK h xsv 4 Ar xs) (hf:∀x ∈ xs,∀h1,h.Le h1→CA W fv #[.agg #[.int .i64 x.good,.int .i64 x.day,.int .i64 x.low,.int .i64 x.high]] h1 fun v h2=>v=.bool (p x)∧h1.Le h2):AZ W 158 #[xsv,fv] h (fun v h'=>v=(.int .i64 (idxOf p xs):Value)∧h.Le h'):=by
 have ac:=hxs.len;refine AN Tryz.func158 Z (Nb Z) ?_;refine Sq (Rg ?_);refine As (.int .i64 0) Z Z ?_;refine Nl (Sq (Sq (Rg ?_)));refine Mv xsv Z Z ?_;refine Pl Z (AY Fx.sl24 hxs Z ?_);refine Mv (.int .i64 0) Z Z ?_;refine Nl (Bk ?_);refine Au (fun nn σ' ds' h'=>∃(k:Nat),nn=xs.length-k∧(k≤xs.length)∧((xs.take k).any p=false)∧ds'=[]∧GH.Le h h'∧σ' 0=xsv∧σ' 1=fv∧σ' 7=.int .i64 (xs.length:Int)∧σ' 8=.int .i64 (k:Int)) ⟨0,Z,(by omega),(by simp),Z,Lr,Z,Z,Z,Z⟩ (fun nn _ _ _ am=>?_);obtain ⟨k,rfl,hk,hs,x6,x7,x8,x9,al,ad⟩:=am;subst x6;refine Sq (Rg ?_);refine Pl Z (A1 (a:=(k:Int)) (b:=(xs.length:Int)) ad al ?_);refine Nl (Sq ?_);refine AX (p:=(k:Int)<(xs.length:Int)) Z (fun ae=>?_) (fun ae=>?_)
 ·refine Sk (Sq (Bk (Sq (Rg ?_))));refine Mv (.int .i64 (k:Int)) Z ad ?_;refine As (.int .i64 (k:Int)) Z Z ?_;refine Nl (Sq (Rg ?_));refine Mv fv Z x9 ?_;refine Mv xsv Z x8 ?_;refine Mv (.int .i64 (k:Int)) Z Z ?_;have af:(0:Int)≤(k:Int):=by omega
  have ag:(k:Int)<((xs.length:Nat):Int):=by omega
  refine Pl Z (A0 Fx.esz24 hxs Z Z af ag fun an ab ah=>?_);have ai:Aa _ an ab 4 (Ar (xs.getD k AJ.z)):=Aa.getD AJ.z ah;refine Ld (.agg #[.int .i64 ((xs.getD k AJ.z).good),.int .i64 ((xs.getD k AJ.z).day),.int .i64 ((xs.getD k AJ.z).low),.int .i64 ((xs.getD k AJ.z).high)]) Z Z (AL Fx.ty79 (ai.le x7)) ?_;refine Pl Z (Ga Z (vs:=#[.agg #[.int .i64 ((xs.getD k AJ.z).good),.int .i64 ((xs.getD k AJ.z).day),.int .i64 ((xs.getD k AJ.z).low),.int .i64 ((xs.getD k AJ.z).high)]]) (by simp only [List.map_toArray,List.map_cons,List.map_nil,AT] <;> rfl) ((hf (xs.getD k AJ.z) (CX (by omega)) _ x7).mono fun _ _ aj=>?_));obtain ⟨rfl,aa⟩:=aj;refine Nl ?_;refine CN (t:=p (xs.getD k AJ.z)) Z (fun ak=>?_) (fun ak=>?_)
  ·refine Sq (Rg ?_);refine Mv (.int .i64 (k:Int)) Z Z ?_;refine As (.int .i64 (k:Int)) Z Z ?_;refine Nl (Rt ?_);refine ⟨.inr Z,Ac Z (v:=.int .i64 (k:Int)) Z ?_⟩;exact ⟨(by (rw [JM (k:=k) (by omega) hs ‹_›];done)),(x7.trans aa)⟩
  ·refine Sk (Rg ?_);refine Ad (k:Int) 1 Z ad Z (by omega) ?_;refine Mv (.int .i64 ((k:Int)+1)) Z Z ?_;refine Nl ?_;exact ⟨_,by omega,k+1,Z,(by omega),(by exact Ii (d:=AJ.z) (by omega) hs ‹_›),Z,(x7.trans aa),x8,x9,al,Z⟩
 ·refine Xt (Sq (Rg ?_));refine As (.int .i64 (-1)) Z Z ?_;refine Nl (Rt ?_);refine ⟨.inr Z,Ac Z (v:=.int .i64 (-1)) Z ?_⟩;exact ⟨(by (rw [IE (k:=k) (by omega) hs])),x7⟩
theorem IR {W:Wk Tryz.prog} {h:GH} (xs:List AJ) (xsv:Value) (fv:Value) (p:AJ→Bool) (hxs:AK h xsv 4 Ar xs) (hf:∀x ∈ xs,∀h1,h.Le h1→CA W fv #[.agg #[.int .i64 x.good,.int .i64 x.day,.int .i64 x.low,.int .i64 x.high]] h1 fun v h2=>v=.bool (p x)∧h1.Le h2):AZ W 144 #[xsv,fv] h (fun v h'=>v=(.bool (xs.any p):Value)∧h.Le h'):=by
 have aa:=hxs.len;refine AN Tryz.func144 Z (Nb Z) ?_;refine Sq (Rg ?_);refine As (.bool false) Z Z ?_;refine Nl (Sq (Rg ?_));refine Mv xsv Z Z ?_;refine Mv fv Z Z ?_;refine Pl Z (AW Tryz.func158 Fx.call158 Z Z ((J2 xs xsv fv p hxs (fun x hx h1 l1=>hf x hx h1 (GH.Le.trans Lr l1))).mono fun _ _ ac=>?_));obtain ⟨rfl,ab⟩:=ac;refine Pl Z (CD (a:=idxOf p xs) (b:=0) Z Z ?_);refine As (.bool (decide (0≤(idxOf p xs)))) Z Z ?_;refine Nl (Rt ?_);refine ⟨.inr Z,Ac Z (v:=.bool (decide (0≤(idxOf p xs)))) Z ?_⟩;exact ⟨(by rw [show decide (0≤idxOf p xs)=xs.any p from by rw [Bool.eq_iff_iff];simp [GD]]),ab⟩
theorem LJ {W:Wk Tryz.prog} {h:GH} (xs:List Good) (xsv:Value) (fv:Value) (p:Good→Bool) (hxs:AK h xsv 5 A9 xs) (hf:∀x ∈ xs,∀h1,h.Le h1→CA W fv #[.agg #[.string x.name,.int .i64 x.cost,.int .i64 x.pack,.int .i64 x.low,.int .i64 x.high]] h1 fun v h2=>v=.bool (p x)∧h1.Le h2):AZ W 202 #[xsv,fv] h (fun v h'=>v=(.int .i64 (idxOf p xs):Value)∧h.Le h'):=by
 have ac:=hxs.len;refine AN Tryz.func202 Z (Nb Z) ?_;refine Sq (Rg ?_);refine As (.int .i64 0) Z Z ?_;refine Nl (Sq (Sq (Rg ?_)));refine Mv xsv Z Z ?_;refine Pl Z (AY Fx.sl22 hxs Z ?_);refine Mv (.int .i64 0) Z Z ?_;refine Nl (Bk ?_);refine Au (fun nn σ' ds' h'=>∃(k:Nat),nn=xs.length-k∧(k≤xs.length)∧((xs.take k).any p=false)∧ds'=[]∧GH.Le h h'∧σ' 0=xsv∧σ' 1=fv∧σ' 7=.int .i64 (xs.length:Int)∧σ' 8=.int .i64 (k:Int)) ⟨0,Z,(by omega),(by simp),Z,Lr,Z,Z,Z,Z⟩ (fun nn _ _ _ am=>?_);obtain ⟨k,rfl,hk,hs,x6,x7,x8,x9,al,ad⟩:=am;subst x6;refine Sq (Rg ?_);refine Pl Z (A1 (a:=(k:Int)) (b:=(xs.length:Int)) ad al ?_);refine Nl (Sq ?_);refine AX (p:=(k:Int)<(xs.length:Int)) Z (fun ae=>?_) (fun ae=>?_)
 ·refine Sk (Sq (Bk (Sq (Rg ?_))));refine Mv (.int .i64 (k:Int)) Z ad ?_;refine As (.int .i64 (k:Int)) Z Z ?_;refine Nl (Sq (Rg ?_));refine Mv fv Z x9 ?_;refine Mv xsv Z x8 ?_;refine Mv (.int .i64 (k:Int)) Z Z ?_;have af:(0:Int)≤(k:Int):=by omega
  have ag:(k:Int)<((xs.length:Nat):Int):=by omega
  refine Pl Z (A0 Fx.esz22 hxs Z Z af ag fun an ab ah=>?_);have ai:Aa _ an ab 5 (A9 (xs.getD k Good.z)):=Aa.getD Good.z ah;refine Ld (.agg #[.string ((xs.getD k Good.z).name),.int .i64 ((xs.getD k Good.z).cost),.int .i64 ((xs.getD k Good.z).pack),.int .i64 ((xs.getD k Good.z).low),.int .i64 ((xs.getD k Good.z).high)]) Z Z (AL Fx.ty99 (ai.le x7)) ?_;refine Pl Z (Ga Z (vs:=#[.agg #[.string ((xs.getD k Good.z).name),.int .i64 ((xs.getD k Good.z).cost),.int .i64 ((xs.getD k Good.z).pack),.int .i64 ((xs.getD k Good.z).low),.int .i64 ((xs.getD k Good.z).high)]]) (by simp only [List.map_toArray,List.map_cons,List.map_nil,AT] <;> rfl) ((hf (xs.getD k Good.z) (CX (by omega)) _ x7).mono fun _ _ aj=>?_));obtain ⟨rfl,aa⟩:=aj;refine Nl ?_;refine CN (t:=p (xs.getD k Good.z)) Z (fun ak=>?_) (fun ak=>?_)
  ·refine Sq (Rg ?_);refine Mv (.int .i64 (k:Int)) Z Z ?_;refine As (.int .i64 (k:Int)) Z Z ?_;refine Nl (Rt ?_);refine ⟨.inr Z,Ac Z (v:=.int .i64 (k:Int)) Z ?_⟩;exact ⟨(by (rw [JM (k:=k) (by omega) hs ‹_›];done)),(x7.trans aa)⟩
  ·refine Sk (Rg ?_);refine Ad (k:Int) 1 Z ad Z (by omega) ?_;refine Mv (.int .i64 ((k:Int)+1)) Z Z ?_;refine Nl ?_;exact ⟨_,by omega,k+1,Z,(by omega),(by exact Ii (d:=Good.z) (by omega) hs ‹_›),Z,(x7.trans aa),x8,x9,al,Z⟩
 ·refine Xt (Sq (Rg ?_));refine As (.int .i64 (-1)) Z Z ?_;refine Nl (Rt ?_);refine ⟨.inr Z,Ac Z (v:=.int .i64 (-1)) Z ?_⟩;exact ⟨(by (rw [IE (k:=k) (by omega) hs])),x7⟩
theorem JB {W:Wk Tryz.prog} {h:GH} (xs:List Good) (xsv:Value) (fv:Value) (p:Good→Bool) (hxs:AK h xsv 5 A9 xs) (hf:∀x ∈ xs,∀h1,h.Le h1→CA W fv #[.agg #[.string x.name,.int .i64 x.cost,.int .i64 x.pack,.int .i64 x.low,.int .i64 x.high]] h1 fun v h2=>v=.bool (p x)∧h1.Le h2):AZ W 199 #[xsv,fv] h (fun v h'=>v=(.bool (xs.any p):Value)∧h.Le h'):=by
 have aa:=hxs.len;refine AN Tryz.func199 Z (Nb Z) ?_;refine Sq (Rg ?_);refine As (.bool false) Z Z ?_;refine Nl (Sq (Rg ?_));refine Mv xsv Z Z ?_;refine Mv fv Z Z ?_;refine Pl Z (AW Tryz.func202 Fx.call202 Z Z ((LJ xs xsv fv p hxs (fun x hx h1 l1=>hf x hx h1 (GH.Le.trans Lr l1))).mono fun _ _ ac=>?_));obtain ⟨rfl,ab⟩:=ac;refine Pl Z (CD (a:=idxOf p xs) (b:=0) Z Z ?_);refine As (.bool (decide (0≤(idxOf p xs)))) Z Z ?_;refine Nl (Rt ?_);refine ⟨.inr Z,Ac Z (v:=.bool (decide (0≤(idxOf p xs)))) Z ?_⟩;exact ⟨(by rw [show decide (0≤idxOf p xs)=xs.any p from by rw [Bool.eq_iff_iff];simp [GD]]),ab⟩
theorem Ls {W:Wk Tryz.prog} {h:GH} (n:Int):AZ W 155 #[.int .i64 n] h (fun v h'=>v=(.bool (decide (¬(0≤n∧n≤99))):Value)∧h=h'):=by
 refine AN Tryz.func155 Z (Nb Z) ?_;refine Sq (Rg ?_);refine As (.bool false) Z Z ?_;refine Nl (Sq (Rg ?_));refine Mv (.int .i64 n) Z Z ?_;refine Pl Z (Ak Tryz.func79 Fx.call79 Z Z Z ((BQ n 0 99 ).mono fun _ _ aa=>?_));obtain ⟨rfl,rfl⟩:=aa;refine Pl Z (BF (p:=0≤n∧n≤99) Z ?_);refine As (.bool (decide (¬(0≤n∧n≤99)))) Z Z ?_;refine Nl (Rt ?_);refine ⟨.inr Z,Ac Z (v:=.bool (decide (¬(0≤n∧n≤99)))) Z ?_⟩;exact ⟨Z,Z⟩
theorem JC {W:Wk Tryz.prog} {h:GH} (l:List Int) (lv:Value) (m:Int) (hl:AK h lv 1 eI l):AZ W 140 #[lv,.int .i64 m] h (fun v h'=>v=(.int .i64 (Av l m):Value)∧h.Le h'):=by
 have ab:=hl.len;refine AN Tryz.func140 Z (Nb Z) ?_;refine Sq (Rg ?_);refine As (.int .i64 0) Z Z ?_;refine Nl (Sq (Bk (Sq (Rg ?_))));refine Mv lv Z Z ?_;refine Pl Z (AY Fx.sl27 hl Z ?_);refine Mv (.int .i64 m) Z Z ?_;refine Pl Z (A4 (a:=(l.length:Int)) (b:=m) Z Z ?_);refine As (.bool (decide (¬(l.length:Int)=m))) Z Z ?_;refine Nl ?_;refine AX (p:=¬(l.length:Int)=m) Z (fun ac=>?_) (fun ac=>?_)
 ·refine Sq (Rg ?_);refine As (.int .i64 2) Z Z ?_;refine Nl (Rt ?_);refine ⟨.inr Z,Ac Z (v:=.int .i64 2) Z ?_⟩;exact ⟨(by simp_all [Av]),Lr⟩
 ·refine Sq (Rg ?_);refine Mv lv Z Z ?_;have ad:∀x ∈ l,∀h1,GH.Le h h1→CA W (.func (.func 155) #[] #[]) #[.int .i64 x] h1 fun v h2=>v=.bool ((fun x=>decide (¬(0≤x∧x≤99))) x)∧h1.Le h2:=by
   intro x hx h1 _;exact Bs Tryz.func155 Fx.call155 Z ((Ls x ).mono fun v h2 hp=>⟨hp.1,by rw [←hp.2];exact GH.Le.refl _⟩)
  refine Pl Z (AW Tryz.func92 Fx.call92 Z Z ((GQ l lv (.func (.func 155) #[] #[]) (fun x=>decide (¬(0≤x∧x≤99))) hl ad).mono fun _ _ ae=>?_));obtain ⟨rfl,aa⟩:=ae;refine As (.bool (l.any (fun x=>decide (¬(0≤x∧x≤99))))) Z Z ?_;refine Nl ?_;refine CN (t:=l.any (fun x=>decide (¬(0≤x∧x≤99)))) Z (fun af=>?_) (fun af=>?_)
  ·refine Sq (Rg ?_);refine As (.int .i64 1) Z Z ?_;refine Nl (Rt ?_);refine ⟨.inr Z,Ac Z (v:=.int .i64 1) Z ?_⟩;exact ⟨(by simp_all [Av]),aa⟩
  ·refine Sk (Sq (Rg ?_));refine As (.int .i64 0) Z Z ?_;refine Nl (Rt ?_);refine ⟨.inr Z,Ac Z (v:=.int .i64 0) Z ?_⟩;exact ⟨(by simp_all [Av]),aa⟩
end Go.Ns
namespace Go.Ns
open Go.Conc Go.Proofs
attribute [local irreducible] BY DR Tr AZ CA Bp
theorem QQ {W:Wk Tryz.prog} {h:GH} (d:Int) (m:Int) (gs:List Good) (gsv:Value) (ms:List AB) (msv:Value) (cs:List AJ) (csv:Value) (hgs:AK h gsv 5 A9 gs) (hms:AK h msv 5 Aw ms) (hcs:AK h csv 4 Ar cs):AZ W 196 #[.agg #[.int .i64 d,.int .i64 m,gsv,msv,csv]] h (fun v h'=>v=(.int .i64 (BD d gs ms):Value)∧h.Le h'):=by
 have av:=hgs.len;have aw:=hms.len;have ax:=hcs.len;refine AN Tryz.func196 Z (Nb Z) ?_;refine Sq (Rg ?_);refine Pl Z (Am (v:=.agg #[.int .i64 d,.int .i64 m,gsv,msv,csv]) (c:=#[.int .i64 d,.int .i64 m,gsv,msv,csv]) Z Z fun r4 h5 _ af ay _=>?_);refine As (.int .i64 0) Z Z ?_;refine Nl (Sq (Sq (Rg ?_)));refine Fa Fx.fld104_0 Z Z ?_;refine Fa Fx.fld26_3 Z Z ?_;refine Ld msv Z Z (Rd.one Fx.ty23 ay Z) ?_;have ak:=hms.le af;refine Pl Z (AY Fx.sl23 ak Z ?_);refine Pl Z (Ce (a:=(ms.length:Int)) (b:=6) Z Z ?_);refine Nl ?_;refine AX (p:=6<(ms.length:Int)) Z (fun az=>?_) (fun az=>?_)
 ·refine Sq (Rg ?_);refine As (.int .i64 2) Z Z ?_;refine Nl (Rt ?_);refine ⟨.inr Z,Ac Z (v:=.int .i64 2) Z ?_⟩;exact ⟨(by (symm;congr 1;rw [BD,if_pos ‹_›];done)),af⟩
 ·refine Sk (Sq (Rg ?_));refine As (.int .i64 0) Z Z ?_;refine Nl (Sq (Sq (Rg ?_)));refine Fa Fx.fld104_0 Z Z ?_;refine Fa Fx.fld26_3 Z Z ?_;refine Ld msv Z Z (Rd.one Fx.ty23 ay Z) ?_;refine Pl Z (AY Fx.sl23 ak Z ?_);refine Mv (.int .i64 0) Z Z ?_;refine Nl (Bk ?_);refine Au (fun nn σ' ds' h'=>∃(k:Nat),nn=ms.length-k∧(k≤ms.length)∧(∀j,j<k→Cm d gs ms j=0)∧ds'=[]∧GH.Le h5 h'∧σ' 1=.pointer (some ⟨r4,0,none⟩)∧σ' 13=msv∧σ' 14=.int .i64 (ms.length:Int)∧σ' 3=.int .i64 (Cg ms k)∧σ' 15=.int .i64 (k:Int)) ⟨0,Z,(by omega),(by (intro j hj;omega)),Z,Lr,Z,Z,Z,Z,Z⟩ (fun nn _ _ _ a0=>?_);obtain ⟨k,rfl,hk,hs,bi,al,a1,bg,bh,bj,a2⟩:=a0;subst bi;refine Sq (Rg ?_);refine Pl Z (A1 (a:=(k:Int)) (b:=(ms.length:Int)) a2 bh ?_);refine Nl (Sq ?_);refine AX (p:=(k:Int)<(ms.length:Int)) Z (fun a3=>?_) (fun a3=>?_)
  ·refine Sk (Sq (Bk (Sq (Rg ?_))));have a4:(0:Int)≤(k:Int):=by omega
   have a5:(k:Int)<((ms.length:Nat):Int):=by omega
   refine Pl Z (A0 Fx.esz23 hms bg a2 a4 a5 fun bk am a6=>?_);have a7:Aa _ bk am 5 (Aw (ms.getD k AB.z)):=Aa.getD AB.z a6;have ad:=af.trans al;refine Ld (.agg #[.int .i64 ((ms.getD k AB.z).kind),.int .i64 ((ms.getD k AB.z).good),.int .i64 ((ms.getD k AB.z).day),.int .i64 ((ms.getD k AB.z).low),.int .i64 ((ms.getD k AB.z).high)]) Z Z (AL Fx.ty75 (a7.le ad)) ?_;have an:=al.keep ay Z;refine Pl Z (Ab Fx.zero75 fun bl _ ag ac a8 _=>?_);have a9:r4≠bl:=B9 an ag;refine Pl Z (AG (v:=.agg #[.int .i64 ((ms.getD k AB.z).kind),.int .i64 ((ms.getD k AB.z).good),.int .i64 ((ms.getD k AB.z).day),.int .i64 ((ms.getD k AB.z).low),.int .i64 ((ms.getD k AB.z).high)]) (c':=#[.int .i64 ((ms.getD k AB.z).kind),.int .i64 ((ms.getD k AB.z).good),.int .i64 ((ms.getD k AB.z).day),.int .i64 ((ms.getD k AB.z).low),.int .i64 ((ms.getD k AB.z).high)]) Fx.ty75 Z Z a8 Z Z (by simp) Z fun _ aj ah=>?_);refine Nl (Sq (Bk (Sq (Rg ?_))));refine Fa Fx.fld75_0 Z Z ?_;refine Ld (.int .i64 ((ms.getD k AB.z).kind)) Z Z (Rd.one Fx.ty73 aj Z) ?_;refine Pl Z (Ak Tryz.func79 Fx.call79 Z Z Z ((BQ ((ms.getD k AB.z).kind) 0 4 ).mono fun _ _ ba=>?_));obtain ⟨rfl,rfl⟩:=ba;refine Pl Z (BF (p:=0≤((ms.getD k AB.z).kind)∧((ms.getD k AB.z).kind)≤4) Z ?_);refine As (.bool (decide (¬(0≤((ms.getD k AB.z).kind)∧((ms.getD k AB.z).kind)≤4)))) Z Z ?_;refine Nl ?_;refine AX (p:=¬(0≤((ms.getD k AB.z).kind)∧((ms.getD k AB.z).kind)≤4)) Z (fun ao=>?_) (fun ao=>?_)
   ·refine Sq (Rg ?_);refine As (.int .i64 1) Z Z ?_;refine Nl (Rt ?_);refine ⟨.inr Z,Ac Z (v:=.int .i64 1) Z ?_⟩;exact ⟨(by (symm;congr 1;rw [BD,if_neg ‹_›];exact BK (k:=k) hs (by omega) (by unfold Cm;(simp only [*,not_true_eq_false,not_false_eq_true,if_true,if_false,true_or,or_true,reduceCtorEq,Bool.false_eq_true];done)) (by decide))),((ad.trans ac).upd (Ln ad ag) ah)⟩
   ·have hc48_:=Dn ao;refine Sq (Rg ?_);have ap:=(ah _ a9).trans (ac.keep an Z);refine Ld (.agg #[.int .i64 d,.int .i64 m,gsv,msv,csv]) Z a1 (AL Fx.ty104 (Bx ap Z)) ?_;refine Fa Fx.fld75_1 Z Z ?_;refine Ld (.int .i64 ((ms.getD k AB.z).good)) Z Z (Rd.one Fx.ty3 aj Z) ?_;have ab:=(ad.trans ac).upd (Ln ad ag) ah;refine Pl Z (AW Tryz.func77 Fx.call77 Z Z ((Eu d m gs gsv ms msv cs csv ((ms.getD k AB.z).good) (hgs.le ab) (hms.le ab) (hcs.le ab) ).mono fun _ _ bb=>?_));obtain ⟨rfl,aa⟩:=bb;refine Pl Z (BF (p:=0≤((ms.getD k AB.z).good)∧((ms.getD k AB.z).good)≤(gs.length:Int)-1) Z ?_);refine As (.bool (decide (¬(0≤((ms.getD k AB.z).good)∧((ms.getD k AB.z).good)≤(gs.length:Int)-1)))) Z Z ?_;refine Nl ?_;refine AX (p:=¬(0≤((ms.getD k AB.z).good)∧((ms.getD k AB.z).good)≤(gs.length:Int)-1)) Z (fun aq=>?_) (fun aq=>?_)
    ·refine Sq (Rg ?_);refine As (.int .i64 6) Z Z ?_;refine Nl (Rt ?_);refine ⟨.inr Z,Ac Z (v:=.int .i64 6) Z ?_⟩;exact ⟨(by (symm;congr 1;rw [BD,if_neg ‹_›];exact BK (k:=k) hs (by omega) (by unfold Cm;(clear hs;simp_all;done)) (by decide))),(ab.trans aa)⟩
    ·have hc59_:=Dn aq;refine Sq (Rg ?_);refine Fa Fx.fld75_2 Z Z ?_;have ai:=aa.keep aj Z;refine Ld (.int .i64 ((ms.getD k AB.z).day)) Z Z (Rd.one Fx.ty3 ai Z) ?_;refine Fa Fx.fld104_0 Z a1 ?_;refine Fa Fx.fld26_0 Z Z ?_;refine Ld (.int .i64 d) Z Z (Rd.one Fx.ty3 (aa.keep ap Z) Z) ?_;refine Pl Z (Ak Tryz.func79 Fx.call79 Z Z Z ((BQ ((ms.getD k AB.z).day) 1 d ).mono fun _ _ bc=>?_));obtain ⟨rfl,rfl⟩:=bc;refine Pl Z (BF (p:=1≤((ms.getD k AB.z).day)∧((ms.getD k AB.z).day)≤d) Z ?_);refine As (.bool (decide (¬(1≤((ms.getD k AB.z).day)∧((ms.getD k AB.z).day)≤d)))) Z Z ?_;refine Nl ?_;refine AX (p:=¬(1≤((ms.getD k AB.z).day)∧((ms.getD k AB.z).day)≤d)) Z (fun ar=>?_) (fun ar=>?_)
     ·refine Sq (Rg ?_);refine As (.int .i64 1) Z Z ?_;refine Nl (Rt ?_);refine ⟨.inr Z,Ac Z (v:=.int .i64 1) Z ?_⟩;exact ⟨(by (symm;congr 1;rw [BD,if_neg ‹_›];exact BK (k:=k) hs (by omega) (by unfold Cm;(clear hs;simp_all;done)) (by decide))),(ab.trans aa)⟩
     ·have hc67_:=Dn ar;refine Sq (Rg ?_);refine Fa Fx.fld75_2 Z Z ?_;refine Ld (.int .i64 ((ms.getD k AB.z).day)) Z Z (Rd.one Fx.ty3 ai Z) ?_;refine Mv (.int .i64 (Cg ms k)) Z bj ?_;refine Pl Z (A1 (a:=(ms.getD k AB.z).day) (b:=Cg ms k) Z Z ?_);refine As (.bool (decide (((ms.getD k AB.z).day)<(Cg ms k)))) Z Z ?_;refine Nl ?_;refine AX (p:=((ms.getD k AB.z).day)<(Cg ms k)) Z (fun bd=>?_) (fun bd=>?_)
      ·refine Sq (Rg ?_);refine As (.int .i64 7) Z Z ?_;refine Nl (Rt ?_);refine ⟨.inr Z,Ac Z (v:=.int .i64 7) Z ?_⟩;exact ⟨(by (symm;congr 1;rw [BD,if_neg ‹_›];exact BK (k:=k) hs (by omega) (by unfold Cm;(clear hs;simp_all;done)) (by decide))),(ab.trans aa)⟩
      ·refine Sq (Rg ?_);refine Fa Fx.fld75_3 Z Z ?_;refine Ld (.agg #[.int .i64 ((ms.getD k AB.z).low),.int .i64 ((ms.getD k AB.z).high)]) Z Z (Ew (o:=3) (ws:=#[.int .i64 ((ms.getD k AB.z).low),.int .i64 ((ms.getD k AB.z).high)]) Fx.ty31 (Bx ai Z) (Nb Z) Z) ?_;refine Pl Z (Ai Tryz.func201 Fx.call201 Z ((Ox ((ms.getD k AB.z).low) ((ms.getD k AB.z).high) ).mono fun _ _ be=>?_));obtain ⟨rfl,ae⟩:=be;refine Pl Z (BF (p:=CH ((ms.getD k AB.z).low) ((ms.getD k AB.z).high)) Z ?_);refine As (.bool (decide (¬(CH ((ms.getD k AB.z).low) ((ms.getD k AB.z).high))))) Z Z ?_;refine Nl ?_;refine AX (p:=¬(CH ((ms.getD k AB.z).low) ((ms.getD k AB.z).high))) Z (fun au=>?_) (fun au=>?_)
       ·refine Sq (Rg ?_);refine As (.int .i64 1) Z Z ?_;refine Nl (Rt ?_);refine ⟨.inr Z,Ac Z (v:=.int .i64 1) Z ?_⟩;exact ⟨(by (symm;congr 1;rw [BD,if_neg ‹_›];exact BK (k:=k) hs (by omega) (by unfold Cm;(clear hs;simp_all;done)) (by decide))),((ab.trans aa).trans ae)⟩
       ·have hc75_:=Dn au;refine Sk (Rg ?_);refine Fa Fx.fld75_2 Z Z ?_;refine Ld (.int .i64 ((ms.getD k AB.z).day)) Z Z (Rd.one Fx.ty3 (ae.keep ai Z) Z) ?_;refine As (.int .i64 ((ms.getD k AB.z).day)) Z Z ?_;refine Nl (Rg ?_);refine Ad (k:Int) 1 Z a2 Z (by omega) ?_;refine Mv (.int .i64 ((k:Int)+1)) Z Z ?_;refine Nl ?_;have bf:=(((al.trans ac).upd (Ln al ag) ah).trans aa).trans ae;exact ⟨_,by omega,k+1,Z,(by omega),(by exact Ct hs (by unfold Cm;(clear hs;simp_all;done))),Z,bf,a1,bg,bh,(Et (b:=(.int .i64 ((ms.getD k AB.z).day):Value)) Z (by simp [Cg])),Z⟩
  ·refine Xt (Sq (Rg ?_));refine As (.int .i64 0) Z Z ?_;refine Nl (Rt ?_);refine ⟨.inr Z,Ac Z (v:=.int .i64 0) Z ?_⟩;exact ⟨(by (symm;congr 1;rw [BD,if_neg ‹_›];exact B2 (k:=k) hs (by omega))),(af.trans al)⟩
theorem Oz {W:Wk Tryz.prog} {h:GH} (d:Int) (m:Int) (gs:List Good) (gsv:Value) (ms:List AB) (msv:Value) (cs:List AJ) (csv:Value) (hgs:AK h gsv 5 A9 gs) (hms:AK h msv 5 Aw ms) (hcs:AK h csv 4 Ar cs):AZ W 197 #[.agg #[.int .i64 d,.int .i64 m,gsv,msv,csv]] h (fun v h'=>v=(.int .i64 (Bt d gs cs):Value)∧h.Le h'):=by
 have aw:=hgs.len;have ax:=hms.len;have ay:=hcs.len;refine AN Tryz.func197 Z (Nb Z) ?_;refine Sq (Rg ?_);refine Pl Z (Am (v:=.agg #[.int .i64 d,.int .i64 m,gsv,msv,csv]) (c:=#[.int .i64 d,.int .i64 m,gsv,msv,csv]) Z Z fun r4 h5 _ ae az _=>?_);refine As (.int .i64 0) Z Z ?_;refine Nl (Sq (Sq (Rg ?_)));refine Fa Fx.fld104_0 Z Z ?_;refine Fa Fx.fld26_4 Z Z ?_;refine Ld csv Z Z (Rd.one Fx.ty24 az Z) ?_;have aj:=hcs.le ae;refine Pl Z (AY Fx.sl24 aj Z ?_);refine Pl Z (Ce (a:=(cs.length:Int)) (b:=4) Z Z ?_);refine Nl ?_;refine AX (p:=4<(cs.length:Int)) Z (fun a0=>?_) (fun a0=>?_)
 ·refine Sq (Rg ?_);refine As (.int .i64 2) Z Z ?_;refine Nl (Rt ?_);refine ⟨.inr Z,Ac Z (v:=.int .i64 2) Z ?_⟩;exact ⟨(by (symm;congr 1;rw [Bt,if_pos ‹_›];done)),ae⟩
 ·refine Sk (Sq (Sq (Rg ?_)));refine Fa Fx.fld104_0 Z Z ?_;refine Fa Fx.fld26_4 Z Z ?_;refine Ld csv Z Z (Rd.one Fx.ty24 az Z) ?_;refine Pl Z (AY Fx.sl24 aj Z ?_);refine Mv (.int .i64 0) Z Z ?_;refine Nl (Bk ?_);refine Au (fun nn σ' ds' h'=>∃(k:Nat),nn=cs.length-k∧(k≤cs.length)∧(∀j,j<k→EK d gs cs j=0)∧ds'=[]∧GH.Le h5 h'∧σ' 1=.pointer (some ⟨r4,0,none⟩)∧σ' 12=csv∧σ' 13=.int .i64 (cs.length:Int)∧σ' 14=.int .i64 (k:Int)) ⟨0,Z,(by omega),(by (intro j hj;omega)),Z,Lr,Z,Z,Z,Z⟩ (fun nn _ _ _ a1=>?_);obtain ⟨k,rfl,hk,hs,bm,ak,au,a2,a3,av⟩:=a1;subst bm;refine Sq (Rg ?_);refine Pl Z (A1 (a:=(k:Int)) (b:=(cs.length:Int)) av a3 ?_);refine Nl (Sq ?_);refine AX (p:=(k:Int)<(cs.length:Int)) Z (fun a4=>?_) (fun a4=>?_)
  ·refine Sk (Sq (Bk (Sq (Rg ?_))));have a5:(0:Int)≤(k:Int):=by omega
   have a6:(k:Int)<((cs.length:Nat):Int):=by omega
   refine Pl Z (A0 Fx.esz24 hcs a2 av a5 a6 fun bn al a7=>?_);have a8:Aa _ bn al 4 (Ar (cs.getD k AJ.z)):=Aa.getD AJ.z a7;have ag:=ae.trans ak;refine Ld (.agg #[.int .i64 ((cs.getD k AJ.z).good),.int .i64 ((cs.getD k AJ.z).day),.int .i64 ((cs.getD k AJ.z).low),.int .i64 ((cs.getD k AJ.z).high)]) Z Z (AL Fx.ty79 (a8.le ag)) ?_;have am:=ak.keep az Z;refine Pl Z (Ab Fx.zero79 fun bo _ ah ac a9 _=>?_);have ba:r4≠bo:=B9 am ah;refine Pl Z (AG (v:=.agg #[.int .i64 ((cs.getD k AJ.z).good),.int .i64 ((cs.getD k AJ.z).day),.int .i64 ((cs.getD k AJ.z).low),.int .i64 ((cs.getD k AJ.z).high)]) (c':=#[.int .i64 ((cs.getD k AJ.z).good),.int .i64 ((cs.getD k AJ.z).day),.int .i64 ((cs.getD k AJ.z).low),.int .i64 ((cs.getD k AJ.z).high)]) Fx.ty79 Z Z a9 Z Z (by simp) Z fun _ an ai=>?_);refine Nl (Bk (Sq (Rg ?_)));have ao:=(ai _ ba).trans (ac.keep am Z);refine Ld (.agg #[.int .i64 d,.int .i64 m,gsv,msv,csv]) Z au (AL Fx.ty104 (Bx ao Z)) ?_;refine Fa Fx.fld79_0 Z Z ?_;refine Ld (.int .i64 ((cs.getD k AJ.z).good)) Z Z (Rd.one Fx.ty3 an Z) ?_;have ad:=(ag.trans ac).upd (Ln ag ah) ai;refine Pl Z (AW Tryz.func77 Fx.call77 Z Z ((Eu d m gs gsv ms msv cs csv ((cs.getD k AJ.z).good) (hgs.le ad) (hms.le ad) (hcs.le ad) ).mono fun _ bp bb=>?_));obtain ⟨rfl,ab⟩:=bb;refine Pl Z (BF (p:=0≤((cs.getD k AJ.z).good)∧((cs.getD k AJ.z).good)≤(gs.length:Int)-1) Z ?_);refine As (.bool (decide (¬(0≤((cs.getD k AJ.z).good)∧((cs.getD k AJ.z).good)≤(gs.length:Int)-1)))) Z Z ?_;refine Nl ?_;refine AX (p:=¬(0≤((cs.getD k AJ.z).good)∧((cs.getD k AJ.z).good)≤(gs.length:Int)-1)) Z (fun ap=>?_) (fun ap=>?_)
   ·refine Sq (Rg ?_);refine As (.int .i64 6) Z Z ?_;refine Nl (Rt ?_);refine ⟨.inr Z,Ac Z (v:=.int .i64 6) Z ?_⟩;exact ⟨(by (symm;congr 1;rw [Bt,if_neg ‹_›];exact BK (k:=k) hs (by omega) (by unfold EK;(simp only [*,not_true_eq_false,not_false_eq_true,if_true,if_false,true_or,or_true,reduceCtorEq,Bool.false_eq_true];done)) (by decide))),(ad.trans ab)⟩
   ·have hc52_:=Dn ap;refine BA (fun σ' ds' h'=>ds'=[]∧GH.Le bp h'∧σ' 1=.pointer (some ⟨r4,0,none⟩)∧σ' 12=csv∧σ' 13=.int .i64 (cs.length:Int)∧σ' 14=.int .i64 (k:Int)∧σ' 24=.bool (decide ((¬(0≤((cs.getD k AJ.z).day)∧((cs.getD k AJ.z).day)≤d))∨(¬((0≤((cs.getD k AJ.z).low)∧((cs.getD k AJ.z).low)≤((cs.getD k AJ.z).high))∧((cs.getD k AJ.z).high)≤999))))) ?_ ?_
    ·refine Rg ?_;refine Fa Fx.fld79_1 Z Z ?_;have aq:=ab.keep an Z;refine Ld (.int .i64 ((cs.getD k AJ.z).day)) Z Z (Rd.one Fx.ty3 aq Z) ?_;refine Fa Fx.fld104_0 Z au ?_;refine Fa Fx.fld26_0 Z Z ?_;refine Ld (.int .i64 d) Z Z (Rd.one Fx.ty3 (ab.keep ao Z) Z) ?_;refine Pl Z (Ak Tryz.func79 Fx.call79 Z Z Z ((BQ ((cs.getD k AJ.z).day) 0 d ).mono fun _ _ bc=>?_));obtain ⟨rfl,rfl⟩:=bc;refine Pl Z (BF (p:=0≤((cs.getD k AJ.z).day)∧((cs.getD k AJ.z).day)≤d) Z ?_);refine Mv (.bool (decide (¬(0≤((cs.getD k AJ.z).day)∧((cs.getD k AJ.z).day)≤d)))) Z Z ?_;refine BH (p:=¬(0≤((cs.getD k AJ.z).day)∧((cs.getD k AJ.z).day)≤d)) ?_ ?_
     ·intro aa;refine Gs 7 32 (AD Z aa) Z ?_;refine Gs 7 32 (AD Z aa) Z ?_;refine Gs 7 32 (AD Z aa) Z ?_;refine Gs 7 32 (AD Z aa) Z ?_;refine Pk true (.bool true) Z (AD Z aa) Z ?_;refine As (.bool true) Z Z ?_;refine Nl ?_;exact ⟨Z,Lr,au,a2,a3,av,Et (b:=(.bool true:Value)) Z (congrArg Value.bool (by grind:true=(decide ((¬(0≤((cs.getD k AJ.z).day)∧((cs.getD k AJ.z).day)≤d))∨(¬((0≤((cs.getD k AJ.z).low)∧((cs.getD k AJ.z).low)≤((cs.getD k AJ.z).high))∧((cs.getD k AJ.z).high)≤999))))))⟩
     ·intro aa;refine Gg 7 32 (AC Z aa) Z (AF Fx.fld79_2 Z ?_);refine Gg 7 32 (AC Z aa) Z (AE (v:=.agg #[.int .i64 ((cs.getD k AJ.z).low),.int .i64 ((cs.getD k AJ.z).high)]) Z (Ew (o:=2) (ws:=#[.int .i64 ((cs.getD k AJ.z).low),.int .i64 ((cs.getD k AJ.z).high)]) Fx.ty31 (Bx aq Z) (Nb Z) Z) ?_);refine Gg 7 32 (AC Z aa) Z (Ak Tryz.func129 Fx.call129 Z Z Z ((IQ ((cs.getD k AJ.z).low) ((cs.getD k AJ.z).high) 0 999 ).mono fun _ _ bd=>?_));obtain ⟨rfl,ar⟩:=bd;refine Gg 7 32 (AC Z aa) Z (BF (p:=(0≤((cs.getD k AJ.z).low)∧((cs.getD k AJ.z).low)≤((cs.getD k AJ.z).high))∧((cs.getD k AJ.z).high)≤999) Z ?_);refine Pk false (.bool (decide (¬((0≤((cs.getD k AJ.z).low)∧((cs.getD k AJ.z).low)≤((cs.getD k AJ.z).high))∧((cs.getD k AJ.z).high)≤999)))) Z (AC Z aa) Z ?_;refine As (.bool (decide (¬((0≤((cs.getD k AJ.z).low)∧((cs.getD k AJ.z).low)≤((cs.getD k AJ.z).high))∧((cs.getD k AJ.z).high)≤999)))) Z Z ?_;refine Nl ?_;exact ⟨Z,ar,au,a2,a3,av,Et (b:=(.bool (decide (¬((0≤((cs.getD k AJ.z).low)∧((cs.getD k AJ.z).low)≤((cs.getD k AJ.z).high))∧((cs.getD k AJ.z).high)≤999))):Value)) Z (congrArg Value.bool (by grind:decide (¬((0≤((cs.getD k AJ.z).low)∧((cs.getD k AJ.z).low)≤((cs.getD k AJ.z).high))∧((cs.getD k AJ.z).high)≤999))=(decide ((¬(0≤((cs.getD k AJ.z).day)∧((cs.getD k AJ.z).day)≤d))∨(¬((0≤((cs.getD k AJ.z).low)∧((cs.getD k AJ.z).low)≤((cs.getD k AJ.z).high))∧((cs.getD k AJ.z).high)≤999))))))⟩
    ·rintro _ _ _ ⟨be,af,bf,bg,bh,bi,bj⟩;subst be;refine AX (p:=(¬(0≤((cs.getD k AJ.z).day)∧((cs.getD k AJ.z).day)≤d))∨(¬((0≤((cs.getD k AJ.z).low)∧((cs.getD k AJ.z).low)≤((cs.getD k AJ.z).high))∧((cs.getD k AJ.z).high)≤999))) bj (fun bk=>?_) (fun bk=>?_)
     ·refine Sq (Rg ?_);refine As (.int .i64 1) Z Z ?_;refine Nl (Rt ?_);refine ⟨.inr Z,Ac Z (v:=.int .i64 1) Z ?_⟩;exact ⟨(by (symm;congr 1;rw [Bt,if_neg ‹_›];exact BK (k:=k) hs (by omega) (by unfold EK;(clear hs;simp_all;done)) (by decide))),((ad.trans ab).trans af)⟩
     ·refine Sk (Rg ?_);refine Ad (k:Int) 1 Z bi Z (by omega) ?_;refine Mv (.int .i64 ((k:Int)+1)) Z Z ?_;refine Nl ?_;have bl:=(((ak.trans ac).upd (Ln ak ah) ai).trans ab).trans af;exact ⟨_,by omega,k+1,Z,(by omega),(by exact Ct hs (by unfold EK;(clear hs;simp_all;done))),Z,bl,bf,bg,bh,Z⟩
  ·refine Xt (Sq (Rg ?_));refine As (.int .i64 0) Z Z ?_;refine Nl (Rt ?_);refine ⟨.inr Z,Ac Z (v:=.int .i64 0) Z ?_⟩;exact ⟨(by (symm;congr 1;rw [Bt,if_neg ‹_›];exact B2 (k:=k) hs (by omega))),(ae.trans ak)⟩
theorem O0 {W:Wk Tryz.prog} {h:GH} (s:ByteArray) (hsz:s.size≤1000):AZ W 198 #[.string s] h (fun v h'=>v=(.bool (C3 s):Value)∧h.Le h'):=by
 have hbl:=CF s;refine AN Tryz.func198 Z (Nb Z) ?_;refine Sq (Rg ?_);refine As (.bool false) Z Z ?_;refine Nl (Sq (Sq (Rg ?_)));refine Mv (.string s) Z Z ?_;refine Pl Z (Se Fx.s2b9_230 Z (by omega) fun a1 h2 ad a2=>?_);refine Pl Z (AY Fx.sl230 a2 Z ?_);refine Mv (.int .i64 0) Z Z ?_;refine Nl (Bk ?_);refine Au (fun nn σ' ds' h'=>∃(k:Nat),nn=(bytesOf s).length-k∧(k≤(bytesOf s).length)∧(∀j,j<k→F1 s j=0)∧ds'=[]∧GH.Le h2 h'∧σ' 0=.string s∧σ' 6=a1∧σ' 7=.int .i64 ((bytesOf s).length:Int)∧σ' 8=.int .i64 (k:Int)) ⟨0,Z,(by omega),(by (intro j hj;omega)),Z,Lr,Z,Z,Z,Z⟩ (fun nn _ _ h7 a3=>?_);obtain ⟨k,rfl,hk,hs,x9,ag,ah,ai,aj,ac⟩:=a3;subst x9;have hby:=Hu s k;refine Sq (Rg ?_);refine Pl Z (A1 (a:=(k:Int)) (b:=((bytesOf s).length:Int)) ac aj ?_);refine Nl (Sq ?_);refine AX (p:=(k:Int)<((bytesOf s).length:Int)) Z (fun ak=>?_) (fun ak=>?_)
 ·refine Sk (Sq (Bk (Sq (Rg ?_))));refine Mv (.int .i64 (k:Int)) Z ac ?_;have al:(0:Int)≤(k:Int):=by omega
  have am:(k:Int)<(((bytesOf s).length:Nat):Int):=by omega
  refine Pl Z (A0 Fx.esz230 a2 ai ac al am fun a4 ae an=>?_);have ao:Aa _ a4 ae 1 (eB ((bytesOf s).getD k 0)):=Aa.getD 0 an;refine Ld (.int .u8 ((bytesOf s).getD k 0)) Z Z (CE Fx.ty5 (ao.le ag) Z) ?_;refine As (.int .i64 (k:Int)) Z Z ?_;refine As (.int .u8 ((bytesOf s).getD k 0)) Z Z ?_;refine Nl ?_;refine BA (fun σ' ds' h'=>ds'=[]∧h7=h'∧σ' 0=.string s∧σ' 6=a1∧σ' 7=.int .i64 ((bytesOf s).length:Int)∧σ' 8=.int .i64 (k:Int)∧σ' 26=.bool (decide ((¬(97≤((bytesOf s).getD k 0)∧((bytesOf s).getD k 0)≤122))∧(((k:Int)=0)∨(¬(48≤((bytesOf s).getD k 0)∧((bytesOf s).getD k 0)≤57)))))) ?_ ?_
  ·refine Rg ?_;refine Mv (.int .u8 ((bytesOf s).getD k 0)) Z Z ?_;refine Pl Z (BR (r:=(bytesOf s).getD k 0) Fx.und5 Fx.kind3 Z (by rw [IntWalk.i64_in _ (by omega)]) ?_);refine Pl Z (Ak Tryz.func79 Fx.call79 Z Z Z ((BQ ((bytesOf s).getD k 0) 97 122 ).mono fun _ _ ap=>?_));obtain ⟨rfl,rfl⟩:=ap;refine Pl Z (BF (p:=97≤((bytesOf s).getD k 0)∧((bytesOf s).getD k 0)≤122) Z ?_);refine Mv (.bool (decide (¬(97≤((bytesOf s).getD k 0)∧((bytesOf s).getD k 0)≤122)))) Z Z ?_;refine BH (p:=¬(97≤((bytesOf s).getD k 0)∧((bytesOf s).getD k 0)≤122)) ?_ ?_
   ·intro aa;refine Gg 4 17 (AD Z aa) Z (AA (v:=.int .i64 (k:Int)) Z ?_);refine Gg 4 17 (AD Z aa) Z (Bc (a:=(k:Int)) (b:=0) Z Z ?_);refine Gg 4 17 (AD Z aa) Z (AA (v:=.bool (decide ((k:Int)=0))) Z ?_);refine BH (p:=(k:Int)=0) ?_ ?_
    ·intro ab;refine Gs 7 20 (AD Z ab) Z ?_;refine Gs 7 20 (AD Z ab) Z ?_;refine Gs 7 20 (AD Z ab) Z ?_;refine Gs 7 20 (AD Z ab) Z ?_;refine Gg 4 17 (AD Z aa) Z (Bb (t:=true) (v:=.bool true) (AD Z ab) Z ?_);refine Pk true (.bool true) Z (AD Z aa) Z ?_;refine Nl ?_;exact ⟨Z,Z,ah,ai,aj,ac,Et (b:=(.bool true:Value)) Z (congrArg Value.bool (by grind:true=(decide ((¬(97≤((bytesOf s).getD k 0)∧((bytesOf s).getD k 0)≤122))∧(((k:Int)=0)∨(¬(48≤((bytesOf s).getD k 0)∧((bytesOf s).getD k 0)≤57)))))))⟩
    ·intro ab;refine Gg 7 20 (AC Z ab) Z (AA (v:=.int .u8 ((bytesOf s).getD k 0)) Z ?_);refine Gg 7 20 (AC Z ab) Z (BR (r:=(bytesOf s).getD k 0) Fx.und5 Fx.kind3 Z (by rw [IntWalk.i64_in _ (by omega)]) ?_);refine Gg 7 20 (AC Z ab) Z (Ak Tryz.func79 Fx.call79 Z Z Z ((BQ ((bytesOf s).getD k 0) 48 57 ).mono fun _ _ aq=>?_));obtain ⟨rfl,rfl⟩:=aq;refine Gg 7 20 (AC Z ab) Z (BF (p:=48≤((bytesOf s).getD k 0)∧((bytesOf s).getD k 0)≤57) Z ?_);refine Gg 4 17 (AD Z aa) Z (Bb (t:=false) (v:=.bool (decide (¬(48≤((bytesOf s).getD k 0)∧((bytesOf s).getD k 0)≤57)))) (AC Z ab) Z ?_);refine Pk true (.bool (decide (¬(48≤((bytesOf s).getD k 0)∧((bytesOf s).getD k 0)≤57)))) Z (AD Z aa) Z ?_;refine Nl ?_;exact ⟨Z,Z,ah,ai,aj,ac,Et (b:=(.bool (decide (¬(48≤((bytesOf s).getD k 0)∧((bytesOf s).getD k 0)≤57))):Value)) Z (congrArg Value.bool (by grind:decide (¬(48≤((bytesOf s).getD k 0)∧((bytesOf s).getD k 0)≤57))=(decide ((¬(97≤((bytesOf s).getD k 0)∧((bytesOf s).getD k 0)≤122))∧(((k:Int)=0)∨(¬(48≤((bytesOf s).getD k 0)∧((bytesOf s).getD k 0)≤57)))))))⟩
   ·intro aa;refine Gs 4 17 (AC Z aa) Z ?_;refine Gs 4 17 (AC Z aa) Z ?_;refine Gs 4 17 (AC Z aa) Z ?_;refine Bi (j:=7) (d:=20) Z Z Z Z Z Z ?_;refine Bi (j:=7) (d:=20) Z Z Z Z Z Z ?_;refine Bi (j:=7) (d:=20) Z Z Z Z Z Z ?_;refine Bi (j:=7) (d:=20) Z Z Z Z Z Z ?_;refine Gs 4 17 (AC Z aa) Z ?_;refine Pk false (.bool false) Z (AC Z aa) Z ?_;refine Nl ?_;exact ⟨Z,Z,ah,ai,aj,ac,Et (b:=(.bool false:Value)) Z (congrArg Value.bool (by grind:false=(decide ((¬(97≤((bytesOf s).getD k 0)∧((bytesOf s).getD k 0)≤122))∧(((k:Int)=0)∨(¬(48≤((bytesOf s).getD k 0)∧((bytesOf s).getD k 0)≤57)))))))⟩
  ·rintro _ _ _ ⟨ar,af,au,av,aw,ax,ay⟩;subst ar;subst af;refine AX (p:=(¬(97≤((bytesOf s).getD k 0)∧((bytesOf s).getD k 0)≤122))∧(((k:Int)=0)∨(¬(48≤((bytesOf s).getD k 0)∧((bytesOf s).getD k 0)≤57)))) ay (fun az=>?_) (fun az=>?_)
   ·refine Sq (Rg ?_);refine As (.bool false) Z Z ?_;refine Nl (Rt ?_);refine ⟨.inr Z,Ac Z (v:=.bool false) Z ?_⟩;exact ⟨(by (symm;congr 1;exact Kc hs (by omega) (by unfold F1;simp only [DB,DP, *,not_true_eq_false,not_false_eq_true,if_true,if_false,or_self,or_true,true_or,and_self,and_true,true_and];simp_all;done))),(ad.trans ag)⟩
   ·refine Sk (Rg ?_);refine Ad (k:Int) 1 Z ax Z (by omega) ?_;refine Mv (.int .i64 ((k:Int)+1)) Z Z ?_;refine Nl ?_;exact ⟨_,by omega,k+1,Z,(by omega),(by exact Ct hs (by unfold F1;simp only [DB,DP];simp_all;done)),Z,ag,au,av,aw,Z⟩
 ·refine Xt (Sq (Rg ?_));refine Mv (.string s) Z ah ?_;refine Pl Z (Ic Fx.str9 Z ?_);refine Pl Z (Ak Tryz.func79 Fx.call79 Z Z Z ((BQ (s.size:Int) 1 10 ).mono fun _ _ a0=>?_));obtain ⟨rfl,rfl⟩:=a0;refine As (.bool (decide (1≤(s.size:Int)∧(s.size:Int)≤10))) Z Z ?_;refine Nl (Rt ?_);refine ⟨.inr Z,Ac Z (v:=.bool (decide (1≤(s.size:Int)∧(s.size:Int)≤10))) Z ?_⟩;exact ⟨(by (symm;congr 1;exact Ke hs (by omega))),(ad.trans ag)⟩
theorem O1 {W:Wk Tryz.prog} {h:GH} (o:Good) (x:Good) (rx:Nat) (hrx:Aa h rx 0 5 #[.string x.name,.int .i64 x.cost,.int .i64 x.pack,.int .i64 x.low,.int .i64 x.high]):AZ W 200 #[.agg #[.string o.name,.int .i64 o.cost,.int .i64 o.pack,.int .i64 o.low,.int .i64 o.high],.pointer (some ⟨rx,0,none⟩)] h (fun v h'=>v=(.bool ((o.name).toList==(x.name).toList):Value)∧h.Le h'):=by
 refine AN Tryz.func200 Z (Nb Z) ?_;refine Sq (Rg ?_);refine Pl Z (Am (v:=.agg #[.string o.name,.int .i64 o.cost,.int .i64 o.pack,.int .i64 o.low,.int .i64 o.high]) (c:=#[.string o.name,.int .i64 o.cost,.int .i64 o.pack,.int .i64 o.low,.int .i64 o.high]) Z Z fun _ _ _ aa ab _=>?_);refine As (.bool false) Z Z ?_;refine Nl (Sq (Rg ?_));refine Fa Fx.fld99_0 Z Z ?_;refine Ld (.string o.name) Z Z (Rd.one Fx.ty9 ab Z) ?_;refine Fa Fx.fld99_0 Z Z ?_;refine Ld (.string x.name) Z Z (Bd (o:=0) Fx.ty9 (hrx.le aa) Z) ?_;refine Pl Z (Qr (a:=o.name) (b:=x.name) Z Z ?_);refine As (.bool ((o.name).toList==(x.name).toList)) Z Z ?_;refine Nl (Rt ?_);refine ⟨.inr Z,Ac Z (v:=.bool ((o.name).toList==(x.name).toList)) Z ?_⟩;exact ⟨Z,aa⟩
theorem QR {W:Wk Tryz.prog} {h:GH} (d:Int) (m:Int) (gs:List Good) (gsv:Value) (ms:List AB) (msv:Value) (cs:List AJ) (csv:Value) (hgs:AK h gsv 5 A9 gs) (hms:AK h msv 5 Aw ms) (hcs:AK h csv 4 Ar cs) (hnm:∀k,(gs.getD k Good.z).name.size≤1000):AZ W 195 #[.agg #[.int .i64 d,.int .i64 m,gsv,msv,csv]] h (fun v h'=>v=(.int .i64 (BN gs):Value)∧h.Le h'):=by
 have a2:=hgs.len;have a3:=hms.len;have a4:=hcs.len;refine AN Tryz.func195 Z (Nb Z) ?_;refine Sq (Rg ?_);refine Pl Z (Am (v:=.agg #[.int .i64 d,.int .i64 m,gsv,msv,csv]) (c:=#[.int .i64 d,.int .i64 m,gsv,msv,csv]) Z Z fun r4 h5 _ ag a5 _=>?_);refine As (.int .i64 0) Z Z ?_;refine Nl (Sq (Sq (Rg ?_)));refine Fa Fx.fld104_0 Z Z ?_;refine Fa Fx.fld26_2 Z Z ?_;refine Ld gsv Z Z (Rd.one Fx.ty22 a5 Z) ?_;have ap:=hgs.le ag;refine Pl Z (AY Fx.sl22 ap Z ?_);refine Pl Z (Ak Tryz.func79 Fx.call79 Z Z Z ((BQ (gs.length:Int) 1 3 ).mono fun _ _ a6=>?_));obtain ⟨rfl,rfl⟩:=a6;refine Pl Z (BF (p:=1≤(gs.length:Int)∧(gs.length:Int)≤3) Z ?_);refine Nl ?_;refine AX (p:=¬(1≤(gs.length:Int)∧(gs.length:Int)≤3)) Z (fun aq=>?_) (fun aq=>?_)
 ·refine Sq (Rg ?_);refine As (.int .i64 2) Z Z ?_;refine Nl (Rt ?_);refine ⟨.inr Z,Ac Z (v:=.int .i64 2) Z ?_⟩;exact ⟨(by (symm;congr 1;rw [BN,if_pos ‹_›];done)),ag⟩
 ·have hc16_:=Dn aq;refine Sk (Sq (Sq (Rg ?_)));refine Fa Fx.fld104_0 Z Z ?_;refine Fa Fx.fld26_2 Z Z ?_;refine Ld gsv Z Z (Rd.one Fx.ty22 a5 Z) ?_;refine Pl Z (AY Fx.sl22 ap Z ?_);refine Mv (.int .i64 0) Z Z ?_;refine Nl (Bk ?_);refine Au (fun nn σ' ds' h'=>∃(k:Nat),nn=gs.length-k∧(k≤gs.length)∧(∀j,j<k→D6 gs j=0)∧ds'=[]∧GH.Le h5 h'∧σ' 1=.pointer (some ⟨r4,0,none⟩)∧σ' 13=gsv∧σ' 14=.int .i64 (gs.length:Int)∧σ' 15=.int .i64 (k:Int)) ⟨0,Z,(by omega),(by (intro j hj;omega)),Z,Lr,Z,Z,Z,Z⟩ (fun nn _ _ _ a7=>?_);obtain ⟨k,rfl,hk,hs,bx,ar,ay,az,a0,ao⟩:=a7;subst bx;have hnk:=hnm k;refine Sq (Rg ?_);refine Pl Z (A1 (a:=(k:Int)) (b:=(gs.length:Int)) ao a0 ?_);refine Nl (Sq ?_);refine AX (p:=(k:Int)<(gs.length:Int)) Z (fun a8=>?_) (fun a8=>?_)
  ·refine Sk (Sq (Bk (Sq (Rg ?_))));refine Mv (.int .i64 (k:Int)) Z ao ?_;have a9:(0:Int)≤(k:Int):=by omega
   have ba:(k:Int)<((gs.length:Nat):Int):=by omega
   refine Pl Z (A0 Fx.esz22 hgs az ao a9 ba fun bz au bb=>?_);have bc:Aa _ bz au 5 (A9 (gs.getD k Good.z)):=Aa.getD Good.z bb;have af:=ag.trans ar;refine Ld (.agg #[.string ((gs.getD k Good.z).name),.int .i64 ((gs.getD k Good.z).cost),.int .i64 ((gs.getD k Good.z).pack),.int .i64 ((gs.getD k Good.z).low),.int .i64 ((gs.getD k Good.z).high)]) Z Z (AL Fx.ty99 (bc.le af)) ?_;have av:=ar.keep a5 Z;refine Pl Z (Ab Fx.zero99 fun a1 _ ah ad bd _=>?_);have be:r4≠a1:=B9 av ah;refine As (.int .i64 (k:Int)) Z Z ?_;refine Pl Z (AG (v:=.agg #[.string ((gs.getD k Good.z).name),.int .i64 ((gs.getD k Good.z).cost),.int .i64 ((gs.getD k Good.z).pack),.int .i64 ((gs.getD k Good.z).low),.int .i64 ((gs.getD k Good.z).high)]) (c':=#[.string ((gs.getD k Good.z).name),.int .i64 ((gs.getD k Good.z).cost),.int .i64 ((gs.getD k Good.z).pack),.int .i64 ((gs.getD k Good.z).low),.int .i64 ((gs.getD k Good.z).high)]) Fx.ty99 Z Z bd Z Z (by simp) Z fun _ ak ai=>?_);refine Nl (Bk (Sq (Rg ?_)));refine Fa Fx.fld99_0 Z Z ?_;refine Ld (.string ((gs.getD k Good.z).name)) Z Z (Rd.one Fx.ty9 ak Z) ?_;refine Pl Z (Ai Tryz.func198 Fx.call198 Z ((O0 ((gs.getD k Good.z).name) (by omega)).mono fun _ bw bf=>?_));obtain ⟨rfl,ac⟩:=bf;refine Pl Z (Cl (b:=C3 ((gs.getD k Good.z).name)) Z ?_);refine As (.bool (!(C3 ((gs.getD k Good.z).name)))) Z Z ?_;refine Nl ?_;refine CN (t:= !(C3 ((gs.getD k Good.z).name))) Z (fun al=>?_) (fun al=>?_)
   ·have hc51_:(C3 ((gs.getD k Good.z).name))=false:=by simpa using al
    refine Sq (Rg ?_);refine As (.int .i64 4) Z Z ?_;refine Nl (Rt ?_);refine ⟨.inr Z,Ac Z (v:=.int .i64 4) Z ?_⟩;exact ⟨(by (symm;congr 1;rw [BN,if_neg ‹_›];exact BK (k:=k) hs (by omega) (by unfold D6;(simp only [*,not_true_eq_false,not_false_eq_true,if_true,if_false,true_or,or_true,reduceCtorEq,Bool.false_eq_true];done)) (by decide))),(((af.trans ad).upd (Ln af ah) ai).trans ac)⟩
   ·have hc51_:(C3 ((gs.getD k Good.z).name))=true:=by simpa using al
    refine Sq (Rg ?_);refine Fa Fx.fld104_0 Z ay ?_;refine Fa Fx.fld26_2 Z Z ?_;refine Ld gsv Z Z (Rd.one Fx.ty22 (ac.keep ((ai _ be).trans (ad.keep av Z)) Z) Z) ?_;refine Mv (.int .i64 (k:Int)) Z Z ?_;have am:=((af.trans ad).upd (Ln af ah) ai).trans ac;refine Pl Z (Sc (0) k Fx.esz22 (hgs.le am) Z Z (⟨_,Z⟩) (by omega) (by omega) fun aw bg=>?_);have bh:AK bw aw 5 A9 (gs.take k):=by simpa using bg
    refine Pl Z (Ms Z ?_);have bi:∀x ∈ (gs.take k),∀h1,GH.Le bw h1→CA W (.func (.func 200) #[] #[.pointer (some ⟨a1,0,none⟩)]) #[.agg #[.string x.name,.int .i64 x.cost,.int .i64 x.pack,.int .i64 x.low,.int .i64 x.high]] h1 fun v h2=>v=.bool ((fun x=>(x.name).toList==((gs.getD k Good.z).name).toList) x)∧h1.Le h2:=by
     intro x hx h1 l1;exact Bs Tryz.func200 Fx.call200 Z ((O1 x (gs.getD k Good.z) a1 (Bx (l1.keep (ac.keep ak Z) Z) Z) ).mono fun v h2 hp=>⟨hp.1,hp.2⟩)
    refine Pl Z (AW Tryz.func199 Fx.call199 Z Z ((JB (gs.take k) aw (.func (.func 200) #[] #[.pointer (some ⟨a1,0,none⟩)]) (fun x=>(x.name).toList==((gs.getD k Good.z).name).toList) bh bi).mono fun _ b0 bj=>?_));obtain ⟨rfl,ae⟩:=bj;refine As (.bool ((gs.take k).any (fun x=>(x.name).toList==((gs.getD k Good.z).name).toList))) Z Z ?_;refine Nl ?_;refine CN (t:=(gs.take k).any (fun x=>(x.name).toList==((gs.getD k Good.z).name).toList)) Z (fun bk=>?_) (fun bk=>?_)
    ·refine Sq (Rg ?_);refine As (.int .i64 5) Z Z ?_;refine Nl (Rt ?_);refine ⟨.inr Z,Ac Z (v:=.int .i64 5) Z ?_⟩;exact ⟨(by (symm;congr 1;rw [BN,if_neg ‹_›];exact BK (k:=k) hs (by omega) (by unfold D6;(simp only [*,not_true_eq_false,not_false_eq_true,if_true,if_false,true_or,or_true,reduceCtorEq,Bool.false_eq_true];done)) (by decide))),(am.trans ae)⟩
    ·refine BA (fun σ' ds' h'=>ds'=[]∧GH.Le b0 h'∧σ' 1=.pointer (some ⟨r4,0,none⟩)∧σ' 13=gsv∧σ' 14=.int .i64 (gs.length:Int)∧σ' 15=.int .i64 (k:Int)∧σ' 33=.bool (decide (((¬(0≤((gs.getD k Good.z).cost)∧((gs.getD k Good.z).cost)≤999))∨(¬(1≤((gs.getD k Good.z).pack)∧((gs.getD k Good.z).pack)≤20)))∨(¬(CH ((gs.getD k Good.z).low) ((gs.getD k Good.z).high)))))) ?_ ?_
     ·refine Rg ?_;refine Fa Fx.fld99_1 Z Z ?_;have an:=ae.keep (ac.keep ak Z) Z;refine Ld (.int .i64 ((gs.getD k Good.z).cost)) Z Z (Rd.one Fx.ty3 an Z) ?_;refine Pl Z (Ak Tryz.func79 Fx.call79 Z Z Z ((BQ ((gs.getD k Good.z).cost) 0 999 ).mono fun _ _ bl=>?_));obtain ⟨rfl,rfl⟩:=bl;refine Pl Z (BF (p:=0≤((gs.getD k Good.z).cost)∧((gs.getD k Good.z).cost)≤999) Z ?_);refine Mv (.bool (decide (¬(0≤((gs.getD k Good.z).cost)∧((gs.getD k Good.z).cost)≤999)))) Z Z ?_;refine BH (p:=¬(0≤((gs.getD k Good.z).cost)∧((gs.getD k Good.z).cost)≤999)) ?_ ?_
      ·intro aa;refine Gs 4 38 (AD Z aa) Z ?_;refine Gs 4 38 (AD Z aa) Z ?_;refine Gs 4 38 (AD Z aa) Z ?_;refine Gs 4 38 (AD Z aa) Z ?_;refine Pk true (.bool true) Z (AD Z aa) Z ?_;refine Mv (.bool true) Z Z ?_;refine Gs 10 44 Z Z ?_;refine Gs 10 44 Z Z ?_;refine Gs 10 44 Z Z ?_;refine Gs 10 44 Z Z ?_;refine Pk true (.bool true) Z Z Z ?_;refine As (.bool true) Z Z ?_;refine Nl ?_;exact ⟨Z,Lr,ay,az,a0,ao,Et (b:=(.bool true:Value)) Z (congrArg Value.bool (by grind:true=(decide (((¬(0≤((gs.getD k Good.z).cost)∧((gs.getD k Good.z).cost)≤999))∨(¬(1≤((gs.getD k Good.z).pack)∧((gs.getD k Good.z).pack)≤20)))∨(¬(CH ((gs.getD k Good.z).low) ((gs.getD k Good.z).high)))))))⟩
      ·intro aa;refine Gg 4 38 (AC Z aa) Z (AF Fx.fld99_2 Z ?_);refine Gg 4 38 (AC Z aa) Z (AE (v:=.int .i64 ((gs.getD k Good.z).pack)) Z (Rd.one Fx.ty3 an Z) ?_);refine Gg 4 38 (AC Z aa) Z (Ak Tryz.func79 Fx.call79 Z Z Z ((BQ ((gs.getD k Good.z).pack) 1 20 ).mono fun _ _ bm=>?_));obtain ⟨rfl,rfl⟩:=bm;refine Gg 4 38 (AC Z aa) Z (BF (p:=1≤((gs.getD k Good.z).pack)∧((gs.getD k Good.z).pack)≤20) Z ?_);refine Pk false (.bool (decide (¬(1≤((gs.getD k Good.z).pack)∧((gs.getD k Good.z).pack)≤20)))) Z (AC Z aa) Z ?_;refine Mv (.bool (decide (¬(1≤((gs.getD k Good.z).pack)∧((gs.getD k Good.z).pack)≤20)))) Z Z ?_;refine BH (p:=¬(1≤((gs.getD k Good.z).pack)∧((gs.getD k Good.z).pack)≤20)) ?_ ?_
       ·intro ab;refine Gs 10 44 (AD Z ab) Z ?_;refine Gs 10 44 (AD Z ab) Z ?_;refine Gs 10 44 (AD Z ab) Z ?_;refine Gs 10 44 (AD Z ab) Z ?_;refine Pk true (.bool true) Z (AD Z ab) Z ?_;refine As (.bool true) Z Z ?_;refine Nl ?_;exact ⟨Z,Lr,ay,az,a0,ao,Et (b:=(.bool true:Value)) Z (congrArg Value.bool (by grind:true=(decide (((¬(0≤((gs.getD k Good.z).cost)∧((gs.getD k Good.z).cost)≤999))∨(¬(1≤((gs.getD k Good.z).pack)∧((gs.getD k Good.z).pack)≤20)))∨(¬(CH ((gs.getD k Good.z).low) ((gs.getD k Good.z).high)))))))⟩
       ·intro ab;refine Gg 10 44 (AC Z ab) Z (AF Fx.fld99_3 Z ?_);refine Gg 10 44 (AC Z ab) Z (AE (v:=.agg #[.int .i64 ((gs.getD k Good.z).low),.int .i64 ((gs.getD k Good.z).high)]) Z (Ew (o:=3) (ws:=#[.int .i64 ((gs.getD k Good.z).low),.int .i64 ((gs.getD k Good.z).high)]) Fx.ty31 (Bx an Z) (Nb Z) Z) ?_);refine Gg 10 44 (AC Z ab) Z (Ai Tryz.func201 Fx.call201 Z ((Ox ((gs.getD k Good.z).low) ((gs.getD k Good.z).high) ).mono fun _ _ bn=>?_));obtain ⟨rfl,ax⟩:=bn;refine Gg 10 44 (AC Z ab) Z (BF (p:=CH ((gs.getD k Good.z).low) ((gs.getD k Good.z).high)) Z ?_);refine Pk false (.bool (decide (¬(CH ((gs.getD k Good.z).low) ((gs.getD k Good.z).high))))) Z (AC Z ab) Z ?_;refine As (.bool (decide (¬(CH ((gs.getD k Good.z).low) ((gs.getD k Good.z).high))))) Z Z ?_;refine Nl ?_;exact ⟨Z,ax,ay,az,a0,ao,Et (b:=(.bool (decide (¬(CH ((gs.getD k Good.z).low) ((gs.getD k Good.z).high)))):Value)) Z (congrArg Value.bool (by grind:decide (¬(CH ((gs.getD k Good.z).low) ((gs.getD k Good.z).high)))=(decide (((¬(0≤((gs.getD k Good.z).cost)∧((gs.getD k Good.z).cost)≤999))∨(¬(1≤((gs.getD k Good.z).pack)∧((gs.getD k Good.z).pack)≤20)))∨(¬(CH ((gs.getD k Good.z).low) ((gs.getD k Good.z).high)))))))⟩
     ·rintro _ _ _ ⟨bo,aj,bp,bq,br,bs,bt⟩;subst bo;refine AX (p:=((¬(0≤((gs.getD k Good.z).cost)∧((gs.getD k Good.z).cost)≤999))∨(¬(1≤((gs.getD k Good.z).pack)∧((gs.getD k Good.z).pack)≤20)))∨(¬(CH ((gs.getD k Good.z).low) ((gs.getD k Good.z).high)))) bt (fun bu=>?_) (fun bu=>?_)
      ·refine Sq (Rg ?_);refine As (.int .i64 1) Z Z ?_;refine Nl (Rt ?_);refine ⟨.inr Z,Ac Z (v:=.int .i64 1) Z ?_⟩;exact ⟨(by (symm;congr 1;rw [BN,if_neg ‹_›];exact BK (k:=k) hs (by omega) (by unfold D6;(simp only [*,not_true_eq_false,not_false_eq_true,if_true,if_false,true_or,or_true,reduceCtorEq,Bool.false_eq_true];done)) (by decide))),((am.trans ae).trans aj)⟩
      ·refine Sk (Rg ?_);refine Ad (k:Int) 1 Z bs Z (by omega) ?_;refine Mv (.int .i64 ((k:Int)+1)) Z Z ?_;refine Nl ?_;have bv:=((((ar.trans ad).upd (Ln ar ah) ai).trans ac).trans ae).trans aj;exact ⟨_,by omega,k+1,Z,(by omega),(by exact Ct hs (by unfold D6;(simp only [*,not_true_eq_false,not_false_eq_true,if_true,if_false,or_self,reduceCtorEq,Bool.false_eq_true];done))),Z,bv,bp,bq,br,Z⟩
  ·refine Xt (Sq (Rg ?_));refine As (.int .i64 0) Z Z ?_;refine Nl (Rt ?_);refine ⟨.inr Z,Ac Z (v:=.int .i64 0) Z ?_⟩;exact ⟨(by (symm;congr 1;rw [BN,if_neg ‹_›];exact B2 (k:=k) hs (by omega))),(ag.trans ar)⟩
end Go.Ns
namespace Go.Ns
open Go.Conc Go.Proofs
attribute [local irreducible] BY DR Tr AZ CA Bp
def Nf:Array Value:=#[.func (.func 194) #[] #[],.func (.func 195) #[] #[],.func (.func 196) #[] #[],.func (.func 197) #[] #[]]
def Ng:Array Value:=#[.string ⟨#[99,97,109,101]⟩,.func (.func 203) #[] #[],.string ⟨#[115,111,108,100]⟩,.func (.func 204) #[] #[],.string ⟨#[108,111,115,116]⟩,.func (.func 204) #[] #[],.string ⟨#[103,105,118,101,110]⟩,.func (.func 204) #[] #[],.string ⟨#[98,97,99,107]⟩,.func (.func 203) #[] #[]]
def Cq (h:GH):Prop:=Aa h 0 0 4 Nf∧Aa h 1 0 10 Ng
theorem Cq.le {h h':GH} (g:Cq h) (l:h.Le h'):Cq h':=⟨g.1.le l,g.2.le l⟩
def KB (k:Nat):Value:=Nf.getD k undef
def QS (k:Nat):Value:=Ng.getD (k*2+1) undef
theorem QT {k:Nat} (h:k<4):(if false=true then some (Value.agg ((#[.func (.func 194) #[] #[],.func (.func 195) #[] #[],.func (.func 196) #[] #[],.func (.func 197) #[] #[]]:Array Value).extract (k*1) (k*1+1))) else (#[.func (.func 194) #[] #[],.func (.func 195) #[] #[],.func (.func 196) #[] #[],.func (.func 197) #[] #[]]:Array Value)[k*1]?)=some (KB k):=by
 match k,h with
 | 0,_=>rfl
 | 1,_=>rfl
 | 2,_=>rfl
 | 3,_=>rfl
theorem R0 {k:Nat} (h:k<5):Ng[0+k*2+1]? =some (QS k):=by
 match k,h with
 | 0,_=>rfl
 | 1,_=>rfl
 | 2,_=>rfl
 | 3,_=>rfl
 | 4,_=>rfl
theorem Nh {W:Wk Tryz.prog} {h:GH} (d m:Int) (gs:List Good) (gsv:Value) (ms:List AB) (msv:Value) (cs:List AJ) (csv:Value) (hgs:AK h gsv 5 A9 gs) (hms:AK h msv 5 Aw ms) (hcs:AK h csv 4 Ar cs) (hnm:∀k,(gs.getD k Good.z).name.size≤1000) {k:Nat} (hk:k<4) :
  CA W (KB k) #[.agg #[.int .i64 d,.int .i64 m,gsv,msv,csv]] h fun v h'=>v=.int .i64 (DD d m gs ms cs k)∧h.Le h':=by
 match k,hk with
 | 0,_=>exact Bs (first:=#[]) (cap:=#[]) Tryz.func194 Fx.call194 rfl (Rz (W:=W) (h:=h) d m gs gsv ms msv cs csv hgs hms hcs)
 | 1,_=>exact Bs (first:=#[]) (cap:=#[]) Tryz.func195 Fx.call195 rfl (QR (W:=W) (h:=h) d m gs gsv ms msv cs csv hgs hms hcs hnm)
 | 2,_=>exact Bs (first:=#[]) (cap:=#[]) Tryz.func196 Fx.call196 rfl (QQ (W:=W) (h:=h) d m gs gsv ms msv cs csv hgs hms hcs)
 | 3,_=>exact Bs (first:=#[]) (cap:=#[]) Tryz.func197 Fx.call197 rfl (Oz (W:=W) (h:=h) d m gs gsv ms msv cs csv hgs hms hcs)
theorem Mf {W:Wk Tryz.prog} {h:GH} (n:Int):AZ W 203 #[.int .i64 n] h (fun v h'=>v=(.int .i64 n:Value)∧h=h'):=by
 refine AN Tryz.func203 Z (Nb Z) ?_;refine Sq (Rg ?_);refine As (.int .i64 0) Z Z ?_;refine Nl (Sq (Rg ?_));refine Mv (.int .i64 n) Z Z ?_;refine As (.int .i64 n) Z Z ?_;refine Nl (Rt ?_);refine ⟨.inr Z,Ac Z (v:=.int .i64 n) Z ?_⟩;exact ⟨Z,Z⟩
theorem JY {W:Wk Tryz.prog} {h:GH} (n:Int) (hn:0≤n∧n≤99):AZ W 204 #[.int .i64 n] h (fun v h'=>v=(.int .i64 (-n):Value)∧h=h'):=by
 refine AN Tryz.func204 Z (Nb Z) ?_;refine Sq (Rg ?_);refine As (.int .i64 0) Z Z ?_;refine Nl (Sq (Rg ?_));refine Mv (.int .i64 n) Z Z ?_;refine Pl Z (Uj (a:=n) Z (by omega) ?_);refine As (.int .i64 (-n)) Z Z ?_;refine Nl (Rt ?_);refine ⟨.inr Z,Ac Z (v:=.int .i64 (-n)) Z ?_⟩;exact ⟨Z,Z⟩
theorem Ca {W:Wk Tryz.prog} {h:GH} (d:Int) (m:Int) (gs:List Good) (gsv:Value) (ms:List AB) (msv:Value) (cs:List AJ) (csv:Value) (hgs:AK h gsv 5 A9 gs) (hms:AK h msv 5 Aw ms) (hcs:AK h csv 4 Ar cs) (hG:Cq h) (hnm:∀k,(gs.getD k Good.z).name.size≤1000):AZ W 25 #[.agg #[.int .i64 d,.int .i64 m,gsv,msv,csv]] h (fun v h'=>v=(.int .i64 (AR d m gs ms cs):Value)∧h.Le h'):=by
 have ae:=hgs.len;have af:=hms.len;have ag:=hcs.len;refine AN Tryz.func25 Z (Nb Z) ?_;refine Sq (Rg ?_);refine Pl Z (Am (v:=.agg #[.int .i64 d,.int .i64 m,gsv,msv,csv]) (c:=#[.int .i64 d,.int .i64 m,gsv,msv,csv]) Z Z fun r4 h5 _ ac aq _=>?_);refine As (.int .i64 0) Z Z ?_;refine Nl (Sq (Sq (Rg ?_)));refine Ld (.agg #[.func (.func 194) #[] #[],.func (.func 195) #[] #[],.func (.func 196) #[] #[],.func (.func 197) #[] #[]]) Z Z (AL Fx.ty135 (hG.le ac).1) ?_;refine Mv (.int .i64 0) Z Z ?_;refine Nl (Bk ?_);refine Au (fun nn σ' ds' h'=>∃(k:Nat),nn=4-k∧(k≤4)∧(∀j,j<k→DD d m gs ms cs j=0)∧ds'=[]∧GH.Le h5 h'∧σ' 1=.pointer (some ⟨r4,0,none⟩)∧σ' 6=.agg #[.func (.func 194) #[] #[],.func (.func 195) #[] #[],.func (.func 196) #[] #[],.func (.func 197) #[] #[]]∧σ' 7=.int .i64 (k:Int)) ⟨0,Z,(by omega),(by (intro j hj;omega)),Z,Lr,Z,Z,Z⟩ (fun nn _ _ _ ah=>?_);obtain ⟨k,rfl,hk,hs,ar,ad,ao,ap,ai⟩:=ah;subst ar;refine Sq (Rg ?_);refine Pl Z (A1 (a:=(k:Int)) (b:=4) ai Z ?_);refine Nl (Sq ?_);refine AX (p:=(k:Int)<4) Z (fun aj=>?_) (fun aj=>?_)
 ·refine Sk (Sq (Bk (Sq (Rg ?_))));have ak:(0:Int)≤(k:Int):=by omega
  have al:(k:Int)<((4:Nat):Int):=by omega
  refine Pl Z (MC Fx.arr135 ap ai ak al (QT (by omega)) ?_);refine As (KB k) Z Z ?_;refine Nl (Sq (Rg ?_));refine Mv (KB k) Z Z ?_;refine Ld (.agg #[.int .i64 d,.int .i64 m,gsv,msv,csv]) Z ao (AL Fx.ty26 (Bx (ad.keep aq Z) Z)) ?_;refine Pl Z (Ap (cells:=#[.int .i64 d,.int .i64 m,gsv,msv,csv]) Fx.pl104 Fx.zero104 (by kernel_rfl) ?_);have aa:=ac.trans ad;refine Pl Z (Fk Z Z ((Nh d m gs gsv ms msv cs csv (hgs.le aa) (hms.le aa) (hcs.le aa) hnm (k:=k) (by omega)).mono fun _ _ am=>?_));obtain ⟨rfl,ab⟩:=am;refine As (.int .i64 (DD d m gs ms cs k)) Z Z ?_;refine Nl (Sq (Rg ?_));refine Mv (.int .i64 (DD d m gs ms cs k)) Z Z ?_;refine Pl Z (A4 (a:=DD d m gs ms cs k) (b:=0) Z Z ?_);refine Nl ?_;refine AX (p:=¬(DD d m gs ms cs k)=0) Z (fun an=>?_) (fun an=>?_)
  ·refine Sq (Rg ?_);refine Mv (.int .i64 (DD d m gs ms cs k)) Z Z ?_;refine As (.int .i64 (DD d m gs ms cs k)) Z Z ?_;refine Nl (Rt ?_);refine ⟨.inr Z,Ac Z (v:=.int .i64 (DD d m gs ms cs k)) Z ?_⟩;exact ⟨(by (symm;congr 1;exact BK (k:=k) hs (by omega) Z ‹_›)),(aa.trans ab)⟩
  ·refine Sk (Rg ?_);refine Ad (k:Int) 1 Z ai Z (by omega) ?_;refine Mv (.int .i64 ((k:Int)+1)) Z Z ?_;refine Nl ?_;exact ⟨_,by omega,k+1,Z,(by omega),(by exact Ct hs (Dn ‹_›)),Z,(ad.trans ab),ao,ap,Z⟩
 ·refine Xt (Sq (Rg ?_));refine As (.int .i64 0) Z Z ?_;refine Nl (Rt ?_);refine ⟨.inr Z,Ac Z (v:=.int .i64 0) Z ?_⟩;exact ⟨(by (symm;congr 1;exact B2 (k:=k) hs (by omega))),(ac.trans ad)⟩
end Go.Ns
namespace Go.Ns
open Go.Conc Go.Proofs
attribute [local irreducible] BY DR Tr AZ CA Bp
theorem O2 {W:Wk Tryz.prog} {h:GH} (n:Int) (hn:0≤n∧n≤99) {k:Nat} (hk:k<5):CA W (QS k) #[.int .i64 n] h fun v h'=>v=.int .i64 (signed k n)∧h.Le h':=by
 match k,hk with
 | 0,_=>exact Bs (first:=#[]) (cap:=#[]) Tryz.func203 Fx.call203 rfl ((Mf (W:=W) (h:=h) n).mono fun v h' hp=>⟨hp.1,by rw [←hp.2];exact GH.Le.refl _⟩)
 | 1,_=>exact Bs (first:=#[]) (cap:=#[]) Tryz.func204 Fx.call204 rfl ((JY (W:=W) (h:=h) n hn).mono fun v h' hp=>⟨hp.1,by rw [←hp.2];exact GH.Le.refl _⟩)
 | 2,_=>exact Bs (first:=#[]) (cap:=#[]) Tryz.func204 Fx.call204 rfl ((JY (W:=W) (h:=h) n hn).mono fun v h' hp=>⟨hp.1,by rw [←hp.2];exact GH.Le.refl _⟩)
 | 3,_=>exact Bs (first:=#[]) (cap:=#[]) Tryz.func204 Fx.call204 rfl ((JY (W:=W) (h:=h) n hn).mono fun v h' hp=>⟨hp.1,by rw [←hp.2];exact GH.Le.refl _⟩)
 | 4,_=>exact Bs (first:=#[]) (cap:=#[]) Tryz.func203 Fx.call203 rfl ((Mf (W:=W) (h:=h) n).mono fun v h' hp=>⟨hp.1,by rw [←hp.2];exact GH.Le.refl _⟩)
theorem Gt {W:Wk Tryz.prog} {h:GH} (d:Int) (m:Int) (gs:List Good) (gsv:Value) (ms:List AB) (msv:Value) (cs:List AJ) (csv:Value) (p:AQ) (g:Int) (dy:Int) (hgs:AK h gsv 5 A9 gs) (hms:AK h msv 5 Aw ms) (hcs:AK h csv 4 Ar cs) (hG:Cq h) (hg0:0≤g) (hg1:g<3) (hp:BZ p) (hml:ms.length≤6) (hkind:∀k,0≤(ms.getD k AB.z).kind∧(ms.getD k AB.z).kind≤4):AZ W 95 #[.agg #[.int .i64 d,.int .i64 m,gsv,msv,csv],.agg (Ag p),.int .i64 g,.int .i64 dy] h (fun v h'=>v=(.tuple #[.int .i64 ((AM ms p g dy).1),.int .i64 ((AM ms p g dy).2)]:Value)∧h.Le h'):=by
 have hpf:=hp.1 g.toNat;have ez:=hgs.len;have e0:=hms.len;have e1:=hcs.len;refine AN Tryz.func95 Z (Nb Z) ?_;refine Sq (Rg ?_);refine Pl Z (Am (v:=.agg #[.int .i64 d,.int .i64 m,gsv,msv,csv]) (c:=#[.int .i64 d,.int .i64 m,gsv,msv,csv]) Z Z fun r4 _ _ e2 hu _=>?_);refine Pl Z (Am (v:=.agg (Ag p)) (c:=Ag p) Z Z fun hl hv _ a2 bs _=>?_);refine As (.int .i64 0) Z Z ?_;refine As (.int .i64 0) Z Z ?_;refine Nl (Sq (Rg ?_));refine Mv (.int .i64 g) Z Z ?_;refine Fa Fx.fld119_0 Z Z ?_;have e3:(0:Int)≤g:=by omega
 have e4:g<((3:Nat):Int):=by omega
 refine Pl Z (CV Fx.asz115 Z Z e3 e4 ?_);refine Ld (.int .i64 (p.first (g.toNat))) Z Z (Rd.one Fx.ty3 bs (M0 (i:=g.toNat) (by omega))) ?_;refine As (.int .i64 (p.first (g.toNat))) Z Z ?_;refine Nl (Sq (Rg ?_));refine Mv (.int .i64 (p.first (g.toNat))) Z Z ?_;refine As (.int .i64 (p.first (g.toNat))) Z Z ?_;refine Nl (Sq (Sq (Rg ?_)));refine Fa Fx.fld104_0 Z Z ?_;refine Fa Fx.fld26_3 Z Z ?_;have bt:=a2.keep hu Z;refine Ld msv Z Z (Rd.one Fx.ty23 bt Z) ?_;have a7:=e2.trans a2;refine Pl Z (AY Fx.sl23 (hms.le a7) Z ?_);refine Mv (.int .i64 0) Z Z ?_;refine Nl (Bk ?_);refine Au (fun nn σ' ds' h'=>∃(k:Nat) (n:Int) (low:Int),nn=ms.length-k∧(k≤ms.length)∧(-99*((k:Int)+1)≤n∧n≤99*((k:Int)+1))∧(CY ms p g dy (ms.length-k) k n low=CY ms p g dy ms.length 0 (p.first g.toNat) (p.first g.toNat))∧ds'=[]∧GH.Le hv h'∧σ' 2=.int .i64 g∧σ' 3=.int .i64 dy∧σ' 4=.pointer (some ⟨r4,0,none⟩)∧σ' 5=.pointer (some ⟨hl,0,none⟩)∧σ' 19=msv∧σ' 20=.int .i64 (ms.length:Int)∧σ' 8=.int .i64 n∧σ' 9=.int .i64 low∧σ' 21=.int .i64 (k:Int)) ⟨0,p.first g.toNat,p.first g.toNat,Z,(by omega),(by omega),(by rfl),Z,Lr,Z,Z,Z,Z,Z,Z,Z,Z,Z⟩ (fun nn _ _ _ e5=>?_);obtain ⟨k,n,low,rfl,hk,hn,hrun,hw,an,a8,a9,ay,ba,bb,bc,a3,a4,az⟩:=e5;subst hw;have hkd:=hkind k;have hre:=FA hp k;have hsg:=Ij (k:=(ms.getD k AB.z).kind.toNat) hre;refine Sq (Rg ?_);refine Pl Z (A1 (a:=(k:Int)) (b:=(ms.length:Int)) az bc ?_);refine Nl (Sq ?_);refine AX (p:=(k:Int)<(ms.length:Int)) Z (fun e6=>?_) (fun e6=>?_)
 ·refine Sk (Sq (Bk (Sq (Rg ?_))));refine Mv (.int .i64 (k:Int)) Z az ?_;have e7:(0:Int)≤(k:Int):=by omega
  have e8:(k:Int)<((ms.length:Nat):Int):=by omega
  refine Pl Z (A0 Fx.esz23 hms bb az e7 e8 fun hx bu e9=>?_);have fa:Aa _ hx bu 5 (Aw (ms.getD k AB.z)):=Aa.getD AB.z e9;have al:=a7.trans an;refine Ld (.agg #[.int .i64 ((ms.getD k AB.z).kind),.int .i64 ((ms.getD k AB.z).good),.int .i64 ((ms.getD k AB.z).day),.int .i64 ((ms.getD k AB.z).low),.int .i64 ((ms.getD k AB.z).high)]) Z Z (AL Fx.ty75 (fa.le al)) ?_;have au:=an.keep bt Z;have bv:=an.keep bs Z;refine Pl Z (Ab Fx.zero75 fun ey _ ai ac fb _=>?_);have a0:r4≠ey:=B9 au ai;have fc:hl≠ey:=B9 bv ai;refine As (.int .i64 (k:Int)) Z Z ?_;refine Pl Z (AG (v:=.agg #[.int .i64 ((ms.getD k AB.z).kind),.int .i64 ((ms.getD k AB.z).good),.int .i64 ((ms.getD k AB.z).day),.int .i64 ((ms.getD k AB.z).low),.int .i64 ((ms.getD k AB.z).high)]) (c':=#[.int .i64 ((ms.getD k AB.z).kind),.int .i64 ((ms.getD k AB.z).good),.int .i64 ((ms.getD k AB.z).day),.int .i64 ((ms.getD k AB.z).low),.int .i64 ((ms.getD k AB.z).high)]) Fx.ty75 Z Z fb Z Z (by simp) Z fun _ av ae=>?_);refine Nl (Sq (Sq (Rg ?_)));refine Fa Fx.fld75_2 Z Z ?_;refine Ld (.int .i64 ((ms.getD k AB.z).day)) Z Z (Rd.one Fx.ty3 av Z) ?_;refine Mv (.int .i64 dy) Z a9 ?_;refine Pl Z (Ce (a:=(ms.getD k AB.z).day) (b:=dy) Z Z ?_);refine Nl ?_;refine AX (p:=dy<((ms.getD k AB.z).day)) Z (fun fd=>?_) (fun fd=>?_)
  ·refine Xt (Sq (Rg ?_));refine Mv (.int .i64 n) Z a3 ?_;refine Mv (.int .i64 low) Z a4 ?_;refine As (.int .i64 n) Z Z ?_;refine As (.int .i64 low) Z Z ?_;refine Nl (Rt ?_);have fe:=(al.trans ac).upd (Ln al ai) ae;refine ⟨.inr Z,Cr Z (v:=.int .i64 n) (v':=.int .i64 low) Z Z ?_⟩;exact ⟨(by (rw [AM,←hrun,LX (ms:=ms) (k:=k) (dy:=dy) (by omega) ‹_›])),fe⟩
  ·refine Sk (Sq (Sq (Rg ?_)));refine Fa Fx.fld75_1 Z Z ?_;refine Ld (.int .i64 ((ms.getD k AB.z).good)) Z Z (Rd.one Fx.ty3 av Z) ?_;refine Mv (.int .i64 g) Z a8 ?_;refine Pl Z (Bc (a:=(ms.getD k AB.z).good) (b:=g) Z Z ?_);refine Nl ?_;refine AX (p:=((ms.getD k AB.z).good)=g) Z (fun ff=>?_) (fun ff=>?_)
   ·refine BI 10 false [0,5,11,15,20,26,31,36,42,47] Fx.mixed (by kernel_rfl) ?_;refine tP Z Z (fun _=>AA (v:=.int .i64 n) a3 vz) ?_;refine tP Z Z (fun _=>AF Fx.fld75_0 Z vz) ?_;refine tR Z Z (AE (v:=.int .i64 ((ms.getD k AB.z).kind)) Z (Rd.one Fx.ty73 av Z) vz) ?_;have fg:(0:Int)≤(ms.getD k AB.z).kind:=by omega
    have fh:(ms.getD k AB.z).kind<((5:Nat):Int):=by omega
    refine tP Z Z (fun _=>CV Fx.asz174 Z Z fg fh vz) ?_;refine tP Z Z (fun _=>AF Fx.fld173_1 Z vz) ?_;have bd:=(al.trans ac).upd (Ln al ai) ae;refine tR Z Z (AE (v:=QS (((ms.getD k AB.z).kind).toNat)) Z (Up Fx.ty120 (hG.le bd).2 (R0 (by omega))) vz) ?_;refine tR Z Z (AE (v:=.agg (Ag p)) ba (AL Fx.ty119 (Bx ((ae _ fc).trans (ac.keep bv Z)) Z)) vz) ?_;refine tR Z Z (AA (v:=.int .i64 (k:Int)) Z vz) ?_;refine tE Z Z (AW Tryz.func83 Fx.call83 Z Z ((JX p (k:Int) (by omega) (by omega)).mono fun _ _ fi=>?_));obtain ⟨rfl,af⟩:=fi;refine eT af ?_;refine tE Z Z (Fk Z Z ((O2 (Bu p k) (by omega) (k:=(((ms.getD k AB.z).kind).toNat)) (by omega)).mono fun _ _ fj=>?_));obtain ⟨rfl,ag⟩:=fj;refine eT ag ?_;refine tN ?_;refine Ad n (signed (((ms.getD k AB.z).kind).toNat) (Bu p k)) Z Z Z (by omega) ?_;refine As (.int .i64 (n+(signed (((ms.getD k AB.z).kind).toNat) (Bu p k)))) Z Z ?_;refine Nl (Sq ?_);refine KU 18 [[],[0],[],[2],[2,3],[2,3,4],[0,1,2,3,4,5],[0,1,2,3,4,5,6],[0,1,2,3,4,5,6,7],[0,1,2,3,4,5,6,7,8],[0,1,2,3,4,5,6,7,8,9],[0,1,2,3,4,5,6,7],[0,1,2,3,4,5,6,7,11],[0,1,2,3,4,5,6,7,8,9,10,11,12],[0,1,2,3,4,5,6,7,8,9,10,11,12,13],[0,1,2,3,4,5,6,7,8,9,10,11,12,13,14],[0,1,2,3,4,5,6,7],[0,1,2,3,4,5,6,7,16]] [(lF (.int .i64 (k:Int))),(lF (.int .i64 ((k:Int)+1))),(lF (.pointer (some ⟨r4,0,none⟩))),(lF (.pointer (some ⟨r4,3,none⟩))),(lF msv),(lF (.int .i64 (ms.length:Int))),(lF (.bool (decide (((k:Int)+1)=(ms.length:Int))))),(lF (.bool (decide (((k:Int)+1)=(ms.length:Int))))),(lF (.pointer (some ⟨r4,0,none⟩))),(lF (.pointer (some ⟨r4,3,none⟩))),(lF msv),(lF (.int .i64 (k:Int))),(lF (.int .i64 ((k:Int)+1))),(fun v h=>∃(a1:Nat) (ah:Nat),v=(.pointer (some ⟨a1,ah,none⟩):Value)∧Aa h a1 ah 5 #[.int .i64 ((ms.getD (k+1) AB.z).kind),.int .i64 ((ms.getD (k+1) AB.z).good),.int .i64 ((ms.getD (k+1) AB.z).day),.int .i64 ((ms.getD (k+1) AB.z).low),.int .i64 ((ms.getD (k+1) AB.z).high)]),(fun v h=>∃(a1:Nat) (ah:Nat),v=(.pointer (some ⟨a1,ah+2,none⟩):Value)∧Aa h a1 ah 5 #[.int .i64 ((ms.getD (k+1) AB.z).kind),.int .i64 ((ms.getD (k+1) AB.z).good),.int .i64 ((ms.getD (k+1) AB.z).day),.int .i64 ((ms.getD (k+1) AB.z).low),.int .i64 ((ms.getD (k+1) AB.z).high)]),(lF (.int .i64 ((ms.getD (k+1) AB.z).day))),(lF (.pointer (some ⟨ey,2,none⟩))),(lF (.int .i64 ((ms.getD k AB.z).day)))] Fx.mixed (by kernel_rfl) (K8 (K4 (K1 ⟨(fun _ _ _ l ⟨a1,ah,e,f0⟩=>⟨a1,ah,e,f0.le l⟩),(fun _ _ _ l ⟨a1,ah,e,f0⟩=>⟨a1,ah,e,f0.le l⟩),K2 (K1 trivial)⟩))) ⟨?_,?_,?_,?_,?_,?_,?_,?_,?_,?_,?_,?_,?_,?_,?_,?_,?_,?_,?_⟩
    ·intro _ _ _ fk _ _;refine (AA (v:=.int .i64 (k:Int)) (Et (fk 10 Z) Z) ?_);exact fL Z
    ·intro _ _ _ _ fl _;obtain ⟨hy,_⟩:=fl;refine (CR (a:=(k:Int)) (b:=1) (hy trivial) Z (by omega) ?_);exact fL Z
    ·intro _ _ _ fm _ _;refine (AF Fx.fld104_0 (Et (fm 4 Z) ay) ?_);exact fL Z
    ·intro _ _ _ _ bw _;obtain ⟨fn,_⟩:=bw;refine (AF Fx.fld26_3 (fn trivial) ?_);exact fL Z
    ·intro _ _ be _ bx _;obtain ⟨_,fo,_⟩:=bx;have bz:=(be.keep (ag.keep (af.keep ((ae _ a0).trans (ac.keep au Z)) Z) Z) Z);refine (AE (v:=msv) (fo trivial) (Rd.one Fx.ty23 bz Z) ?_);exact fL Z
    ·intro _ _ bf _ b0 _;obtain ⟨_,_,fp,_⟩:=b0;refine (AY Fx.sl23 (hms.le (((bd.trans af).trans ag).trans bf)) (fp trivial) ?_);exact fL Z
    ·intro _ _ _ _ b1 _;obtain ⟨_,fq,_,_,_,fr,_⟩:=b1;refine (Bc (a:=(k:Int)+1) (b:=(ms.length:Int)) (fq trivial) (fr trivial) ?_);exact fL Z
    ·intro _ _ _ _ b2 _;obtain ⟨_,_,_,_,_,_,fs,_⟩:=b2;refine (AA (v:=.bool (decide (((k:Int)+1)=(ms.length:Int)))) (fs trivial) ?_);exact fL Z
    ·intro _ _ _ b3 b4 b5;obtain ⟨_,_,_,_,_,_,_,ft,_⟩:=b4;have hm:=Cb (ft trivial) b5;refine (AF Fx.fld104_0 (Et (b3 4 Z) ay) ?_);exact fL Z
    ·intro _ _ _ _ b6 b7;obtain ⟨_,_,_,_,_,_,_,fu,fv,_⟩:=b6;have b8:=fu trivial;have b9:=Cb b8 b7;refine (AF Fx.fld26_3 (fv (AC b8 b9)) ?_);exact fL Z
    ·intro _ _ bg _ ca cb;obtain ⟨_,_,_,_,_,_,_,fw,_,fx,_⟩:=ca;have cc:=fw trivial;have cd:=Cb cc cb;have ce:=(bg.keep (ag.keep (af.keep ((ae _ a0).trans (ac.keep au Z)) Z) Z) Z);refine (AE (v:=msv) (fx (AC cc cd)) (Rd.one Fx.ty23 ce Z) ?_);exact fL Z
    ·intro _ _ _ cf cg ch;obtain ⟨_,_,_,_,_,_,_,fy,_⟩:=cg;have ho:=Cb (fy trivial) ch;refine (AA (v:=.int .i64 (k:Int)) (Et (cf 10 Z) Z) ?_);exact fL Z
    ·intro _ _ _ _ ci cj;obtain ⟨_,_,_,_,_,_,_,fz,f1,_⟩:=ci;have ck:=fz trivial;have cl:=Cb ck cj;refine (CR (a:=(k:Int)) (b:=1) (f1 (AC ck cl)) Z (by omega) ?_);exact fL Z
    ·intro _ _ bh _ cm cn;obtain ⟨_,_,_,_,_,_,_,f2,_,_,f3,_,f4,_⟩:=cm;have bi:=f2 trivial;have a5:=Cb bi cn;have co:(0:Int)≤(k:Int)+1:=by omega
     have cp:(k:Int)+1<((ms.length:Nat):Int):=by omega
     refine (A0 Fx.esz23 hms (f3 (AC bi a5)) (f4 (AC bi a5)) co cp fun cq aw cr=>?_);have ct:Aa _ cq aw 5 (Aw (ms.getD (k+1) AB.z)):=Aa.getD AB.z cr;exact fL ⟨cq,aw,Z,(ct.le (((bd.trans af).trans ag).trans bh))⟩
    ·intro _ _ _ _ cu cv;obtain ⟨_,_,_,_,_,_,_,f5,_,_,_,_,_,f6,_⟩:=cu;have cw:=f5 trivial;have cx:=Cb cw cv;obtain ⟨f7,bj,f8,f9⟩:=f6 (AC cw cx);refine (AF Fx.fld75_2 f8 ?_);exact fL ⟨f7,bj,Z,f9⟩
    ·intro _ _ _ _ cy cz;obtain ⟨_,_,_,_,_,_,_,ga,_,_,_,_,_,_,gb,_⟩:=cy;have c0:=ga trivial;have c1:=Cb c0 cz;obtain ⟨_,_,gc,gd⟩:=gb (AC c0 c1);refine (AE (v:=.int .i64 ((ms.getD (k+1) AB.z).day)) gc (Bd (o:=2) Fx.ty3 gd Z) ?_);exact fL Z
    ·intro _ _ _ c2 c3 c4;obtain ⟨_,_,_,_,_,_,_,ge,_⟩:=c3;have hq:=Cb (ge trivial) c4;refine (AF Fx.fld75_2 (Et (c2 11 Z) Z) ?_);exact fL Z
    ·intro _ _ bk _ c5 c6;obtain ⟨_,_,_,_,_,_,_,gf,gg,_⟩:=c5;have c7:=gf trivial;have c8:=Cb c7 c6;refine (AE (v:=.int .i64 ((ms.getD k AB.z).day)) (gg (AC c7 c8)) (Rd.one Fx.ty3 (bk.keep (ag.keep (af.keep av Z) Z) Z) Z) ?_);exact fL Z
    ·intro _ _ ao aa c9;obtain ⟨_,_,_,_,_,_,_,gi,_,_,_,_,_,_,_,gj,_,gk,_⟩:=c9;have aq:=gi trivial;refine BH (p:=((k:Int)+1)=(ms.length:Int)) ?_ ?_
     ·intro aj;refine Gs 7 52 (AD aq aj) Z ?_;refine Pk true (.bool true) Z (AD aq aj) Z ?_;refine Nl ?_;refine Cw Z ?_;refine Rg ?_;refine Mv (.int .i64 low) Z (Et (aa 9 Z) a4) ?_;refine Mv (.int .i64 (n+(signed (((ms.getD k AB.z).kind).toNat) (Bu p k)))) Z (Et (aa 8 Z) Z) ?_;refine Pl Z (JI (a:=low) (b:=n+(signed (((ms.getD k AB.z).kind).toNat) (Bu p k))) Z Z ?_);refine As (.int .i64 (min low (n+(signed (((ms.getD k AB.z).kind).toNat) (Bu p k))))) Z Z ?_;refine Nl (Rg ?_);refine Ad (k:Int) 1 Z (Et (aa 21 Z) az) Z (by omega) ?_;refine Mv (.int .i64 ((k:Int)+1)) Z Z ?_;refine Nl ?_;have da:=((((an.trans ac).upd (Ln an ai) ae).trans af).trans ag).trans ao;exact ⟨_,by omega,k+1,n+(signed (((ms.getD k AB.z).kind).toNat) (Bu p k)),min low (n+(signed (((ms.getD k AB.z).kind).toNat) (Bu p k))),Z,(by omega),(by omega),(by rw [←hrun,DX (ms:=ms) (k:=k) (dy:=dy) (by omega) ‹_›];unfold E2 D1;repeat (first | rw [if_pos ‹_›] | rw [if_pos (.inl ‹_›)])),Z,da,(Et (aa 2 Z) a8),(Et (aa 3 Z) a9),(Et (aa 4 Z) ay),(Et (aa 5 Z) ba),(Et (aa 19 Z) bb),(Et (aa 20 Z) bc),(Et (aa 8 Z) Z),Z,Z⟩
     ·intro aj;refine Gg 7 52 (AC aq aj) Z (Ce (a:=(ms.getD (k+1) AB.z).day) (b:=(ms.getD k AB.z).day) (gj (AC aq aj)) (gk (AC aq aj)) ?_);refine Pk false (.bool (decide (((ms.getD k AB.z).day)<((ms.getD (k+1) AB.z).day)))) Z (AC aq aj) Z ?_;refine Nl ?_;refine AX (p:=((ms.getD k AB.z).day)<((ms.getD (k+1) AB.z).day)) Z (fun db=>?_) (fun db=>?_)
      ·refine Rg ?_;refine Mv (.int .i64 low) Z (Et (aa 9 Z) a4) ?_;refine Mv (.int .i64 (n+(signed (((ms.getD k AB.z).kind).toNat) (Bu p k)))) Z (Et (aa 8 Z) Z) ?_;refine Pl Z (JI (a:=low) (b:=n+(signed (((ms.getD k AB.z).kind).toNat) (Bu p k))) Z Z ?_);refine As (.int .i64 (min low (n+(signed (((ms.getD k AB.z).kind).toNat) (Bu p k))))) Z Z ?_;refine Nl (Rg ?_);refine Ad (k:Int) 1 Z (Et (aa 21 Z) az) Z (by omega) ?_;refine Mv (.int .i64 ((k:Int)+1)) Z Z ?_;refine Nl ?_;have dc:=((((an.trans ac).upd (Ln an ai) ae).trans af).trans ag).trans ao;exact ⟨_,by omega,k+1,n+(signed (((ms.getD k AB.z).kind).toNat) (Bu p k)),min low (n+(signed (((ms.getD k AB.z).kind).toNat) (Bu p k))),Z,(by omega),(by omega),(by rw [←hrun,DX (ms:=ms) (k:=k) (dy:=dy) (by omega) ‹_›];unfold E2 D1;repeat (first | rw [if_pos ‹_›] | rw [if_pos (.inr ‹_›)])),Z,dc,(Et (aa 2 Z) a8),(Et (aa 3 Z) a9),(Et (aa 4 Z) ay),(Et (aa 5 Z) ba),(Et (aa 19 Z) bb),(Et (aa 20 Z) bc),(Et (aa 8 Z) Z),Z,Z⟩
      ·refine Sk (Rg ?_);refine Ad (k:Int) 1 Z (Et (aa 21 Z) az) Z (by omega) ?_;refine Mv (.int .i64 ((k:Int)+1)) Z Z ?_;refine Nl ?_;have dd:=((((an.trans ac).upd (Ln an ai) ae).trans af).trans ag).trans ao;exact ⟨_,by omega,k+1,n+(signed (((ms.getD k AB.z).kind).toNat) (Bu p k)),low,rfl,(by omega),(by omega),(by rw [←hrun,DX (ms:=ms) (k:=k) (dy:=dy) (by omega) ‹_›];unfold E2 D1;repeat (first | rw [if_pos ‹_›] | rw [if_neg (by rintro (q | q) <;> contradiction)])),rfl,dd,(Et (aa 2 rfl) a8),(Et (aa 3 rfl) a9),(Et (aa 4 rfl) ay),(Et (aa 5 rfl) ba),(Et (aa 19 rfl) bb),(Et (aa 20 rfl) bc),(Et (aa 8 rfl) rfl),(Et (aa 9 rfl) a4),(Et (b:=(.int .i64 ((k:Int)+1):Value)) rfl (by rfl))⟩
   ·refine Sk (Sq ?_);refine KU 18 [[],[0],[],[2],[2,3],[2,3,4],[0,1,2,3,4,5],[0,1,2,3,4,5,6],[0,1,2,3,4,5,6,7],[0,1,2,3,4,5,6,7,8],[0,1,2,3,4,5,6,7,8,9],[0,1,2,3,4,5,6,7],[0,1,2,3,4,5,6,7,11],[0,1,2,3,4,5,6,7,8,9,10,11,12],[0,1,2,3,4,5,6,7,8,9,10,11,12,13],[0,1,2,3,4,5,6,7,8,9,10,11,12,13,14],[0,1,2,3,4,5,6,7],[0,1,2,3,4,5,6,7,16]] [(lF (.int .i64 (k:Int))),(lF (.int .i64 ((k:Int)+1))),(lF (.pointer (some ⟨r4,0,none⟩))),(lF (.pointer (some ⟨r4,3,none⟩))),(lF msv),(lF (.int .i64 (ms.length:Int))),(lF (.bool (decide (((k:Int)+1)=(ms.length:Int))))),(lF (.bool (decide (((k:Int)+1)=(ms.length:Int))))),(lF (.pointer (some ⟨r4,0,none⟩))),(lF (.pointer (some ⟨r4,3,none⟩))),(lF msv),(lF (.int .i64 (k:Int))),(lF (.int .i64 ((k:Int)+1))),(fun v h=>∃(am:Nat) (ad:Nat),v=(.pointer (some ⟨am,ad,none⟩):Value)∧Aa h am ad 5 #[.int .i64 ((ms.getD (k+1) AB.z).kind),.int .i64 ((ms.getD (k+1) AB.z).good),.int .i64 ((ms.getD (k+1) AB.z).day),.int .i64 ((ms.getD (k+1) AB.z).low),.int .i64 ((ms.getD (k+1) AB.z).high)]),(fun v h=>∃(am:Nat) (ad:Nat),v=(.pointer (some ⟨am,ad+2,none⟩):Value)∧Aa h am ad 5 #[.int .i64 ((ms.getD (k+1) AB.z).kind),.int .i64 ((ms.getD (k+1) AB.z).good),.int .i64 ((ms.getD (k+1) AB.z).day),.int .i64 ((ms.getD (k+1) AB.z).low),.int .i64 ((ms.getD (k+1) AB.z).high)]),(lF (.int .i64 ((ms.getD (k+1) AB.z).day))),(lF (.pointer (some ⟨ey,2,none⟩))),(lF (.int .i64 ((ms.getD k AB.z).day)))] Fx.mixed (by kernel_rfl) (K8 (K4 (K1 ⟨(fun _ _ _ l ⟨am,ad,e,f0⟩=>⟨am,ad,e,f0.le l⟩),(fun _ _ _ l ⟨am,ad,e,f0⟩=>⟨am,ad,e,f0.le l⟩),K2 (K1 trivial)⟩))) ⟨?_,?_,?_,?_,?_,?_,?_,?_,?_,?_,?_,?_,?_,?_,?_,?_,?_,?_,?_⟩
    ·intro _ _ _ de _ _;refine (AA (v:=.int .i64 (k:Int)) (Et (de 10 Z) Z) ?_);exact fL Z
    ·intro _ _ _ _ df _;obtain ⟨gl,_⟩:=df;refine (CR (a:=(k:Int)) (b:=1) (gl trivial) Z (by omega) ?_);exact fL Z
    ·intro _ _ _ dg _ _;refine (AF Fx.fld104_0 (Et (dg 4 Z) ay) ?_);exact fL Z
    ·intro _ _ _ _ dh _;obtain ⟨gm,_⟩:=dh;refine (AF Fx.fld26_3 (gm trivial) ?_);exact fL Z
    ·intro _ _ bl _ di _;obtain ⟨_,gn,_⟩:=di;refine (AE (v:=msv) (gn trivial) (Rd.one Fx.ty23 (bl.keep ((ae _ a0).trans (ac.keep au Z)) Z) Z) ?_);exact fL Z
    ·intro _ _ bm _ dj _;obtain ⟨_,_,gp,_⟩:=dj;have dk:=hms.le (((al.trans ac).upd (Ln al ai) ae).trans bm);refine (AY Fx.sl23 dk (gp trivial) ?_);exact fL Z
    ·intro _ _ _ _ dl _;obtain ⟨_,gq,_,_,_,gr,_⟩:=dl;refine (Bc (a:=(k:Int)+1) (b:=(ms.length:Int)) (gq trivial) (gr trivial) ?_);exact fL Z
    ·intro _ _ _ _ dm _;obtain ⟨_,_,_,_,_,_,gt,_⟩:=dm;refine (AA (v:=.bool (decide (((k:Int)+1)=(ms.length:Int)))) (gt trivial) ?_);exact fL Z
    ·intro _ _ _ dn dp dq;obtain ⟨_,_,_,_,_,_,_,gu,_⟩:=dp;have hr:=Cb (gu trivial) dq;refine (AF Fx.fld104_0 (Et (dn 4 Z) ay) ?_);exact fL Z
    ·intro _ _ _ _ dr ds;obtain ⟨_,_,_,_,_,_,_,gv,gw,_⟩:=dr;have dt:=gv trivial;have du:=Cb dt ds;refine (AF Fx.fld26_3 (gw (AC dt du)) ?_);exact fL Z
    ·intro _ _ bn _ dv dw;obtain ⟨_,_,_,_,_,_,_,gx,_,gy,_⟩:=dv;have dx:=gx trivial;have dz:=Cb dx dw;refine (AE (v:=msv) (gy (AC dx dz)) (Rd.one Fx.ty23 (bn.keep ((ae _ a0).trans (ac.keep au Z)) Z) Z) ?_);exact fL Z
    ·intro _ _ _ d0 d1 d2;obtain ⟨_,_,_,_,_,_,_,gz,_⟩:=d1;have hs:=Cb (gz trivial) d2;refine (AA (v:=.int .i64 (k:Int)) (Et (d0 10 Z) Z) ?_);exact fL Z
    ·intro _ _ _ _ d3 d4;obtain ⟨_,_,_,_,_,_,_,g0,g1,_⟩:=d3;have d5:=g0 trivial;have d6:=Cb d5 d4;refine (CR (a:=(k:Int)) (b:=1) (g1 (AC d5 d6)) Z (by omega) ?_);exact fL Z
    ·intro _ _ bo _ d7 d8;obtain ⟨_,_,_,_,_,_,_,g2,_,_,g3,_,g4,_⟩:=d7;have bp:=g2 trivial;have a6:=Cb bp d8;have d9:(0:Int)≤(k:Int)+1:=by omega
     have ea:(k:Int)+1<((ms.length:Nat):Int):=by omega
     refine (A0 Fx.esz23 hms (g3 (AC bp a6)) (g4 (AC bp a6)) d9 ea fun eb ax ec=>?_);have ed:Aa _ eb ax 5 (Aw (ms.getD (k+1) AB.z)):=Aa.getD AB.z ec;have ee:=ed.le (((al.trans ac).upd (Ln al ai) ae).trans bo);exact fL ⟨eb,ax,Z,ee⟩
    ·intro _ _ _ _ ef eg;obtain ⟨_,_,_,_,_,_,_,g5,_,_,_,_,_,g6,_⟩:=ef;have eh:=g5 trivial;have ei:=Cb eh eg;obtain ⟨g7,bq,g8,g9⟩:=g6 (AC eh ei);refine (AF Fx.fld75_2 g8 ?_);exact fL ⟨g7,bq,Z,g9⟩
    ·intro _ _ _ _ ej ek;obtain ⟨_,_,_,_,_,_,_,ha,_,_,_,_,_,_,hb,_⟩:=ej;have el:=ha trivial;have em:=Cb el ek;obtain ⟨_,_,hc,hd⟩:=hb (AC el em);refine (AE (v:=.int .i64 ((ms.getD (k+1) AB.z).day)) hc (Bd (o:=2) Fx.ty3 hd Z) ?_);exact fL Z
    ·intro _ _ _ en eo ep;obtain ⟨_,_,_,_,_,_,_,he,_⟩:=eo;have ht:=Cb (he trivial) ep;refine (AF Fx.fld75_2 (Et (en 11 Z) Z) ?_);exact fL Z
    ·intro _ _ br _ eq er;obtain ⟨_,_,_,_,_,_,_,hf,hg,_⟩:=eq;have es:=hf trivial;have et:=Cb es er;refine (AE (v:=.int .i64 ((ms.getD k AB.z).day)) (hg (AC es et)) (Rd.one Fx.ty3 (br.keep av Z) Z) ?_);exact fL Z
    ·intro _ _ ap ab eu;obtain ⟨_,_,_,_,_,_,_,hh,_,_,_,_,_,_,_,hi,_,hj,_⟩:=eu;have ar:=hh trivial;refine BH (p:=((k:Int)+1)=(ms.length:Int)) ?_ ?_
     ·intro ak;refine Gs 7 52 (AD ar ak) Z ?_;refine Pk true (.bool true) Z (AD ar ak) Z ?_;refine Nl ?_;refine Cw Z ?_;refine Rg ?_;refine Mv (.int .i64 low) Z (Et (ab 9 Z) a4) ?_;refine Mv (.int .i64 n) Z (Et (ab 8 Z) a3) ?_;refine Pl Z (JI (a:=low) (b:=n) Z Z ?_);refine As (.int .i64 (min low n)) Z Z ?_;refine Nl (Rg ?_);refine Ad (k:Int) 1 Z (Et (ab 21 Z) az) Z (by omega) ?_;refine Mv (.int .i64 ((k:Int)+1)) Z Z ?_;refine Nl ?_;have ev:=((an.trans ac).upd (Ln an ai) ae).trans ap;exact ⟨_,by omega,k+1,n,min low n,Z,(by omega),(by omega),(by rw [←hrun,DX (ms:=ms) (k:=k) (dy:=dy) (by omega) ‹_›];unfold E2 D1;repeat (first | rw [if_neg ‹_›] | rw [if_pos (.inl ‹_›)])),Z,ev,(Et (ab 2 Z) a8),(Et (ab 3 Z) a9),(Et (ab 4 Z) ay),(Et (ab 5 Z) ba),(Et (ab 19 Z) bb),(Et (ab 20 Z) bc),(Et (ab 8 Z) a3),Z,Z⟩
     ·intro ak;refine Gg 7 52 (AC ar ak) Z (Ce (a:=(ms.getD (k+1) AB.z).day) (b:=(ms.getD k AB.z).day) (hi (AC ar ak)) (hj (AC ar ak)) ?_);refine Pk false (.bool (decide (((ms.getD k AB.z).day)<((ms.getD (k+1) AB.z).day)))) Z (AC ar ak) Z ?_;refine Nl ?_;refine AX (p:=((ms.getD k AB.z).day)<((ms.getD (k+1) AB.z).day)) Z (fun ew=>?_) (fun ew=>?_)
      ·refine Rg ?_;refine Mv (.int .i64 low) Z (Et (ab 9 Z) a4) ?_;refine Mv (.int .i64 n) Z (Et (ab 8 Z) a3) ?_;refine Pl Z (JI (a:=low) (b:=n) Z Z ?_);refine As (.int .i64 (min low n)) Z Z ?_;refine Nl (Rg ?_);refine Ad (k:Int) 1 Z (Et (ab 21 Z) az) Z (by omega) ?_;refine Mv (.int .i64 ((k:Int)+1)) Z Z ?_;refine Nl ?_;have ex:=((an.trans ac).upd (Ln an ai) ae).trans ap;exact ⟨_,by omega,k+1,n,min low n,Z,(by omega),(by omega),(by rw [←hrun,DX (ms:=ms) (k:=k) (dy:=dy) (by omega) ‹_›];unfold E2 D1;repeat (first | rw [if_neg ‹_›] | rw [if_pos (.inr ‹_›)])),Z,ex,(Et (ab 2 Z) a8),(Et (ab 3 Z) a9),(Et (ab 4 Z) ay),(Et (ab 5 Z) ba),(Et (ab 19 Z) bb),(Et (ab 20 Z) bc),(Et (ab 8 Z) a3),Z,Z⟩
      ·refine Sk (Rg ?_);refine Ad (k:Int) 1 Z (Et (ab 21 Z) az) Z (by omega) ?_;refine Mv (.int .i64 ((k:Int)+1)) Z Z ?_;refine Nl ?_;exact ⟨_,by omega,k+1,n,low,rfl,(by omega),(by omega),(by rw [←hrun,DX (ms:=ms) (k:=k) (dy:=dy) (by omega) ‹_›];unfold E2 D1;repeat (first | rw [if_neg ‹_›] | rw [if_neg (by rintro (q | q) <;> contradiction)])),rfl,(((an.trans ac).upd (Ln an ai) ae).trans ap),(Et (ab 2 rfl) a8),(Et (ab 3 rfl) a9),(Et (ab 4 rfl) ay),(Et (ab 5 rfl) ba),(Et (ab 19 rfl) bb),(Et (ab 20 rfl) bc),(Et (ab 8 rfl) a3),(Et (ab 9 rfl) a4),(Et (b:=(.int .i64 ((k:Int)+1):Value)) rfl (by rfl))⟩
 ·refine Xt (Sq (Rg ?_));refine Mv (.int .i64 n) Z a3 ?_;refine Mv (.int .i64 low) Z a4 ?_;refine As (.int .i64 n) Z Z ?_;refine As (.int .i64 low) Z Z ?_;refine Nl (Rt ?_);refine ⟨.inr Z,Cr Z (v:=.int .i64 n) (v':=.int .i64 low) Z Z ?_⟩;exact ⟨(by (rw [AM,←hrun,M2 (ms:=ms) (k:=k) ‹_›];done)),(a7.trans an)⟩
end Go.Ns
namespace Go.Ns
open Go.Conc Go.Proofs
attribute [local irreducible] BY DR Tr AZ CA Bp
theorem Ni {W:Wk Tryz.prog} {h:GH} (c:AJ) (d:Int) (m:Int) (gs:List Good) (gsv:Value) (ms:List AB) (msv:Value) (cs:List AJ) (csv:Value) (r:Nat) (p:AQ) (rp:Nat) (hgs:AK h gsv 5 A9 gs) (hms:AK h msv 5 Aw ms) (hcs:AK h csv 4 Ar cs) (hr:Aa h r 0 5 #[.int .i64 d,.int .i64 m,gsv,msv,csv]) (hrp:Aa h rp 0 15 (Ag p)) (hG:Cq h) (hc0:0≤c.good) (hc1:c.good<3) (hp:BZ p) (hml:ms.length≤6) (hkind:∀k,0≤(ms.getD k AB.z).kind∧(ms.getD k AB.z).kind≤4):AZ W 145 #[.agg #[.int .i64 c.good,.int .i64 c.day,.int .i64 c.low,.int .i64 c.high],.pointer (some ⟨r,0,none⟩),.pointer (some ⟨rp,0,none⟩)] h (fun v h'=>v=(.bool (decide (¬(c.low≤(AM ms p c.good c.day).1∧(AM ms p c.good c.day).1≤c.high))):Value)∧h.Le h'):=by
 have ad:=hgs.len;have ae:=hms.len;have af:=hcs.len;refine AN Tryz.func145 Z (Nb Z) ?_;refine Sq (Rg ?_);refine Pl Z (Am (v:=.agg #[.int .i64 c.good,.int .i64 c.day,.int .i64 c.low,.int .i64 c.high]) (c:=#[.int .i64 c.good,.int .i64 c.day,.int .i64 c.low,.int .i64 c.high]) Z Z fun _ _ _ aa ag _=>?_);refine As (.bool false) Z Z ?_;refine Nl (Sq (Rg ?_));refine Ld (.agg #[.int .i64 d,.int .i64 m,gsv,msv,csv]) Z Z (AL Fx.ty104 (hr.le aa)) ?_;refine Ld (.agg (Ag p)) Z Z (AL Fx.ty119 (hrp.le aa)) ?_;refine Fa Fx.fld79_0 Z Z ?_;refine Ld (.int .i64 c.good) Z Z (Rd.one Fx.ty3 ag Z) ?_;refine Fa Fx.fld79_1 Z Z ?_;refine Ld (.int .i64 c.day) Z Z (Rd.one Fx.ty3 ag Z) ?_;refine Pl Z (By Tryz.func95 Fx.call95 Z Z Z Z ((Gt d m gs gsv ms msv cs csv p c.good c.day (hgs.le aa) (hms.le aa) (hcs.le aa) (hG.le aa) (by omega) (by omega) (by omega) (by omega) (by omega)).mono fun _ _ ah=>?_));obtain ⟨rfl,ab⟩:=ah;refine Mv (.tuple #[.int .i64 ((AM ms p c.good c.day).1),.int .i64 ((AM ms p c.good c.day).2)]) Z Z ?_;refine Pl Z (AO (vs:=#[.int .i64 ((AM ms p c.good c.day).1),.int .i64 ((AM ms p c.good c.day).2)]) (v:=.int .i64 ((AM ms p c.good c.day).1)) Z Z ?_);refine Pl Z (AO (vs:=#[.int .i64 ((AM ms p c.good c.day).1),.int .i64 ((AM ms p c.good c.day).2)]) (v:=.int .i64 ((AM ms p c.good c.day).2)) Z Z ?_);refine As (.int .i64 ((AM ms p c.good c.day).1)) Z Z ?_;refine As (.int .i64 ((AM ms p c.good c.day).2)) Z Z ?_;refine Nl (Sq (Rg ?_));refine Mv (.int .i64 ((AM ms p c.good c.day).1)) Z Z ?_;refine Fa Fx.fld79_2 Z Z ?_;refine Fa Fx.fld31_0 Z Z ?_;have ac:=ab.keep ag Z;refine Ld (.int .i64 c.low) Z Z (Rd.one Fx.ty3 ac Z) ?_;refine Fa Fx.fld79_2 Z Z ?_;refine Fa Fx.fld31_1 Z Z ?_;refine Ld (.int .i64 c.high) Z Z (Rd.one Fx.ty3 ac Z) ?_;refine Pl Z (Ak Tryz.func79 Fx.call79 Z Z Z ((BQ ((AM ms p c.good c.day).1) c.low c.high ).mono fun _ _ ai=>?_));obtain ⟨rfl,rfl⟩:=ai;refine Pl Z (BF (p:=c.low≤((AM ms p c.good c.day).1)∧((AM ms p c.good c.day).1)≤c.high) Z ?_);refine As (.bool (decide (¬(c.low≤((AM ms p c.good c.day).1)∧((AM ms p c.good c.day).1)≤c.high)))) Z Z ?_;refine Nl (Rt ?_);refine ⟨.inr Z,Ac Z (v:=.bool (decide (¬(c.low≤((AM ms p c.good c.day).1)∧((AM ms p c.good c.day).1)≤c.high)))) Z ?_⟩;exact ⟨(by rfl),(aa.trans ab)⟩
theorem O3 {W:Wk Tryz.prog} {h:GH} (d:Int) (m:Int) (gs:List Good) (gsv:Value) (ms:List AB) (msv:Value) (cs:List AJ) (csv:Value) (p:AQ) (hgs:AK h gsv 5 A9 gs) (hms:AK h msv 5 Aw ms) (hcs:AK h csv 4 Ar cs) (hG:Cq h) (hp:BZ p) (hml:ms.length≤6) (hkind:∀k,0≤(ms.getD k AB.z).kind∧(ms.getD k AB.z).kind≤4) (hgl:gs.length≤3) (hcg:∀x ∈ cs,0≤x.good∧x.good<3):AZ W 102 #[.agg #[.int .i64 d,.int .i64 m,gsv,msv,csv],.agg (Ag p)] h (fun v h'=>v=(.bool (A2 d gs.length ms cs p):Value)∧h.Le h'):=by
 have ao:=hgs.len;have ap:=hms.len;have aq:=hcs.len;refine AN Tryz.func102 Z (Nb Z) ?_;refine Sq (Rg ?_);refine Pl Z (Am (v:=.agg #[.int .i64 d,.int .i64 m,gsv,msv,csv]) (c:=#[.int .i64 d,.int .i64 m,gsv,msv,csv]) Z Z fun r4 _ _ ar a3 _=>?_);refine Pl Z (Am (v:=.agg (Ag p)) (c:=Ag p) Z Z fun an a4 _ ac ai _=>?_);refine As (.bool false) Z Z ?_;refine Nl (Sq (Sq (Rg ?_)));refine Fa Fx.fld104_0 Z Z ?_;refine Fa Fx.fld26_2 Z Z ?_;have ae:=ac.keep a3 Z;refine Ld gsv Z Z (Rd.one Fx.ty22 ae Z) ?_;have af:=ar.trans ac;refine Pl Z (AY Fx.sl22 (hgs.le af) Z ?_);refine Mv (.int .i64 0) Z Z ?_;refine Nl (Bk ?_);refine Au (fun nn σ' ds' h'=>∃(k:Nat),nn=gs.length-k∧(k≤gs.length)∧(∀j,j<k→¬(AM ms p (j:Int) d).2<0)∧ds'=[]∧GH.Le a4 h'∧σ' 2=.pointer (some ⟨r4,0,none⟩)∧σ' 3=.pointer (some ⟨an,0,none⟩)∧σ' 11=.int .i64 (gs.length:Int)∧σ' 12=.int .i64 (k:Int)) ⟨0,Z,(by omega),(by (intro j hj;omega)),Z,Lr,Z,Z,Z,Z⟩ (fun nn _ _ a5 au=>?_);obtain ⟨k,rfl,hk,hs,a6,ag,aj,av,a2,aw⟩:=au;subst a6;refine Sq (Rg ?_);refine Pl Z (A1 (a:=(k:Int)) (b:=(gs.length:Int)) aw a2 ?_);refine Nl (Sq ?_);refine AX (p:=(k:Int)<(gs.length:Int)) Z (fun ax=>?_) (fun ax=>?_)
 ·refine Sk (Sq (Bk (Sq (Rg ?_))));refine Mv (.int .i64 (k:Int)) Z aw ?_;refine As (.int .i64 (k:Int)) Z Z ?_;refine Nl (Sq (Rg ?_));have ak:=ag.keep ae Z;refine Ld (.agg #[.int .i64 d,.int .i64 m,gsv,msv,csv]) Z aj (AL Fx.ty104 (Bx ak Z)) ?_;refine Ld (.agg (Ag p)) Z av (AL Fx.ty119 (Bx (ag.keep ai Z) Z)) ?_;refine Mv (.int .i64 (k:Int)) Z Z ?_;refine Fa Fx.fld104_0 Z aj ?_;refine Fa Fx.fld26_0 Z Z ?_;refine Ld (.int .i64 d) Z Z (Rd.one Fx.ty3 ak Z) ?_;have aa:=af.trans ag;refine Pl Z (By Tryz.func95 Fx.call95 Z Z Z Z ((Gt d m gs gsv ms msv cs csv p (k:Int) d (hgs.le aa) (hms.le aa) (hcs.le aa) (hG.le aa) (by omega) (by omega) (by omega) (by omega) (by omega)).mono fun _ _ ay=>?_));obtain ⟨rfl,ad⟩:=ay;refine Mv (.tuple #[.int .i64 ((AM ms p (k:Int) d).1),.int .i64 ((AM ms p (k:Int) d).2)]) Z Z ?_;refine Pl Z (AO (vs:=#[.int .i64 ((AM ms p (k:Int) d).1),.int .i64 ((AM ms p (k:Int) d).2)]) (v:=.int .i64 ((AM ms p (k:Int) d).1)) Z Z ?_);refine Pl Z (AO (vs:=#[.int .i64 ((AM ms p (k:Int) d).1),.int .i64 ((AM ms p (k:Int) d).2)]) (v:=.int .i64 ((AM ms p (k:Int) d).2)) Z Z ?_);refine As (.int .i64 ((AM ms p (k:Int) d).1)) Z Z ?_;refine As (.int .i64 ((AM ms p (k:Int) d).2)) Z Z ?_;refine Nl (Sq (Rg ?_));refine Mv (.int .i64 ((AM ms p (k:Int) d).2)) Z Z ?_;refine Pl Z (A1 (a:=(AM ms p (k:Int) d).2) (b:=0) Z Z ?_);refine Nl ?_;refine AX (p:=((AM ms p (k:Int) d).2)<0) Z (fun az=>?_) (fun az=>?_)
  ·refine Sq (Rg ?_);refine As (.bool false) Z Z ?_;refine Nl (Rt ?_);refine ⟨.inr Z,Ac Z (v:=.bool false) Z ?_⟩;exact ⟨(by (symm;congr 1;exact Pb (k:=k) (by omega) ‹_›)),(aa.trans ad)⟩
  ·refine Sk (Rg ?_);refine Ad (k:Int) 1 Z aw Z (by omega) ?_;refine Mv (.int .i64 ((k:Int)+1)) Z Z ?_;refine Nl ?_;exact ⟨_,by omega,k+1,Z,(by omega),(by exact MI hs ‹_›),Z,(ag.trans ad),aj,av,a2,Z⟩
 ·refine Xt (Sq (Rg ?_));refine Fa Fx.fld104_0 Z aj ?_;refine Fa Fx.fld26_4 Z Z ?_;have al:=ag.keep ae Z;refine Ld csv Z Z (Rd.one Fx.ty24 al Z) ?_;refine Pl Z (EI aj av ?_);have ah:=af.trans ag;have a0:∀x ∈ cs,∀h1,GH.Le a5 h1→CA W (.func (.func 145) #[] #[.pointer (some ⟨r4,0,none⟩),.pointer (some ⟨an,0,none⟩)]) #[.agg #[.int .i64 x.good,.int .i64 x.day,.int .i64 x.low,.int .i64 x.high]] h1 fun v h2=>v=.bool ((fun x=>decide (¬(x.low≤(AM ms p x.good x.day).1∧(AM ms p x.good x.day).1≤x.high))) x)∧h1.Le h2:=by
   intro x hx h1 l1;have hcx:=hcg x hx;have ab:=ah.trans l1;exact Bs Tryz.func145 Fx.call145 Z ((Ni x d m gs gsv ms msv cs csv r4 p an (hgs.le ab) (hms.le ab) (hcs.le ab) (Bx (l1.keep al Z) Z) (Bx (l1.keep (ag.keep ai Z) Z) Z) (hG.le ab) (by omega) (by omega) (by omega) (by omega) (by omega)).mono fun v h2 hp=>⟨hp.1,hp.2⟩)
  refine Pl Z (AW Tryz.func144 Fx.call144 Z Z ((IR cs csv (.func (.func 145) #[] #[.pointer (some ⟨r4,0,none⟩),.pointer (some ⟨an,0,none⟩)]) (fun x=>decide (¬(x.low≤(AM ms p x.good x.day).1∧(AM ms p x.good x.day).1≤x.high))) (hcs.le ah) a0).mono fun _ _ a1=>?_));obtain ⟨rfl,am⟩:=a1;refine Pl Z (Cl (b:=cs.any (fun x=>decide (¬(x.low≤(AM ms p x.good x.day).1∧(AM ms p x.good x.day).1≤x.high)))) Z ?_);refine As (.bool (!(cs.any (fun x=>decide (¬(x.low≤(AM ms p x.good x.day).1∧(AM ms p x.good x.day).1≤x.high)))))) Z Z ?_;refine Nl (Rt ?_);refine ⟨.inr Z,Ac Z (v:=.bool (!(cs.any (fun x=>decide (¬(x.low≤(AM ms p x.good x.day).1∧(AM ms p x.good x.day).1≤x.high)))))) Z ?_⟩;exact ⟨(by (symm;congr 1;exact OD (k:=k) (by omega) hs)),(ah.trans am)⟩
end Go.Ns
namespace Go.Ns
open Go.Conc Go.Proofs
attribute [local irreducible] BY DR Tr AZ CA Bp
theorem O4 {W:Wk Tryz.prog} {h:GH} (d:Int) (m:Int) (gs:List Good) (gsv:Value) (ms:List AB) (msv:Value) (cs:List AJ) (csv:Value) (f:List Int) (fv:Value) (y:List Int) (yv:Value) (l:List Int) (lv:Value) (hgs:AK h gsv 5 A9 gs) (hms:AK h msv 5 Aw ms) (hcs:AK h csv 4 Ar cs) (hf:AK h fv 1 eI f) (hy:AK h yv 1 eI y) (hl:AK h lv 1 eI l) (hG:Cq h) (hnm:∀k,(gs.getD k Good.z).name.size≤1000):AZ W 94 #[.agg #[.int .i64 d,.int .i64 m,gsv,msv,csv],fv,yv,lv] h (fun v h'=>v=(.tuple #[.agg (Ag (BC d m gs ms cs f y l)),.int .i64 (Az d m gs ms cs f y l)]:Value)∧h.Le h'):=by
 have br:=hgs.len;have bs:=hms.len;have bt:=hcs.len;have bu:=hf.len;have bv:=hy.len;have bw:=hl.len;refine AN Tryz.func94 Z (Nb Z) ?_;refine Sq (Rg ?_);refine Pl Z (Am (v:=.agg #[.int .i64 d,.int .i64 m,gsv,msv,csv]) (c:=#[.int .i64 d,.int .i64 m,gsv,msv,csv]) Z Z fun r7 _ _ aa bx _=>?_);refine Pl Z (Ab Fx.zero119 fun ck cm ah ag bz _=>?_);have al:cm ck=some (true,.cells (Ag AQ.zero) 119 (0,0)):=bz;refine As (.int .i64 0) Z Z ?_;refine Nl (Sq (Sq (Rg ?_)));have aw:=ag.keep bx Z;refine Ld (.agg #[.int .i64 d,.int .i64 m,gsv,msv,csv]) Z Z (AL Fx.ty26 (Bx aw Z)) ?_;have ai:=aa.trans ag;refine Pl Z (Ai Tryz.func25 Fx.call25 Z ((Ca d m gs gsv ms msv cs csv (hgs.le ai) (hms.le ai) (hcs.le ai) (hG.le ai) (by omega)).mono fun _ _ b0=>?_));obtain ⟨rfl,ab⟩:=b0;refine As (.int .i64 (AR d m gs ms cs)) Z Z ?_;refine Nl (Sq (Rg ?_));refine Mv (.int .i64 (AR d m gs ms cs)) Z Z ?_;refine Pl Z (A4 (a:=AR d m gs ms cs) (b:=0) Z Z ?_);refine Nl ?_;refine AX (p:=¬(AR d m gs ms cs)=0) Z (fun ax=>?_) (fun ax=>?_)
 ·refine Sq (Rg ?_);refine Pl Z (Ap (cells:=#[.int .i64 0,.int .i64 0,.int .i64 0,.int .i64 0,.int .i64 0,.int .i64 0,.int .i64 0,.int .i64 0,.int .i64 0,.bool false,.bool false,.bool false,.bool false,.bool false,.bool false]) Fx.pl119 Fx.zero119 (by kernel_rfl) ?_);refine Mv (.int .i64 (AR d m gs ms cs)) Z Z ?_;refine Pl Z (AG (v:=.agg #[.int .i64 0,.int .i64 0,.int .i64 0,.int .i64 0,.int .i64 0,.int .i64 0,.int .i64 0,.int .i64 0,.int .i64 0,.bool false,.bool false,.bool false,.bool false,.bool false,.bool false]) (c':=Ag AQ.zero) Fx.ty119 Z Z (ab.keep al Z) Z Z (Nb Z) Z fun _ b1 b2=>?_);refine As (.int .i64 (AR d m gs ms cs)) Z Z ?_;refine Nl (Rt ?_);refine ⟨.inr Z,Cd Z (v:=.agg (Ag AQ.zero)) (v':=.int .i64 (AR d m gs ms cs)) Z (AL Fx.ty119 (Bx b1 Z)) Z ?_⟩;exact ⟨(by exact FP (M5 ‹_›) ‹_›),((ai.trans ab).upd (Ln aa ah) b2)⟩
 ·have hbk:=FO (Dn ax);have hgl:=hbk.glen;have hml:=hbk.mlen;have hcl:=hbk.clen;have hdy:=hbk.days;have hmo:=hbk.most;have hkind:=hbk.kind;refine Sk (Sq (Sq (Rg ?_)));refine Mv fv Z Z ?_;refine Fa Fx.fld26_2 Z Z ?_;have ay:=ab.keep aw Z;refine Ld gsv Z Z (Rd.one Fx.ty22 ay Z) ?_;have am:=ai.trans ab;refine Pl Z (AY Fx.sl22 (hgs.le am) Z ?_);refine Pl Z (AW Tryz.func140 Fx.call140 Z Z ((JC f fv (gs.length:Int) (hf.le am) ).mono fun _ _ b3=>?_));obtain ⟨rfl,ae⟩:=b3;refine As (.int .i64 (Av f (gs.length:Int))) Z Z ?_;refine Nl (Sq (Rg ?_));refine Mv (.int .i64 (Av f (gs.length:Int))) Z Z ?_;refine Pl Z (A4 (a:=Av f (gs.length:Int)) (b:=0) Z Z ?_);refine Nl ?_;refine AX (p:=¬(Av f (gs.length:Int))=0) Z (fun az=>?_) (fun az=>?_)
  ·refine Sq (Rg ?_);refine Pl Z (Ap (cells:=#[.int .i64 0,.int .i64 0,.int .i64 0,.int .i64 0,.int .i64 0,.int .i64 0,.int .i64 0,.int .i64 0,.int .i64 0,.bool false,.bool false,.bool false,.bool false,.bool false,.bool false]) Fx.pl119 Fx.zero119 (by kernel_rfl) ?_);refine Mv (.int .i64 (Av f (gs.length:Int))) Z Z ?_;refine Pl Z (AG (v:=.agg #[.int .i64 0,.int .i64 0,.int .i64 0,.int .i64 0,.int .i64 0,.int .i64 0,.int .i64 0,.int .i64 0,.int .i64 0,.bool false,.bool false,.bool false,.bool false,.bool false,.bool false]) (c':=Ag AQ.zero) Fx.ty119 Z Z (ae.keep (ab.keep al Z) Z) Z Z (Nb Z) Z fun _ b4 b5=>?_);refine As (.int .i64 (Av f (gs.length:Int))) Z Z ?_;refine Nl (Rt ?_);refine ⟨.inr Z,Cd Z (v:=.agg (Ag AQ.zero)) (v':=.int .i64 (Av f (gs.length:Int))) Z (AL Fx.ty119 (Bx b4 Z)) Z ?_⟩;exact ⟨(by exact FP (M6 ‹_› ‹_›) ‹_›),((am.trans ae).upd (Ln aa ah) b5)⟩
  ·obtain ⟨_,hnb51_⟩:=Ep (Dn az);refine Sk (Sq (Sq (Rg ?_)));refine Mv yv Z Z ?_;refine Fa Fx.fld26_3 Z Z ?_;have a0:=ae.keep ay Z;refine Ld msv Z Z (Rd.one Fx.ty23 a0 Z) ?_;have aj:=am.trans ae;refine Pl Z (AY Fx.sl23 (hms.le aj) Z ?_);refine Pl Z (AW Tryz.func140 Fx.call140 Z Z ((JC y yv (ms.length:Int) (hy.le aj) ).mono fun _ cn b6=>?_));obtain ⟨rfl,ac⟩:=b6;refine As (.int .i64 (Av y (ms.length:Int))) Z Z ?_;refine Nl (Sq (Rg ?_));refine Mv (.int .i64 (Av y (ms.length:Int))) Z Z ?_;refine Pl Z (A4 (a:=Av y (ms.length:Int)) (b:=0) Z Z ?_);refine Nl ?_;refine AX (p:=¬(Av y (ms.length:Int))=0) Z (fun a1=>?_) (fun a1=>?_)
   ·refine Sq (Rg ?_);refine Pl Z (Ap (cells:=#[.int .i64 0,.int .i64 0,.int .i64 0,.int .i64 0,.int .i64 0,.int .i64 0,.int .i64 0,.int .i64 0,.int .i64 0,.bool false,.bool false,.bool false,.bool false,.bool false,.bool false]) Fx.pl119 Fx.zero119 (by kernel_rfl) ?_);refine Mv (.int .i64 (Av y (ms.length:Int))) Z Z ?_;refine Pl Z (AG (v:=.agg #[.int .i64 0,.int .i64 0,.int .i64 0,.int .i64 0,.int .i64 0,.int .i64 0,.int .i64 0,.int .i64 0,.int .i64 0,.bool false,.bool false,.bool false,.bool false,.bool false,.bool false]) (c':=Ag AQ.zero) Fx.ty119 Z Z (ac.keep (ae.keep (ab.keep al Z) Z) Z) Z Z (Nb Z) Z fun _ b7 b8=>?_);refine As (.int .i64 (Av y (ms.length:Int))) Z Z ?_;refine Nl (Rt ?_);refine ⟨.inr Z,Cd Z (v:=.agg (Ag AQ.zero)) (v':=.int .i64 (Av y (ms.length:Int))) Z (AL Fx.ty119 (Bx b7 Z)) Z ?_⟩;exact ⟨(by exact FP (M7 ‹_› ‹_› ‹_›) ‹_›),((aj.trans ac).upd (Ln aa ah) b8)⟩
   ·obtain ⟨_,hnb66_⟩:=Ep (Dn a1);refine Sk (Sq (Rg ?_));have ap:=(ac.keep (ae.keep (ab.keep al Z) Z) Z);refine Pl Z (Ab Fx.zero119 fun b9 co ak an ca _=>?_);have cb:co b9=some (true,.cells (Ag AQ.zero) 119 (0,0)):=ca;refine Nl (Sq (Rg ?_));refine Fa Fx.fld119_0 Z Z ?_;refine Pl Z (Jh Fx.asz115 Z ?_);refine Mv fv Z Z ?_;have a2:=(aj.trans ac).trans an;refine Pl Z (N6 (enc:=eI) (ys:=f) (c':=Ag (AQ.zero.setFirsts f)) Fx.esz27 Z Z cb (Nb Z) (hf.le a2) (by omega) (by intro y hy;rfl) (by intro y hy;rfl) (Jz (by omega)) fun _ cc a3=>?_);refine Nl (Sq (Rg ?_));refine Fa Fx.fld119_1 Z Z ?_;refine Pl Z (Jh Fx.asz116 Z ?_);refine Mv yv Z Z ?_;have a4:=a2.upd (Ln ((((aa.trans ag).trans ab).trans ae).trans ac) ak) a3;refine Pl Z (N6 (enc:=eI) (ys:=y) (c':=Ag ((AQ.zero.setFirsts f).setManys y)) Fx.esz27 Z Z cc (Nb Z) (hy.le a4) (by omega) (by intro y hy;rfl) (by intro y hy;rfl) (Kf (by omega)) fun _ cd a5=>?_);refine Nl (Sq (Rg ?_));refine As (.int .i64 (-1)) Z Z ?_;refine Nl (Sq (Sq (Rg ?_)));refine Mv lv Z Z ?_;have ce:=a4.upd (Ln ((((aa.trans ag).trans ab).trans ae).trans ac) ak) a5;refine Pl Z (AY Fx.sl27 (hl.le ce) Z ?_);refine Mv (.int .i64 0) Z Z ?_;refine Nl (Bk ?_);have cf:=(an.upd (Ln Lr ak) a3).upd (Ln Lr ak) a5;refine Au (fun nn σ' ds' h'=>∃(k:Nat),nn=l.length-k∧(k≤l.length)∧(∀j,j<k→Il ms l j=0)∧ds'=[]∧GH.Le cn h'∧σ' 4=.pointer (some ⟨r7,0,none⟩)∧σ' 8=.pointer (some ⟨ck,0,none⟩)∧σ' 13=.pointer (some ⟨b9,0,none⟩)∧σ' 49=lv∧σ' 50=.int .i64 (l.length:Int)∧σ' 14=.int .i64 (Fp l k)∧σ' 51=.int .i64 (k:Int)∧h' b9=some (true,.cells (Ag (Dv ((AQ.zero.setFirsts f).setManys y) l k)) 119 (0,0))) ⟨0,Z,(by omega),(by (intro j hj;omega)),Z,cf,Z,Z,Z,Z,Z,Z,Z,(by have e:(Ag (Dv ((AQ.zero.setFirsts f).setManys y) l 0):Array Value)=Ag ((AQ.zero.setFirsts f).setManys y):=(by rfl);rw [e];exact cd)⟩ (fun nn _ _ _ cg=>?_);obtain ⟨k,rfl,hk,hs,cp,aq,cl,ar,ch,a6,a7,ci,au,a8⟩:=cg;subst cp;refine Sq (Rg ?_);refine Pl Z (A1 (a:=(k:Int)) (b:=(l.length:Int)) au a7 ?_);refine Nl (Sq ?_);refine AX (p:=(k:Int)<(l.length:Int)) Z (fun a9=>?_) (fun a9=>?_)
    ·refine Sk (Sq (Bk (Sq (Rg ?_))));have ba:(0:Int)≤(k:Int):=by omega
     have bb:(k:Int)<((l.length:Nat):Int):=by omega
     refine Pl Z (A0 Fx.esz27 hl a6 au ba bb fun cj av bc=>?_);have bd:Aa _ cj av 1 (eI (l.getD k 0)):=Aa.getD 0 bc;have af:=(aj.trans ac).trans aq;refine Ld (.int .i64 (l.getD k 0)) Z Z (CE Fx.ty3 (bd.le af) Z) ?_;refine As (.int .i64 (l.getD k 0)) Z Z ?_;refine Nl (Sq (Bk (Sq (Rg ?_))));refine Ld (.agg #[.int .i64 d,.int .i64 m,gsv,msv,csv]) Z cl (AL Fx.ty26 (Bx (aq.keep (ac.keep a0 Z) Z) Z)) ?_;refine Pl Z (Ap (cells:=#[.int .i64 d,.int .i64 m,gsv,msv,csv]) Fx.pl104 Fx.zero104 (by kernel_rfl) ?_);refine Mv (.int .i64 (l.getD k 0)) Z Z ?_;refine Pl Z (AW Tryz.func110 Fx.call110 Z Z ((Fu d m gs gsv ms msv cs csv (l.getD k 0) (hgs.le af) (hms.le af) (hcs.le af) ).mono fun _ _ be=>?_));obtain ⟨rfl,ad⟩:=be;refine Pl Z (BF (p:=(0≤(l.getD k 0)∧(l.getD k 0)≤(ms.length:Int)-1)∧(ms.getD ((l.getD k 0)).toNat AB.z).kind=0) Z ?_);refine As (.bool (decide (¬((0≤(l.getD k 0)∧(l.getD k 0)≤(ms.length:Int)-1)∧(ms.getD ((l.getD k 0)).toNat AB.z).kind=0)))) Z Z ?_;refine Nl ?_;refine AX (p:=¬((0≤(l.getD k 0)∧(l.getD k 0)≤(ms.length:Int)-1)∧(ms.getD ((l.getD k 0)).toNat AB.z).kind=0)) Z (fun ao=>?_) (fun ao=>?_)
     ·refine Sq (Rg ?_);refine Pl Z (Ap (cells:=#[.int .i64 0,.int .i64 0,.int .i64 0,.int .i64 0,.int .i64 0,.int .i64 0,.int .i64 0,.int .i64 0,.int .i64 0,.bool false,.bool false,.bool false,.bool false,.bool false,.bool false]) Fx.pl119 Fx.zero119 (by kernel_rfl) ?_);refine Pl Z (AG (v:=.agg #[.int .i64 0,.int .i64 0,.int .i64 0,.int .i64 0,.int .i64 0,.int .i64 0,.int .i64 0,.int .i64 0,.int .i64 0,.bool false,.bool false,.bool false,.bool false,.bool false,.bool false]) (c':=Ag AQ.zero) Fx.ty119 ar Z (ad.keep (aq.keep ap Z) Z) Z Z (Nb Z) Z fun _ bf bg=>?_);refine As (.int .i64 6) Z Z ?_;refine Nl (Rt ?_);refine ⟨.inr Z,Cd Z (v:=.agg (Ag AQ.zero)) (v':=.int .i64 6) ar (AL Fx.ty119 (Bx bf Z)) Z ?_⟩;exact ⟨(by exact FP (Gf ‹_› ‹_› ‹_› (BK (k:=k) hs (by omega) (T7 ‹_›) (by decide))) (by decide)),((af.trans ad).upd (Ln aa ah) bg)⟩
     ·have hc122_:=Dn ao;refine Sq (Rg ?_);refine Mv (.int .i64 (l.getD k 0)) Z Z ?_;refine Mv (.int .i64 (Fp l k)) Z ci ?_;refine Pl Z (C2 (a:=l.getD k 0) (b:=Fp l k) Z Z ?_);refine As (.bool (decide ((l.getD k 0)≤(Fp l k)))) Z Z ?_;refine Nl ?_;refine AX (p:=(l.getD k 0)≤(Fp l k)) Z (fun bh=>?_) (fun bh=>?_)
      ·refine Sq (Rg ?_);refine Pl Z (Ap (cells:=#[.int .i64 0,.int .i64 0,.int .i64 0,.int .i64 0,.int .i64 0,.int .i64 0,.int .i64 0,.int .i64 0,.int .i64 0,.bool false,.bool false,.bool false,.bool false,.bool false,.bool false]) Fx.pl119 Fx.zero119 (by kernel_rfl) ?_);refine Pl Z (AG (v:=.agg #[.int .i64 0,.int .i64 0,.int .i64 0,.int .i64 0,.int .i64 0,.int .i64 0,.int .i64 0,.int .i64 0,.int .i64 0,.bool false,.bool false,.bool false,.bool false,.bool false,.bool false]) (c':=Ag AQ.zero) Fx.ty119 ar Z (ad.keep (aq.keep ap Z) Z) Z Z (Nb Z) Z fun _ bi bj=>?_);refine As (.int .i64 7) Z Z ?_;refine Nl (Rt ?_);refine ⟨.inr Z,Cd Z (v:=.agg (Ag AQ.zero)) (v':=.int .i64 7) ar (AL Fx.ty119 (Bx bi Z)) Z ?_⟩;exact ⟨(by exact FP (Gf ‹_› ‹_› ‹_› (BK (k:=k) hs (by omega) (T8 ‹_› ‹_›) (by decide))) (by decide)),((af.trans ad).upd (Ln aa ah) bj)⟩
      ·refine Sk (Rg ?_);refine Mv (.int .i64 (l.getD k 0)) Z Z ?_;refine Mv (.int .i64 (l.getD k 0)) Z Z ?_;refine Fa Fx.fld119_2 Z ch ?_;have bk:(0:Int)≤l.getD k 0:=by omega
       have bl:l.getD k 0<((6:Nat):Int):=by omega
       refine Pl Z (CV Fx.asz117 Z Z bk bl ?_);refine Pl Z (AG (v:=.bool true) (c':=Ag ((Dv ((AQ.zero.setFirsts f).setManys y) l k).setLie ((l.getD k 0).toNat) true)) Fx.ty4 Z Z (ad.keep a8 Z) Z Z (by show _≤15;omega) (Gc (i:=(l.getD k 0).toNat) (by omega)) fun _ bm bn=>?_);refine As (.int .i64 (l.getD k 0)) Z Z ?_;refine Nl (Rg ?_);refine Ad (k:Int) 1 Z au Z (by omega) ?_;refine Mv (.int .i64 ((k:Int)+1)) Z Z ?_;refine Nl ?_;exact ⟨_,by omega,k+1,Z,(by omega),(by exact Ct hs (T9 ‹_› ‹_›)),Z,((aq.trans ad).upd (Ln Lr ak) bn),cl,ar,ch,a6,a7,Z,Z,(by have e:(Ag (Dv ((AQ.zero.setFirsts f).setManys y) l (k+1)):Array Value)=Ag ((Dv ((AQ.zero.setFirsts f).setManys y) l k).setLie ((l.getD k 0).toNat) true):=(by rw [OI (by omega)]);rw [e];exact bm)⟩
    ·refine Xt (Sq (Rg ?_));refine Ld (.agg (Ag (Dv ((AQ.zero.setFirsts f).setManys y) l k))) Z ch (AL Fx.ty119 (Bx a8 Z)) ?_;refine Pl Z (AG (v:=.agg (Ag (Dv ((AQ.zero.setFirsts f).setManys y) l k))) (c':=Ag (Dv ((AQ.zero.setFirsts f).setManys y) l k)) Fx.ty119 ar Z (aq.keep ap Z) (Gh _) (Gi _) (Hc _) (Hd _ _) fun _ bo bp=>?_);refine As (.int .i64 0) Z Z ?_;refine Nl (Rt ?_);have bq:=((aj.trans ac).trans aq).upd (Ln aa ah) bp;refine ⟨.inr Z,Cd Z (v:=.agg (Ag (Dv ((AQ.zero.setFirsts f).setManys y) l k))) (v':=.int .i64 0) ar (AL Fx.ty119 (Bx bo Z)) Z ?_⟩;exact ⟨(by exact OJ (Gf ‹_› ‹_› ‹_› (B2 (k:=k) hs (by omega))) ‹_› hk),bq⟩
theorem R1 {W:Wk Tryz.prog} {h:GH} (d:Int) (m:Int) (gs:List Good) (gsv:Value) (ms:List AB) (msv:Value) (cs:List AJ) (csv:Value) (f:List Int) (fv:Value) (y:List Int) (yv:Value) (l:List Int) (lv:Value) (hgs:AK h gsv 5 A9 gs) (hms:AK h msv 5 Aw ms) (hcs:AK h csv 4 Ar cs) (hf:AK h fv 1 eI f) (hy:AK h yv 1 eI y) (hl:AK h lv 1 eI l) (hG:Cq h) (hnm:∀k,(gs.getD k Good.z).name.size≤1000):AZ W 23 #[.agg #[.int .i64 d,.int .i64 m,gsv,msv,csv],fv,yv,lv] h (fun v h'=>∃(w1:Value) (w2:Value),v=(.tuple #[w1,w2,.int .i64 (Az d m gs ms cs f y l)]:Value)∧AK h' w1 1 eI (FQ d m gs ms cs f y l)∧AK h' w2 1 eI (Gj d m gs ms cs f y l)∧h.Le h'):=by
 have ba:=hgs.len;have bb:=hms.len;have bc:=hcs.len;have bd:=hf.len;have be:=hy.len;have bf:=hl.len;refine AN Tryz.func23 Z (Nb Z) ?_;refine Sq (Rg ?_);refine Pl Z (Am (v:=.agg #[.int .i64 d,.int .i64 m,gsv,msv,csv]) (c:=#[.int .i64 d,.int .i64 m,gsv,msv,csv]) Z Z fun r7 _ _ aa ar _=>?_);refine As (.slice none 0 0) Z Z ?_;refine As (.slice none 0 0) Z Z ?_;refine As (.int .i64 0) Z Z ?_;refine Nl (Sq (Rg ?_));refine Ld (.agg #[.int .i64 d,.int .i64 m,gsv,msv,csv]) Z Z (AL Fx.ty26 (Bx ar Z)) ?_;refine Mv fv Z Z ?_;refine Mv yv Z Z ?_;refine Mv lv Z Z ?_;refine Pl Z (By Tryz.func94 Fx.call94 Z Z Z Z ((O4 d m gs gsv ms msv cs csv f fv y yv l lv (hgs.le aa) (hms.le aa) (hcs.le aa) (hf.le aa) (hy.le aa) (hl.le aa) (hG.le aa) (by omega)).mono fun _ _ bg=>?_));obtain ⟨rfl,ab⟩:=bg;refine Mv (.tuple #[.agg (Ag (BC d m gs ms cs f y l)),.int .i64 (Az d m gs ms cs f y l)]) Z Z ?_;refine Pl Z (AO (vs:=#[.agg (Ag (BC d m gs ms cs f y l)),.int .i64 (Az d m gs ms cs f y l)]) (v:=.agg (Ag (BC d m gs ms cs f y l))) Z Z ?_);refine Pl Z (AO (vs:=#[.agg (Ag (BC d m gs ms cs f y l)),.int .i64 (Az d m gs ms cs f y l)]) (v:=.int .i64 (Az d m gs ms cs f y l)) Z Z ?_);have au:=ab.keep ar Z;refine Pl Z (Ab Fx.zero119 fun bh b4 am ad bi _=>?_);have bj:b4 bh=some (true,.cells (Ag AQ.zero) 119 (0,0)):=bi;have bk:r7≠bh:=B9 au am;refine Pl Z (AG (v:=.agg (Ag (BC d m gs ms cs f y l))) (c':=Ag (BC d m gs ms cs f y l)) Fx.ty119 Z Z bj (Gh _) (Gi _) (Hc _) (Hd _ _) fun av bl an=>?_);refine As (.int .i64 (Az d m gs ms cs f y l)) Z Z ?_;refine Nl (Sq (Sq (Rg ?_)));refine Mv (.int .i64 (Az d m gs ms cs f y l)) Z Z ?_;refine Pl Z (A4 (a:=Az d m gs ms cs f y l) (b:=0) Z Z ?_);refine Nl ?_;refine AX (p:=¬(Az d m gs ms cs f y l)=0) Z (fun aw=>?_) (fun aw=>?_)
 ·refine Sq (Rg ?_);refine Mv (.int .i64 (Az d m gs ms cs f y l)) Z Z ?_;refine As (.slice none 0 0) Z Z ?_;refine As (.slice none 0 0) Z Z ?_;refine As (.int .i64 (Az d m gs ms cs f y l)) Z Z ?_;refine Nl (Rt ?_);have bm:=((aa.trans ab).trans ad).upd (Ln (aa.trans ab) am) an;refine ⟨.inr Z,MA Z (v:=.slice none 0 0) (v':=.slice none 0 0) (v2:=.int .i64 (Az d m gs ms cs f y l)) Z Z Z ?_⟩;exact ⟨.slice none 0 0,.slice none 0 0,(by rfl),(by have e:FQ d m gs ms cs f y l=[]:=(by exact M8 ‹_›);rw [e];exact AK.nil _ _ _),(by have e:Gj d m gs ms cs f y l=[]:=(by exact OK ‹_›);rw [e];exact AK.nil _ _ _),bm⟩
 ·obtain ⟨hbk,hpo⟩:=RR (Dn aw);have hgl:=hbk.glen;have hml:=hbk.mlen;have hdy:=hbk.days;have hkind:=hbk.kind;refine Sk (Sq (Sq (Rg ?_)));refine Fa Fx.fld26_2 Z Z ?_;have ax:=(an _ bk).trans (ad.keep au Z);refine Ld gsv Z Z (Rd.one Fx.ty22 ax Z) ?_;have ao:=((aa.trans ab).trans ad).upd (Ln (aa.trans ab) am) an;refine Pl Z (AY Fx.sl22 (hgs.le ao) Z ?_);refine Mv (.int .i64 0) Z Z ?_;refine Nl (Bk ?_);refine Au (fun nn σ' ds' h'=>∃(k:Nat) (w8:Value) (w9:Value),nn=gs.length-k∧(k≤gs.length)∧ds'=[]∧GH.Le av h'∧σ' 4=.pointer (some ⟨r7,0,none⟩)∧σ' 10=.int .i64 0∧σ' 11=.pointer (some ⟨bh,0,none⟩)∧σ' 29=.int .i64 (gs.length:Int)∧σ' 30=.int .i64 (k:Int)∧σ' 8=w8∧σ' 9=w9∧AU av h' w8 3 1 eI ((List.range k).map (fun (i:Nat)=>(AM ms (BC d m gs ms cs f y l) (i:Int) d).1))∧AU av h' w9 3 1 eI ((List.range k).map (fun (i:Nat)=>(AM ms (BC d m gs ms cs f y l) (i:Int) d).2))∧Apart w9 w8) ⟨0,.slice none 0 0,.slice none 0 0,Z,(by omega),Z,Lr,Z,Z,Z,Z,Z,Z,Z,(by have e:(List.range 0).map (fun (i:Nat)=>(AM ms (BC d m gs ms cs f y l) (i:Int) d).1)=[]:=(by rfl);rw [e];exact AU.nil _ _ _ _ _),(by have e:(List.range 0).map (fun (i:Nat)=>(AM ms (BC d m gs ms cs f y l) (i:Int) d).2)=[]:=(by rfl);rw [e];exact AU.nil _ _ _ _ _),Apart.nil⟩ (fun nn _ _ _ bn=>?_);obtain ⟨k,w8,w9,rfl,hk,b5,ay,bo,b6,bw,bx,bp,bz,b0,b1,b2,b3⟩:=bn;subst b5;refine Sq (Rg ?_);refine Pl Z (A1 (a:=(k:Int)) (b:=(gs.length:Int)) bp bx ?_);refine Nl (Sq ?_);refine AX (p:=(k:Int)<(gs.length:Int)) Z (fun bq=>?_) (fun bq=>?_)
  ·refine Sk (Sq (Bk (Sq (Rg ?_))));refine Mv (.int .i64 (k:Int)) Z bp ?_;refine As (.int .i64 (k:Int)) Z Z ?_;refine Nl (Sq (Rg ?_));have az:=ay.keep ax Z;refine Ld (.agg #[.int .i64 d,.int .i64 m,gsv,msv,csv]) Z bo (AL Fx.ty26 (Bx az Z)) ?_;refine Pl Z (Ap (cells:=#[.int .i64 d,.int .i64 m,gsv,msv,csv]) Fx.pl104 Fx.zero104 (by kernel_rfl) ?_);refine Ld (.agg (Ag (BC d m gs ms cs f y l))) Z bw (AL Fx.ty119 (Bx (ay.keep bl Z) Z)) ?_;refine Mv (.int .i64 (k:Int)) Z Z ?_;refine Fa Fx.fld26_0 Z bo ?_;refine Ld (.int .i64 d) Z Z (Rd.one Fx.ty3 az Z) ?_;have ah:=ao.trans ay;refine Pl Z (By Tryz.func95 Fx.call95 Z Z Z Z ((Gt d m gs gsv ms msv cs csv (BC d m gs ms cs f y l) (k:Int) d (hgs.le ah) (hms.le ah) (hcs.le ah) (hG.le ah) (by omega) (by omega) (by omega) (by omega) (by omega)).mono fun _ _ br=>?_));obtain ⟨rfl,ae⟩:=br;refine Mv (.tuple #[.int .i64 ((AM ms (BC d m gs ms cs f y l) (k:Int) d).1),.int .i64 ((AM ms (BC d m gs ms cs f y l) (k:Int) d).2)]) Z Z ?_;refine Pl Z (AO (vs:=#[.int .i64 ((AM ms (BC d m gs ms cs f y l) (k:Int) d).1),.int .i64 ((AM ms (BC d m gs ms cs f y l) (k:Int) d).2)]) (v:=.int .i64 ((AM ms (BC d m gs ms cs f y l) (k:Int) d).1)) Z Z ?_);refine Pl Z (AO (vs:=#[.int .i64 ((AM ms (BC d m gs ms cs f y l) (k:Int) d).1),.int .i64 ((AM ms (BC d m gs ms cs f y l) (k:Int) d).2)]) (v:=.int .i64 ((AM ms (BC d m gs ms cs f y l) (k:Int) d).2)) Z Z ?_);refine As (.int .i64 ((AM ms (BC d m gs ms cs f y l) (k:Int) d).1)) Z Z ?_;refine As (.int .i64 ((AM ms (BC d m gs ms cs f y l) (k:Int) d).2)) Z Z ?_;refine Nl (Rg ?_);refine Mv w8 Z bz ?_;refine Mv (.int .i64 ((AM ms (BC d m gs ms cs f y l) (k:Int) d).1)) Z Z ?_;refine Pl Z (Ah (cells:=#[.int .i64 ((AM ms (BC d m gs ms cs f y l) (k:Int) d).1)]) Fx.sel27 (by decide) (by decide) (by kernel_rfl) fun _ _ bs af bt _=>?_);have bu:=AU.built (enc:=eI) (xs:=[(AM ms (BC d m gs ms cs f y l) (k:Int) d).1]) (n:=1) bs bt Z Z (by intro x hx;rfl) Z;have a0:=(b1.le ae).le af;have a1:=(ay.trans ae).trans af;have a2:=(b2.le ae).le af;refine Pl Z (CG (h0:=av) Fx.app27_27 Z Z a0 (bu.sl) (fun _ q=>Ln a1 q) (by simp <;> omega) (by intro y hy;rfl) fun a9 _ bv ap=>?_);have ai:Apart a9 w9:=Apart.grown ap a2 (Apart.symm b3);refine Mv w9 Z b0 ?_;refine Mv (.int .i64 ((AM ms (BC d m gs ms cs f y l) (k:Int) d).2)) Z Z ?_;refine Pl Z (Ah (cells:=#[.int .i64 ((AM ms (BC d m gs ms cs f y l) (k:Int) d).2)]) Fx.sel27 (by decide) (by decide) (by kernel_rfl) fun _ _ a3 ac a4 _=>?_);have a5:=AU.built (enc:=eI) (xs:=[(AM ms (BC d m gs ms cs f y l) (k:Int) d).2]) (n:=1) a3 a4 Z Z (by intro x hx;rfl) Z;have aj:=((AU.grown ap a2 (Apart.symm b3)).le ac);have ak:=(GH.Le.grown ap a1 fun b e=>Ln Lr (a0.fresh b e)).trans ac;have al:=bv.le ac;refine Pl Z (CG (h0:=av) Fx.app27_27 Z Z aj (a5.sl) (fun _ q=>Ln ak q) (by simp <;> omega) (by intro y hy;rfl) fun aq _ a6 ag=>?_);have a7:Apart aq a9:=Apart.grown ag al (Apart.symm ai);refine As a9 Z Z ?_;refine As aq Z Z ?_;refine Nl (Rg ?_);refine Ad (k:Int) 1 Z bp Z (by omega) ?_;refine Mv (.int .i64 ((k:Int)+1)) Z Z ?_;refine Nl ?_;have a8:=GH.Le.grown ag ak fun b e=>Ln Lr (aj.fresh b e);exact ⟨_,by omega,k+1,a9,aq,Z,(by omega),Z,a8,bo,b6,bw,bx,Z,Z,Z,(by have e:(List.range (k+1)).map (fun (i:Nat)=>(AM ms (BC d m gs ms cs f y l) (i:Int) d).1)=((List.range k).map (fun (i:Nat)=>(AM ms (BC d m gs ms cs f y l) (i:Int) d).1))++[(AM ms (BC d m gs ms cs f y l) (k:Int) d).1]:=(by exact EL _ _);rw [e];exact (AU.grown ag al (Apart.symm ai))),(by have e:(List.range (k+1)).map (fun (i:Nat)=>(AM ms (BC d m gs ms cs f y l) (i:Int) d).2)=((List.range k).map (fun (i:Nat)=>(AM ms (BC d m gs ms cs f y l) (i:Int) d).2))++[(AM ms (BC d m gs ms cs f y l) (k:Int) d).2]:=(by exact EL _ _);rw [e];exact a6),a7⟩
  ·refine Xt (Sq (Rg ?_));refine Mv w8 Z bz ?_;refine Mv w9 Z b0 ?_;refine As w8 Z Z ?_;refine As w9 Z Z ?_;refine As (.int .i64 0) Z Z ?_;refine Nl (Rt ?_);refine ⟨.inr Z,MA Z (v:=w8) (v':=w9) (v2:=.int .i64 0) Z Z Z ?_⟩;exact ⟨w8,w9,(by (rw [Dn (by assumption:¬¬Az d m gs ms cs f y l=0)])),(by have e:FQ d m gs ms cs f y l=(List.range k).map (fun (i:Nat)=>(AM ms (BC d m gs ms cs f y l) (i:Int) d).1):=(by exact Lb ‹_› hk ‹_›);rw [e];exact b1.sl),(by have e:Gj d m gs ms cs f y l=(List.range k).map (fun (i:Nat)=>(AM ms (BC d m gs ms cs f y l) (i:Int) d).2):=(by exact M9 ‹_› hk ‹_›);rw [e];exact b2.sl),(ao.trans ay)⟩
end Go.Ns
namespace Go.Ns
open Go.Conc Go.Proofs
attribute [local irreducible] BY DR Tr AZ CA Bp
theorem QU {W:Wk Tryz.prog} {h:GH} {hB:GH} {I:List AQ→(Nat→Prop)→GH→Prop} {Sp:GH→Prop} {all:List AQ} {d m:Int} {gs:List Good} {gsv:Value} {ms:List AB} {msv:Value} {cs:List AJ} {csv:Value} {rb rmo:Nat} {mo:Int} (yv:Value) (hP:Ge hB I) (hY:IF W hB yv Ag I Sp all) (hgs:AK hB gsv 5 A9 gs) (hms:AK hB msv 5 Aw ms) (hcs:AK hB csv 4 Ar cs) (hG:Cq hB) (hrb:Aa hB rb 0 5 #[.int .i64 d,.int .i64 m,gsv,msv,csv]) (hrmo:Aa hB rmo 0 1 #[.int .i64 mo]) (hbk:BL d m gs ms cs) (hmo:0≤mo∧mo≤99) (f:Nat) {ry rmv:Nat} (ih:∀f',f'<f→∀{h:GH} {X0:Nat→Prop} {pre:List AQ} (p:AQ) (i:Nat) (iv:Int) (hi:iv=(i:Int)) (hBh:hB.Le h) (hI:I pre X0 h) (hry:h ry=some (true,.cells #[yv] 138 (0,0))) (nry:¬X0 ry) (hrmv:h rmv=some (true,.cells #[.func (.func 149) #[] #[.pointer (some ⟨rb,0,none⟩),.pointer (some ⟨ry,0,none⟩),.pointer (some ⟨rmv,0,none⟩),.pointer (some ⟨rmo,0,none⟩)]] 181 (0,0))) (nrmv:¬X0 rmv) (hfi:i+f'=ms.length) (hp:BZ p) (hw:CJ all pre (Ao (A2 d gs.length ms cs) ms mo f' i p)),AZ W 149 #[.agg (Ag p),.int .i64 iv,.pointer (some ⟨rb,0,none⟩),.pointer (some ⟨ry,0,none⟩),.pointer (some ⟨rmv,0,none⟩),.pointer (some ⟨rmo,0,none⟩)] h (Fh hB I Sp pre X0 h (Ao (A2 d gs.length ms cs) ms mo f' i p))) {X0:Nat→Prop} {pre:List AQ} (p:AQ) (i:Nat) (iv:Int) (hi:iv=(i:Int)) (hBh:hB.Le h) (hI:I pre X0 h) (hry:h ry=some (true,.cells #[yv] 138 (0,0))) (nry:¬X0 ry) (hrmv:h rmv=some (true,.cells #[.func (.func 149) #[] #[.pointer (some ⟨rb,0,none⟩),.pointer (some ⟨ry,0,none⟩),.pointer (some ⟨rmv,0,none⟩),.pointer (some ⟨rmo,0,none⟩)]] 181 (0,0))) (nrmv:¬X0 rmv) (hfi:i+f=ms.length) (hp:BZ p) (hw:CJ all pre (Ao (A2 d gs.length ms cs) ms mo f i p)):AZ W 149 #[.agg (Ag p),.int .i64 iv,.pointer (some ⟨rb,0,none⟩),.pointer (some ⟨ry,0,none⟩),.pointer (some ⟨rmv,0,none⟩),.pointer (some ⟨rmo,0,none⟩)] h (fun v h'=>Fh hB I Sp pre X0 h (Ao (A2 d gs.length ms cs) ms mo f i p) v h'):=by
 subst hi;have db:=Ff.start hI hBh;have hgl:=hbk.glen;have hml:=hbk.mlen;have hdy:=hbk.days;have hkind:=hbk.kind;have hcg:=hbk.cgood;have hfw:=hbk.few i;have hgw:=hbk.gfew i;have ci:=hgs.len;have cj:=hms.len;have ck:=hcs.len;refine AN Tryz.func149 Z (Nb Z) ?_;refine Sq (Rg ?_);refine Pl Z (Am (v:=.agg (Ag p)) (c:=Ag p) Z Z fun r4 _ a0 a6 cl _=>?_);have a7:ry≠r4:=B9 hry a0;have a8:rmv≠r4:=B9 hrmv a0;refine As (.bool false) Z Z ?_;refine Nl (Sq (Sq (Rg ?_)));refine Mv (.int .i64 (i:Int)) Z Z ?_;refine Fa Fx.fld104_0 Z Z ?_;refine Fa Fx.fld26_3 Z Z ?_;have ai:=Ff.le hP db a6;have bi:=hrb.le ai.base;refine Ld msv Z Z (Bd (o:=3) Fx.ty23 bi Z) ?_;have bo:=hms.le ai.base;refine Pl Z (AY Fx.sl23 bo Z ?_);refine Pl Z (Bc (a:=(i:Int)) (b:=(ms.length:Int)) Z Z ?_);refine Nl ?_;refine AX (p:=(i:Int)=(ms.length:Int)) Z (fun cm=>?_) (fun cm=>?_)
 ·obtain rfl:f=0:=(by omega);refine Sq (Rg ?_);refine Ld (.agg #[.int .i64 d,.int .i64 m,gsv,msv,csv]) Z Z (AL Fx.ty104 bi) ?_;refine Ld (.agg (Ag p)) Z Z (AL Fx.ty119 (Bx cl Z)) ?_;refine Pl Z (AW Tryz.func102 Fx.call102 Z Z ((O3 d m gs gsv ms msv cs csv p (hgs.le ai.base) bo (hcs.le ai.base) (hG.le ai.base) (by omega) (by omega) (by omega) (by omega) (by omega)).mono fun _ _ cn=>?_));obtain ⟨rfl,aq⟩:=cn;refine Pl Z (Cl (b:=A2 d gs.length ms cs p) Z ?_);refine Mv (.bool (!(A2 d gs.length ms cs p))) Z Z ?_;refine FE (b:= !(A2 d gs.length ms cs p)) ?_ ?_
  ·intro aj;refine Gs 4 20 (A8 Z aj) Z ?_;refine Gs 4 20 (A8 Z aj) Z ?_;refine Gs 4 20 (A8 Z aj) Z ?_;refine Pk true (.bool true) Z (A8 Z aj) Z ?_;refine As (.bool true) Z Z ?_;refine Nl (Rt ?_);have co:=Ff.le hP ai aq;refine ⟨.inr Z,Ac Z (v:=.bool true) Z ?_⟩;exact Ff.done (by have e:pre++(Ao (A2 d gs.length ms cs) ms mo 0 i p)=pre:=(by simp only [Ao];rw [if_neg (by simp_all)];exact List.append_nil _);rw [e];exact co)
  ·intro aj;refine Gg 4 20 (A8 Z aj) Z (AE (v:=yv) Z (Rd.one Fx.ty138 (aq.keep (a6.keep hry Z) Z) Z) ?_);refine Gg 4 20 (A8 Z aj) Z (AE (v:=.agg (Ag p)) Z (AL Fx.ty119 (Bx (aq.keep cl Z) Z)) ?_);have a9:=Ff.le hP ai aq;obtain ⟨_,bj⟩:=CJ.one (p:=p) (by have e:Ao (A2 d gs.length ms cs) ms mo 0 i p=[p]:=(by simp only [Ao];rw [if_pos (by simp_all)]);rw [e] at hw;exact hw);refine Gg 4 20 (A8 Z aj) Z (Fk Z Z ((hY.call _ _ _ _ _ bj a9.inv a9.base).mono fun _ _ bp=>?_));have bq:=Ff.pass a9 bp;obtain ⟨bk,_,rfl,_⟩:=a9.call bp;refine Pk false (.bool bk) Z (A8 Z aj) Z ?_;refine As (.bool bk) Z Z ?_;refine Nl (Rt ?_);refine ⟨.inr Z,Ac Z (v:=.bool bk) Z ?_⟩;exact (by have e:Ao (A2 d gs.length ms cs) ms mo 0 i p=[p]:=(by simp only [Ao];rw [if_pos (by simp_all)]);rw [e];exact bq)
 ·obtain ⟨f',rfl⟩:∃f',f=f'+1:=⟨f-1,by omega⟩;refine Sk (Sq (Sq (Rg ?_)));refine Fa Fx.fld104_0 Z Z ?_;refine Fa Fx.fld26_3 Z Z ?_;refine Ld msv Z Z (Bd (o:=3) Fx.ty23 bi Z) ?_;refine Mv (.int .i64 (i:Int)) Z Z ?_;have cp:(0:Int)≤(i:Int):=by omega
  have cq:(i:Int)<((ms.length:Nat):Int):=by omega
  refine Pl Z (A0 Fx.esz23 hms Z Z cp cq fun dc br cr=>?_);have ct:Aa _ dc br 5 (Aw (ms.getD i AB.z)):=Aa.getD AB.z cr;refine Fa Fx.fld75_3 Z Z ?_;refine Fa Fx.fld31_0 Z Z ?_;refine Ld (.int .i64 ((ms.getD i AB.z).low)) Z Z (Bd (o:=3) Fx.ty3 (ct.le ai.base) Z) ?_;refine As (.int .i64 ((ms.getD i AB.z).low)) Z Z ?_;refine Nl (Bk ?_);refine Au (fun nn σ' ds' h'=>∃(k:Nat) (pc:AQ) (X:Nat→Prop),nn=((ms.getD i AB.z).high-(ms.getD i AB.z).low+1-(k:Int)).toNat∧((k:Int)≤(ms.getD i AB.z).high-(ms.getD i AB.z).low+1)∧(BZ pc)∧(∀n b,pc.setMove i n b=p.setMove i n b)∧ds'=[]∧Ff hB I X0 h (pre++(Be (ms.getD i AB.z).low k).flatMap (BO (A2 d gs.length ms cs) ms mo f' i p)) X h'∧σ' 1=.int .i64 (i:Int)∧σ' 2=.pointer (some ⟨rb,0,none⟩)∧σ' 4=.pointer (some ⟨rmv,0,none⟩)∧σ' 5=.pointer (some ⟨rmo,0,none⟩)∧σ' 6=.pointer (some ⟨r4,0,none⟩)∧σ' 9=.int .i64 ((ms.getD i AB.z).low+(k:Int))∧h' ry=some (true,.cells #[yv] 138 (0,0))∧¬X ry∧h' rmv=some (true,.cells #[.func (.func 149) #[] #[.pointer (some ⟨rb,0,none⟩),.pointer (some ⟨ry,0,none⟩),.pointer (some ⟨rmv,0,none⟩),.pointer (some ⟨rmo,0,none⟩)]] 181 (0,0))∧¬X rmv∧h' r4=some (true,.cells (Ag pc) 119 (0,0))∧¬X r4) ⟨0,p,X0,Z,(by omega),(by exact hp),(by intros;rfl),Z,(by have e:pre++(Be (ms.getD i AB.z).low 0).flatMap (BO (A2 d gs.length ms cs) ms mo f' i p)=pre:=(by simp [Be]);rw [e];exact ai),Z,Z,Z,Z,Z,(Et (b:=(.int .i64 ((ms.getD i AB.z).low):Value)) Z (by congr 1;omega)),(a6.keep hry Z),nry,(a6.keep hrmv Z),nrmv,cl,(hP.off db.inv a0)⟩ (fun nn _ _ _ cu=>?_);obtain ⟨k,pc,_,rfl,hk,hpk,hpc,dd,cd,bd,ce,cv,cw,bl,cf,de,cg,df,ch,dg,bs⟩:=cu;subst dd;refine Sq (Sq (Rg ?_));refine Mv (.int .i64 ((ms.getD i AB.z).low+(k:Int))) Z cf ?_;refine Fa Fx.fld104_0 Z ce ?_;refine Fa Fx.fld26_3 Z Z ?_;refine Ld msv Z Z (Bd (o:=3) Fx.ty23 (hrb.le cd.base) Z) ?_;refine Mv (.int .i64 (i:Int)) Z bd ?_;have cx:(0:Int)≤(i:Int):=by omega
  have cy:(i:Int)<((ms.length:Nat):Int):=by omega
  refine Pl Z (A0 Fx.esz23 hms Z Z cx cy fun dh bt cz=>?_);have c0:Aa _ dh bt 5 (Aw (ms.getD i AB.z)):=Aa.getD AB.z cz;refine Fa Fx.fld75_3 Z Z ?_;refine Fa Fx.fld31_1 Z Z ?_;refine Ld (.int .i64 ((ms.getD i AB.z).high)) Z Z (Bd (o:=4) Fx.ty3 (c0.le cd.base) Z) ?_;refine Pl Z (C2 (a:=(ms.getD i AB.z).low+(k:Int)) (b:=(ms.getD i AB.z).high) Z Z ?_);refine Nl ?_;refine AX (p:=((ms.getD i AB.z).low+(k:Int))≤((ms.getD i AB.z).high)) Z (fun c1=>?_) (fun c1=>?_)
  ·refine Sk (Sq (Bk (Sq (Rg ?_))));refine Mv (.int .i64 (i:Int)) Z bd ?_;refine Mv (.int .i64 (i:Int)) Z bd ?_;refine Mv (.int .i64 ((ms.getD i AB.z).low+(k:Int))) Z cf ?_;refine Fa Fx.fld119_1 Z bl ?_;have c2:(0:Int)≤(i:Int):=by omega
   have c3:(i:Int)<((6:Nat):Int):=by omega
   refine Pl Z (CV Fx.asz116 Z Z c2 c3 ?_);refine Pl Z (AG (v:=.int .i64 ((ms.getD i AB.z).low+(k:Int))) (c':=Ag (pc.setMany i ((ms.getD i AB.z).low+(k:Int)))) Fx.ty3 Z Z dg Z Z (by show _≤15;omega) (LW (i:=i) (by omega)) fun _ c4 bm=>?_);refine Fa Fx.fld119_2 Z bl ?_;have c5:(0:Int)≤(i:Int):=by omega
   have c6:(i:Int)<((6:Nat):Int):=by omega
   refine Pl Z (CV Fx.asz117 Z Z c5 c6 ?_);refine Pl Z (AG (v:=.bool false) (c':=Ag ((pc.setMany i ((ms.getD i AB.z).low+(k:Int))).setLie i false)) Fx.ty4 Z Z c4 Z Z (by show _≤15;omega) (Gc (i:=i) (by omega)) fun _ ba bn=>?_);refine Nl (Sq (Sq (Rg ?_)));have a1:=((bn _ a8).trans ((bm _ a8).trans df));refine Ld (.func (.func 149) #[] #[.pointer (some ⟨rb,0,none⟩),.pointer (some ⟨ry,0,none⟩),.pointer (some ⟨rmv,0,none⟩),.pointer (some ⟨rmo,0,none⟩)]) Z cv (Rd.one Fx.ty181 a1 Z) ?_;refine Ld (.agg (Ag ((pc.setMany i ((ms.getD i AB.z).low+(k:Int))).setLie i false))) Z bl (AL Fx.ty119 (Bx ba Z)) ?_;refine Mv (.int .i64 (i:Int)) Z bd ?_;refine Ad (i:Int) 1 Z Z Z (by omega) ?_;have bb:=(Ff.store hP (Ff.store hP cd a0 (Ln hBh a0) bs bm) a0 (Ln hBh a0) bs bn);have bc:=((bn _ a7).trans ((bm _ a7).trans de));refine Pl Z (En (vs:=#[.agg (Ag ((pc.setMany i ((ms.getD i AB.z).low+(k:Int))).setLie i false)),.int .i64 ((i:Int)+1),.pointer (some ⟨rb,0,none⟩),.pointer (some ⟨ry,0,none⟩),.pointer (some ⟨rmv,0,none⟩),.pointer (some ⟨rmo,0,none⟩)]) Z Tryz.func149 Fx.call149 (by simp only [List.map_toArray,List.map_cons,List.map_nil,AT] <;> rfl) ((ih f' (by omega) ((pc.setMany i ((ms.getD i AB.z).low+(k:Int))).setLie i false) (i+1) ((i:Int)+1) (by omega) bb.base bb.inv bc cg a1 ch (by omega) (by exact hpk.setMany (by omega)) (by exact LZ hpc hw Z (by omega))).mono fun _ di bu=>?_));have c7:=Ff.pass bb bu;obtain ⟨az,c8,rfl,ao,ag,bv,bw⟩:=bb.call bu;have ar:=LY ao bc cg;have au:=LY ao a1 ch;have ak:=LY ao ba bs;refine Pl Z (Cl (b:=az) Z ?_);refine Nl ?_;refine CN (t:= !az) Z (fun al=>?_) (fun al=>?_)
   ·have hc109_y:az=false:=by simpa using al
    have hc109_:az=false:=by simpa using al
    refine Sq (Rg ?_);refine As (.bool false) Z Z ?_;refine Nl (Rt ?_);refine ⟨.inr Z,Ac Z (v:=.bool false) Z ?_⟩;exact Fh.stopped Z (bw hc109_y)
   ·have hc109_y:az=true:=by simpa using al
    have ad:=bv hc109_y;have hc109_:az=true:=by simpa using al
    refine Sk (Sq ?_);refine Ex (fun σ' h'=>GH.Le di h'∧σ' 1=.int .i64 (i:Int)∧σ' 2=.pointer (some ⟨rb,0,none⟩)∧σ' 4=.pointer (some ⟨rmv,0,none⟩)∧σ' 5=.pointer (some ⟨rmo,0,none⟩)∧σ' 6=.pointer (some ⟨r4,0,none⟩)∧σ' 9=.int .i64 ((ms.getD i AB.z).low+(k:Int))∧σ' 58=.int .i64 (i:Int)∧σ' 67=.bool (decide (((0≤(i:Int)∧(i:Int)≤(ms.length:Int)-1)∧(ms.getD ((i:Int)).toNat AB.z).kind=0)∧((Aq ((pc.setMany i ((ms.getD i AB.z).low+(k:Int))).setLie i false) 6:Int)<mo)))∧σ' 68=.pointer (some ⟨r4,9,none⟩)) 11 false [0,6,11,50,17,21,26,36,32,41,46] Fx.mixed (by kernel_rfl) ?_ ?_
    ·refine tP Z Z (fun _=>AA (v:=.int .i64 (i:Int)) bd vz) ?_;refine tR Z Z (AE (v:=.agg #[.int .i64 d,.int .i64 m,gsv,msv,csv]) ce (AL Fx.ty104 (hrb.le ad.base)) vz) ?_;refine tR Z Z (AA (v:=.int .i64 (i:Int)) bd vz) ?_;refine tP Z Z (fun _=>AF Fx.fld119_2 bl vz) ?_;refine tE Z Z (AW Tryz.func110 Fx.call110 Z Z ((Fu d m gs gsv ms msv cs csv (i:Int) (hgs.le ad.base) (hms.le ad.base) (hcs.le ad.base) ).mono fun _ _ bx=>?_));obtain ⟨rfl,ae⟩:=bx;refine eT ae ?_;refine tR Z Z (AA (v:=.bool (decide ((0≤(i:Int)∧(i:Int)≤(ms.length:Int)-1)∧(ms.getD ((i:Int)).toNat AB.z).kind=0))) Z vz) ?_;refine Cf (p:=(0≤(i:Int)∧(i:Int)≤(ms.length:Int)-1)∧(ms.getD ((i:Int)).toNat AB.z).kind=0) ?_ ?_
     ·intro ab;refine CP Z Z Z Z (AD Z ab) (AE (v:=.agg (Ag ((pc.setMany i ((ms.getD i AB.z).low+(k:Int))).setLie i false))) bl (AL Fx.ty119 (Bx (ae.keep (ag.box ba bs Z) Z) Z)) vz) ?_;have bz:=Ff.le hP ad ae;refine CP Z Z Z Z (AD Z ab) (AE (v:=.int .i64 mo) cw (Bd (o:=0) Fx.ty3 (hrmo.le bz.base) Z) vz) ?_;refine Q0 Z Z Z Z (AD Z ab) (Ai Tryz.func101 Fx.call101 Z ((QO ((pc.setMany i ((ms.getD i AB.z).low+(k:Int))).setLie i false) ).mono fun _ _ b0=>?_));obtain ⟨rfl,a2⟩:=b0;refine eT a2 ?_;refine CP Z Z Z Z (AD Z ab) (A1 (a:=(Aq ((pc.setMany i ((ms.getD i AB.z).low+(k:Int))).setLie i false) 6:Int)) (b:=mo) Z Z vz) ?_;refine tR Z Z (Bb (t:=true) (v:=.bool (decide ((Aq ((pc.setMany i ((ms.getD i AB.z).low+(k:Int))).setLie i false) 6:Int)<mo))) (AD Z ab) Z vz) ?_;refine tN ?_;exact ⟨(ae.trans a2),bd,ce,cv,cw,bl,cf,Z,Et (b:=(.bool (decide ((Aq ((pc.setMany i ((ms.getD i AB.z).low+(k:Int))).setLie i false) 6:Int)<mo)):Value)) Z (congrArg Value.bool (by grind:decide ((Aq ((pc.setMany i ((ms.getD i AB.z).low+(k:Int))).setLie i false) 6:Int)<mo)=(decide (((0≤(i:Int)∧(i:Int)≤(ms.length:Int)-1)∧(ms.getD ((i:Int)).toNat AB.z).kind=0)∧((Aq ((pc.setMany i ((ms.getD i AB.z).low+(k:Int))).setLie i false) 6:Int)<mo))))),Z⟩
     ·intro ab;refine tS Z Z Z Z (AC Z ab) Z ?_;refine tS Z Z Z Z (AC Z ab) Z ?_;refine tS Z Z Z Z (AC Z ab) Z ?_;refine tS Z Z Z Z (AC Z ab) Z ?_;refine tR Z Z (Bb (t:=false) (v:=.bool false) (AC Z ab) Z vz) ?_;refine tN ?_;exact ⟨ae,bd,ce,cv,cw,bl,cf,Z,Et (b:=(.bool false:Value)) Z (congrArg Value.bool (by grind:false=(decide (((0≤(i:Int)∧(i:Int)≤(ms.length:Int)-1)∧(ms.getD ((i:Int)).toNat AB.z).kind=0)∧((Aq ((pc.setMany i ((ms.getD i AB.z).low+(k:Int))).setLie i false) 6:Int)<mo))))),Z⟩
    ·rintro _ _ ⟨ac,av,be,a3,bf,aw,bg,b1,b2,b3⟩;have b4:(0:Int)≤(i:Int):=by omega
     have b5:(i:Int)<((6:Nat):Int):=by omega
     refine Pl Z (CV Fx.asz117 b3 b1 b4 b5 ?_);have b6:=ac.keep (ag.box ba bs Z) Z;refine Pl Z (AG (v:=.bool (decide (((0≤(i:Int)∧(i:Int)≤(ms.length:Int)-1)∧(ms.getD ((i:Int)).toNat AB.z).kind=0)∧((Aq ((pc.setMany i ((ms.getD i AB.z).low+(k:Int))).setLie i false) 6:Int)<mo)))) (c':=Ag (((pc.setMany i ((ms.getD i AB.z).low+(k:Int))).setLie i false).setLie i (decide (((0≤(i:Int)∧(i:Int)≤(ms.length:Int)-1)∧(ms.getD ((i:Int)).toNat AB.z).kind=0)∧((Aq ((pc.setMany i ((ms.getD i AB.z).low+(k:Int))).setLie i false) 6:Int)<mo))))) Fx.ty4 Z b2 b6 Z Z (by show _≤15;omega) (Gc (i:=i) (by omega)) fun _ am ah=>?_);refine Nl (Sq (Rg ?_));refine Mv (.int .i64 (i:Int)) Z av ?_;refine Fa Fx.fld119_2 Z aw ?_;have b7:(0:Int)≤(i:Int):=by omega
     have b8:(i:Int)<((6:Nat):Int):=by omega
     refine Pl Z (CV Fx.asz117 Z Z b7 b8 ?_);refine Ld (.bool ((((pc.setMany i ((ms.getD i AB.z).low+(k:Int))).setLie i false).setLie i (decide (((0≤(i:Int)∧(i:Int)≤(ms.length:Int)-1)∧(ms.getD ((i:Int)).toNat AB.z).kind=0)∧((Aq ((pc.setMany i ((ms.getD i AB.z).low+(k:Int))).setLie i false) 6:Int)<mo)))).lies i)) Z Z (Rd.one Fx.ty4 am (ID (i:=i) (by omega))) ?_;refine Mv (.bool ((((pc.setMany i ((ms.getD i AB.z).low+(k:Int))).setLie i false).setLie i (decide (((0≤(i:Int)∧(i:Int)≤(ms.length:Int)-1)∧(ms.getD ((i:Int)).toNat AB.z).kind=0)∧((Aq ((pc.setMany i ((ms.getD i AB.z).low+(k:Int))).setLie i false) 6:Int)<mo)))).lies i)) Z Z ?_;refine FE (b:=(((pc.setMany i ((ms.getD i AB.z).low+(k:Int))).setLie i false).setLie i (decide (((0≤(i:Int)∧(i:Int)≤(ms.length:Int)-1)∧(ms.getD ((i:Int)).toNat AB.z).kind=0)∧((Aq ((pc.setMany i ((ms.getD i AB.z).low+(k:Int))).setLie i false) 6:Int)<mo)))).lies i) ?_ ?_
     ·intro aa;have ax:=((ah _ a8).trans (ac.keep (ag.box a1 ch Z) Z));refine Gg 4 74 (A8 Z aa) Z (AE (v:=.func (.func 149) #[] #[.pointer (some ⟨rb,0,none⟩),.pointer (some ⟨ry,0,none⟩),.pointer (some ⟨rmv,0,none⟩),.pointer (some ⟨rmo,0,none⟩)]) a3 (Rd.one Fx.ty181 ax Z) ?_);refine Gg 4 74 (A8 Z aa) Z (AE (v:=.agg (Ag (((pc.setMany i ((ms.getD i AB.z).low+(k:Int))).setLie i false).setLie i (decide (((0≤(i:Int)∧(i:Int)≤(ms.length:Int)-1)∧(ms.getD ((i:Int)).toNat AB.z).kind=0)∧((Aq ((pc.setMany i ((ms.getD i AB.z).low+(k:Int))).setLie i false) 6:Int)<mo)))))) aw (AL Fx.ty119 (Bx am Z)) ?_);refine Gg 4 74 (A8 Z aa) Z (AA (v:=.int .i64 (i:Int)) av ?_);refine Gg 4 74 (A8 Z aa) Z (CR (a:=(i:Int)) (b:=1) Z Z (by omega) ?_);have ay:=Ff.store hP (Ff.le hP ad ac) a0 (Ln hBh a0) ak ah;have a4:=((ah _ a7).trans (ac.keep (ag.box bc cg Z) Z));refine Gg 4 74 (A8 Z aa) Z (En (vs:=#[.agg (Ag (((pc.setMany i ((ms.getD i AB.z).low+(k:Int))).setLie i false).setLie i (decide (((0≤(i:Int)∧(i:Int)≤(ms.length:Int)-1)∧(ms.getD ((i:Int)).toNat AB.z).kind=0)∧((Aq ((pc.setMany i ((ms.getD i AB.z).low+(k:Int))).setLie i false) 6:Int)<mo))))),.int .i64 ((i:Int)+1),.pointer (some ⟨rb,0,none⟩),.pointer (some ⟨ry,0,none⟩),.pointer (some ⟨rmv,0,none⟩),.pointer (some ⟨rmo,0,none⟩)]) Z Tryz.func149 Fx.call149 (by simp only [List.map_toArray,List.map_cons,List.map_nil,AT] <;> rfl) ((ih f' (by omega) (((pc.setMany i ((ms.getD i AB.z).low+(k:Int))).setLie i false).setLie i (decide (((0≤(i:Int)∧(i:Int)≤(ms.length:Int)-1)∧(ms.getD ((i:Int)).toNat AB.z).kind=0)∧((Aq ((pc.setMany i ((ms.getD i AB.z).low+(k:Int))).setLie i false) 6:Int)<mo)))) (i+1) ((i:Int)+1) (by omega) ay.base ay.inv a4 ar ax au (by omega) (by exact hpk.setMany (by omega)) (by exact La hpc hw ‹_› Z (by omega))).mono fun _ _ bh=>?_));have c9:=Ff.pass ay bh;obtain ⟨af,da,rfl,ap,a5,b9,ca⟩:=ay.call bh;refine Gg 4 74 (A8 Z aa) Z (Cl (b:=af) Z ?_);refine Pk true (.bool (!af)) Z (A8 Z aa) Z ?_;refine Nl ?_;refine CN (t:= !af) Z (fun an=>?_) (fun an=>?_)
      ·have hc168_y:af=false:=by simpa using an
       have hc168_:af=false:=by simpa using an
       refine Sq (Rg ?_);refine As (.bool false) Z Z ?_;refine Nl (Rt ?_);refine ⟨.inr Z,Ac Z (v:=.bool false) Z ?_⟩;exact Fh.stopped Z (ca hc168_y)
      ·have hc168_y:af=true:=by simpa using an
       have cb:=b9 hc168_y;have hc168_:af=true:=by simpa using an
       refine Sk (Rg ?_);refine Mv (.int .i64 ((ms.getD i AB.z).low+(k:Int))) Z bg ?_;refine Ad ((ms.getD i AB.z).low+(k:Int)) 1 Z Z Z (by omega) ?_;refine As (.int .i64 (((ms.getD i AB.z).low+(k:Int))+1)) Z Z ?_;refine Nl ?_;exact ⟨_,by omega,k+1,((pc.setMany i ((ms.getD i AB.z).low+(k:Int))).setLie i false).setLie i (decide (((0≤(i:Int)∧(i:Int)≤(ms.length:Int)-1)∧(ms.getD ((i:Int)).toNat AB.z).kind=0)∧((Aq ((pc.setMany i ((ms.getD i AB.z).low+(k:Int))).setLie i false) 6:Int)<mo))),da,Z,(by omega),(by exact hpk.setMany (by omega)),(by exact OE hpc),Z,(by have e:pre++(Be (ms.getD i AB.z).low (k+1)).flatMap (BO (A2 d gs.length ms cs) ms mo f' i p)=((pre++(Be (ms.getD i AB.z).low k).flatMap (BO (A2 d gs.length ms cs) ms mo f' i p))++(Ao (A2 d gs.length ms cs) ms mo f' (i+1) ((pc.setMany i ((ms.getD i AB.z).low+(k:Int))).setLie i false)))++(Ao (A2 d gs.length ms cs) ms mo f' (i+1) (((pc.setMany i ((ms.getD i AB.z).low+(k:Int))).setLie i false).setLie i (decide (((0≤(i:Int)∧(i:Int)≤(ms.length:Int)-1)∧(ms.getD ((i:Int)).toNat AB.z).kind=0)∧((Aq ((pc.setMany i ((ms.getD i AB.z).low+(k:Int))).setLie i false) 6:Int)<mo))))):=(by exact OG hpc ‹_› Z);rw [e];exact cb),av,be,a3,bf,aw,(Et (b:=(.int .i64 (((ms.getD i AB.z).low+(k:Int))+1):Value)) Z (by congr 1;omega)),(a5.box a4 ar Z),(LY ap a4 ar),(a5.box ax au Z),(LY ap ax au),(a5.box am ak Z),(LY ap am ak)⟩
     ·intro aa;refine Gs 4 74 (A8 Z aa) Z ?_;refine Gs 4 74 (A8 Z aa) Z ?_;refine Gs 4 74 (A8 Z aa) Z ?_;refine Gs 4 74 (A8 Z aa) Z ?_;refine Gs 4 74 (A8 Z aa) Z ?_;refine Gs 4 74 (A8 Z aa) Z ?_;refine Pk false (.bool false) Z (A8 Z aa) Z ?_;refine Nl ?_;refine BV Z ?_;refine Sk (Rg ?_);refine Mv (.int .i64 ((ms.getD i AB.z).low+(k:Int))) Z bg ?_;refine Ad ((ms.getD i AB.z).low+(k:Int)) 1 Z Z Z (by omega) ?_;refine As (.int .i64 (((ms.getD i AB.z).low+(k:Int))+1)) Z Z ?_;refine Nl ?_;have cc:=Ff.store hP (Ff.le hP ad ac) a0 (Ln hBh a0) ak ah;exact ⟨_,by omega,k+1,((pc.setMany i ((ms.getD i AB.z).low+(k:Int))).setLie i false).setLie i (decide (((0≤(i:Int)∧(i:Int)≤(ms.length:Int)-1)∧(ms.getD ((i:Int)).toNat AB.z).kind=0)∧((Aq ((pc.setMany i ((ms.getD i AB.z).low+(k:Int))).setLie i false) 6:Int)<mo))),c8,Z,(by omega),(by exact hpk.setMany (by omega)),(by exact OE hpc),Z,(by have e:pre++(Be (ms.getD i AB.z).low (k+1)).flatMap (BO (A2 d gs.length ms cs) ms mo f' i p)=(pre++(Be (ms.getD i AB.z).low k).flatMap (BO (A2 d gs.length ms cs) ms mo f' i p))++(Ao (A2 d gs.length ms cs) ms mo f' (i+1) ((pc.setMany i ((ms.getD i AB.z).low+(k:Int))).setLie i false)):=(by exact OH hpc ‹_› Z);rw [e];exact cc),av,be,a3,bf,aw,(Et (b:=(.int .i64 (((ms.getD i AB.z).low+(k:Int))+1):Value)) Z (by congr 1;omega)),((ah _ a7).trans (ac.keep (ag.box bc cg Z) Z)),ar,((ah _ a8).trans (ac.keep (ag.box a1 ch Z) Z)),au,am,ak⟩
  ·refine Xt (Sq (Rg ?_));refine As (.bool true) Z Z ?_;refine Nl (Rt ?_);refine ⟨.inr Z,Ac Z (v:=.bool true) Z ?_⟩;exact Ff.done (by have e:pre++(Ao (A2 d gs.length ms cs) ms mo (f'+1) i p)=pre++(Be (ms.getD i AB.z).low k).flatMap (BO (A2 d gs.length ms cs) ms mo f' i p):=(by (rw [B1,CJ.roundEnd (k:=k) ‹_› (by omega)]));rw [e];exact cd)
theorem O5 {W:Wk Tryz.prog} {hB:GH} {I:List AQ→(Nat→Prop)→GH→Prop} {Sp:GH→Prop} {all:List AQ} {d m:Int} {gs:List Good} {gsv:Value} {ms:List AB} {msv:Value} {cs:List AJ} {csv:Value} {rb rmo:Nat} {mo:Int} (yv:Value) (hP:Ge hB I) (hY:IF W hB yv Ag I Sp all) (hgs:AK hB gsv 5 A9 gs) (hms:AK hB msv 5 Aw ms) (hcs:AK hB csv 4 Ar cs) (hG:Cq hB) (hrb:Aa hB rb 0 5 #[.int .i64 d,.int .i64 m,gsv,msv,csv]) (hrmo:Aa hB rmo 0 1 #[.int .i64 mo]) (hbk:BL d m gs ms cs) (hmo:0≤mo∧mo≤99) {ry rmv:Nat}:∀(f:Nat) {h:GH} {X0:Nat→Prop} {pre:List AQ} (p:AQ) (i:Nat) (iv:Int) (hi:iv=(i:Int)) (hBh:hB.Le h) (hI:I pre X0 h) (hry:h ry=some (true,.cells #[yv] 138 (0,0))) (nry:¬X0 ry) (hrmv:h rmv=some (true,.cells #[.func (.func 149) #[] #[.pointer (some ⟨rb,0,none⟩),.pointer (some ⟨ry,0,none⟩),.pointer (some ⟨rmv,0,none⟩),.pointer (some ⟨rmo,0,none⟩)]] 181 (0,0))) (nrmv:¬X0 rmv) (hfi:i+f=ms.length) (hp:BZ p) (hw:CJ all pre (Ao (A2 d gs.length ms cs) ms mo f i p)),AZ W 149 #[.agg (Ag p),.int .i64 iv,.pointer (some ⟨rb,0,none⟩),.pointer (some ⟨ry,0,none⟩),.pointer (some ⟨rmv,0,none⟩),.pointer (some ⟨rmo,0,none⟩)] h (Fh hB I Sp pre X0 h (Ao (A2 d gs.length ms cs) ms mo f i p)):=by
 intro f
 induction f using Nat.strongRecOn with
 | ind f ih=>
  intro h X0 pre p i iv hi hBh hI hry nry hrmv nrmv hfi hp hw;exact QU yv hP hY hgs hms hcs hG hrb hrmo hbk hmo f ih p i iv hi hBh hI hry nry hrmv nrmv hfi hp hw
theorem QV {W:Wk Tryz.prog} {h:GH} {hB:GH} {I:List AQ→(Nat→Prop)→GH→Prop} {Sp:GH→Prop} {all:List AQ} {d m:Int} {gs:List Good} {gsv:Value} {ms:List AB} {msv:Value} {cs:List AJ} {csv:Value} {rb rmo:Nat} {mo:Int} (yv:Value) (hP:Ge hB I) (hY:IF W hB yv Ag I Sp all) (hgs:AK hB gsv 5 A9 gs) (hms:AK hB msv 5 Aw ms) (hcs:AK hB csv 4 Ar cs) (hG:Cq hB) (hrb:Aa hB rb 0 5 #[.int .i64 d,.int .i64 m,gsv,msv,csv]) (hrmo:Aa hB rmo 0 1 #[.int .i64 mo]) (hbk:BL d m gs ms cs) (hmo:0≤mo∧mo≤99) (f:Nat) {ry rmv rgd:Nat} (ih:∀f',f'<f→∀{h:GH} {X0:Nat→Prop} {pre:List AQ} (p:AQ) (i:Nat) (iv:Int) (hi:iv=(i:Int)) (hBh:hB.Le h) (hI:I pre X0 h) (hry:h ry=some (true,.cells #[yv] 138 (0,0))) (nry:¬X0 ry) (hrmv:h rmv=some (true,.cells #[.func (.func 149) #[] #[.pointer (some ⟨rb,0,none⟩),.pointer (some ⟨ry,0,none⟩),.pointer (some ⟨rmv,0,none⟩),.pointer (some ⟨rmo,0,none⟩)]] 181 (0,0))) (nrmv:¬X0 rmv) (hrgd:h rgd=some (true,.cells #[.func (.func 148) #[] #[.pointer (some ⟨rb,0,none⟩),.pointer (some ⟨rmv,0,none⟩),.pointer (some ⟨rgd,0,none⟩)]] 181 (0,0))) (nrgd:¬X0 rgd) (hfi:i+f'=gs.length) (hp:BZ p) (hw:CJ all pre (A6 (A2 d gs.length ms cs) gs ms mo f' i p)),AZ W 148 #[.agg (Ag p),.int .i64 iv,.pointer (some ⟨rb,0,none⟩),.pointer (some ⟨rmv,0,none⟩),.pointer (some ⟨rgd,0,none⟩)] h (Fh hB I Sp pre X0 h (A6 (A2 d gs.length ms cs) gs ms mo f' i p))) {X0:Nat→Prop} {pre:List AQ} (p:AQ) (i:Nat) (iv:Int) (hi:iv=(i:Int)) (hBh:hB.Le h) (hI:I pre X0 h) (hry:h ry=some (true,.cells #[yv] 138 (0,0))) (nry:¬X0 ry) (hrmv:h rmv=some (true,.cells #[.func (.func 149) #[] #[.pointer (some ⟨rb,0,none⟩),.pointer (some ⟨ry,0,none⟩),.pointer (some ⟨rmv,0,none⟩),.pointer (some ⟨rmo,0,none⟩)]] 181 (0,0))) (nrmv:¬X0 rmv) (hrgd:h rgd=some (true,.cells #[.func (.func 148) #[] #[.pointer (some ⟨rb,0,none⟩),.pointer (some ⟨rmv,0,none⟩),.pointer (some ⟨rgd,0,none⟩)]] 181 (0,0))) (nrgd:¬X0 rgd) (hfi:i+f=gs.length) (hp:BZ p) (hw:CJ all pre (A6 (A2 d gs.length ms cs) gs ms mo f i p)):AZ W 148 #[.agg (Ag p),.int .i64 iv,.pointer (some ⟨rb,0,none⟩),.pointer (some ⟨rmv,0,none⟩),.pointer (some ⟨rgd,0,none⟩)] h (fun v h'=>Fh hB I Sp pre X0 h (A6 (A2 d gs.length ms cs) gs ms mo f i p) v h'):=by
 subst hi;have br:=Ff.start hI hBh;have hgl:=hbk.glen;have hml:=hbk.mlen;have hdy:=hbk.days;have hkind:=hbk.kind;have hcg:=hbk.cgood;have hfw:=hbk.few i;have hgw:=hbk.gfew i;have az:=hgs.len;have a0:=hms.len;have a1:=hcs.len;refine AN Tryz.func148 Z (Nb Z) ?_;refine Sq (Rg ?_);refine Pl Z (Am (v:=.agg (Ag p)) (c:=Ag p) Z Z fun r4 _ am ac bs _=>?_);have a2:ry≠r4:=B9 hry am;have a3:rmv≠r4:=B9 hrmv am;have a4:rgd≠r4:=B9 hrgd am;refine As (.bool false) Z Z ?_;refine Nl (Sq (Sq (Rg ?_)));refine Mv (.int .i64 (i:Int)) Z Z ?_;refine Fa Fx.fld104_0 Z Z ?_;refine Fa Fx.fld26_2 Z Z ?_;have aa:=Ff.le hP br ac;have an:=hrb.le aa.base;refine Ld gsv Z Z (Bd (o:=2) Fx.ty22 an Z) ?_;refine Pl Z (AY Fx.sl22 (hgs.le aa.base) Z ?_);refine Pl Z (Bc (a:=(i:Int)) (b:=(gs.length:Int)) Z Z ?_);refine Nl ?_;refine AX (p:=(i:Int)=(gs.length:Int)) Z (fun a5=>?_) (fun a5=>?_)
 ·obtain rfl:f=0:=(by omega);refine Sq (Rg ?_);have ao:=ac.keep hrmv Z;refine Ld (.func (.func 149) #[] #[.pointer (some ⟨rb,0,none⟩),.pointer (some ⟨ry,0,none⟩),.pointer (some ⟨rmv,0,none⟩),.pointer (some ⟨rmo,0,none⟩)]) Z Z (Rd.one Fx.ty181 ao Z) ?_;refine Ld (.agg (Ag p)) Z Z (AL Fx.ty119 (Bx bs Z)) ?_;refine Pl Z (En (vs:=#[.agg (Ag p),.int .i64 0,.pointer (some ⟨rb,0,none⟩),.pointer (some ⟨ry,0,none⟩),.pointer (some ⟨rmv,0,none⟩),.pointer (some ⟨rmo,0,none⟩)]) Z Tryz.func149 Fx.call149 (by simp only [List.map_toArray,List.map_cons,List.map_nil,AT] <;> rfl) ((O5 (X0:=_) yv hP hY hgs hms hcs hG hrb hrmo hbk hmo ms.length p 0 0 Z aa.base aa.inv (ac.keep hry Z) nry ao nrmv (by omega) hp hw).mono fun _ _ ap=>?_));have aq:=Ff.pass aa ap;obtain ⟨ar,_,rfl,_⟩:=aa.call ap;refine As (.bool ar) Z Z ?_;refine Nl (Rt ?_);refine ⟨.inr Z,Ac Z (v:=.bool ar) Z ?_⟩;exact (by have e:A6 (A2 d gs.length ms cs) gs ms mo 0 i p=Ao (A2 d gs.length ms cs) ms mo ms.length 0 p:=(by rfl);rw [e];exact aq)
 ·obtain ⟨f',rfl⟩:∃f',f=f'+1:=⟨f-1,by omega⟩;refine Sk (Sq (Sq (Rg ?_)));refine Fa Fx.fld104_0 Z Z ?_;refine Fa Fx.fld26_2 Z Z ?_;refine Ld gsv Z Z (Bd (o:=2) Fx.ty22 an Z) ?_;refine Mv (.int .i64 (i:Int)) Z Z ?_;have a6:(0:Int)≤(i:Int):=by omega
  have a7:(i:Int)<((gs.length:Nat):Int):=by omega
  refine Pl Z (A0 Fx.esz22 hgs Z Z a6 a7 fun bw au a8=>?_);have a9:Aa _ bw au 5 (A9 (gs.getD i Good.z)):=Aa.getD Good.z a8;refine Fa Fx.fld99_3 Z Z ?_;refine Fa Fx.fld31_0 Z Z ?_;refine Ld (.int .i64 ((gs.getD i Good.z).low)) Z Z (Bd (o:=3) Fx.ty3 (a9.le aa.base) Z) ?_;refine As (.int .i64 ((gs.getD i Good.z).low)) Z Z ?_;refine Nl (Bk ?_);refine Au (fun nn σ' ds' h'=>∃(k:Nat) (pc:AQ) (X:Nat→Prop),nn=((gs.getD i Good.z).high-(gs.getD i Good.z).low+1-(k:Int)).toNat∧((k:Int)≤(gs.getD i Good.z).high-(gs.getD i Good.z).low+1)∧(BZ pc)∧(∀n,pc.setFirst i n=p.setFirst i n)∧ds'=[]∧Ff hB I X0 h (pre++(Be (gs.getD i Good.z).low k).flatMap (fun n=>A6 (A2 d gs.length ms cs) gs ms mo f' (i+1) (p.setFirst i n))) X h'∧σ' 1=.int .i64 (i:Int)∧σ' 2=.pointer (some ⟨rb,0,none⟩)∧σ' 4=.pointer (some ⟨rgd,0,none⟩)∧σ' 5=.pointer (some ⟨r4,0,none⟩)∧σ' 8=.int .i64 ((gs.getD i Good.z).low+(k:Int))∧h' ry=some (true,.cells #[yv] 138 (0,0))∧¬X ry∧h' rmv=some (true,.cells #[.func (.func 149) #[] #[.pointer (some ⟨rb,0,none⟩),.pointer (some ⟨ry,0,none⟩),.pointer (some ⟨rmv,0,none⟩),.pointer (some ⟨rmo,0,none⟩)]] 181 (0,0))∧¬X rmv∧h' rgd=some (true,.cells #[.func (.func 148) #[] #[.pointer (some ⟨rb,0,none⟩),.pointer (some ⟨rmv,0,none⟩),.pointer (some ⟨rgd,0,none⟩)]] 181 (0,0))∧¬X rgd∧h' r4=some (true,.cells (Ag pc) 119 (0,0))∧¬X r4) ⟨0,p,X0,Z,(by omega),(by exact hp),(by intros;rfl),Z,(by have e:pre++(Be (gs.getD i Good.z).low 0).flatMap (fun n=>A6 (A2 d gs.length ms cs) gs ms mo f' (i+1) (p.setFirst i n))=pre:=(by simp [Be]);rw [e];exact aa),Z,Z,Z,Z,(Et (b:=(.int .i64 ((gs.getD i Good.z).low):Value)) Z (by congr 1;omega)),(ac.keep hry Z),nry,(ac.keep hrmv Z),nrmv,(ac.keep hrgd Z),nrgd,bs,(hP.off br.inv am)⟩ (fun nn _ _ _ ba=>?_);obtain ⟨k,pc,_,rfl,hk,hpk,hpc,bx,ax,ay,bt,bu,bb,bc,bz,bd,b0,be,b1,bf,b2,bg⟩:=ba;subst bx;refine Sq (Sq (Rg ?_));refine Mv (.int .i64 ((gs.getD i Good.z).low+(k:Int))) Z bc ?_;refine Fa Fx.fld104_0 Z bt ?_;refine Fa Fx.fld26_2 Z Z ?_;refine Ld gsv Z Z (Bd (o:=2) Fx.ty22 (hrb.le ax.base) Z) ?_;refine Mv (.int .i64 (i:Int)) Z ay ?_;have bh:(0:Int)≤(i:Int):=by omega
  have bi:(i:Int)<((gs.length:Nat):Int):=by omega
  refine Pl Z (A0 Fx.esz22 hgs Z Z bh bi fun b3 av bj=>?_);have bk:Aa _ b3 av 5 (A9 (gs.getD i Good.z)):=Aa.getD Good.z bj;refine Fa Fx.fld99_3 Z Z ?_;refine Fa Fx.fld31_1 Z Z ?_;refine Ld (.int .i64 ((gs.getD i Good.z).high)) Z Z (Bd (o:=4) Fx.ty3 (bk.le ax.base) Z) ?_;refine Pl Z (C2 (a:=(gs.getD i Good.z).low+(k:Int)) (b:=(gs.getD i Good.z).high) Z Z ?_);refine Nl ?_;refine AX (p:=((gs.getD i Good.z).low+(k:Int))≤((gs.getD i Good.z).high)) Z (fun bl=>?_) (fun bl=>?_)
  ·refine Sk (Sq (Bk (Sq (Rg ?_))));refine Mv (.int .i64 (i:Int)) Z ay ?_;refine Mv (.int .i64 ((gs.getD i Good.z).low+(k:Int))) Z bc ?_;refine Fa Fx.fld119_0 Z bb ?_;have bm:(0:Int)≤(i:Int):=by omega
   have bn:(i:Int)<((3:Nat):Int):=by omega
   refine Pl Z (CV Fx.asz115 Z Z bm bn ?_);refine Pl Z (AG (v:=.int .i64 ((gs.getD i Good.z).low+(k:Int))) (c':=Ag (pc.setFirst i ((gs.getD i Good.z).low+(k:Int)))) Fx.ty3 Z Z b2 Z Z (by show _≤15;omega) (Jy (i:=i) (by omega)) fun _ aj af=>?_);refine Nl (Sq (Rg ?_));have ag:=(af _ a4).trans b1;refine Ld (.func (.func 148) #[] #[.pointer (some ⟨rb,0,none⟩),.pointer (some ⟨rmv,0,none⟩),.pointer (some ⟨rgd,0,none⟩)]) Z bu (Rd.one Fx.ty181 ag Z) ?_;refine Ld (.agg (Ag (pc.setFirst i ((gs.getD i Good.z).low+(k:Int))))) Z bb (AL Fx.ty119 (Bx aj Z)) ?_;refine Mv (.int .i64 (i:Int)) Z ay ?_;refine Ad (i:Int) 1 Z Z Z (by omega) ?_;have ah:=Ff.store hP ax am (Ln hBh am) bg af;have ak:=(af _ a2).trans bz;have al:=(af _ a3).trans b0;refine Pl Z (En (vs:=#[.agg (Ag (pc.setFirst i ((gs.getD i Good.z).low+(k:Int)))),.int .i64 ((i:Int)+1),.pointer (some ⟨rb,0,none⟩),.pointer (some ⟨rmv,0,none⟩),.pointer (some ⟨rgd,0,none⟩)]) Z Tryz.func148 Fx.call148 (by simp only [List.map_toArray,List.map_cons,List.map_nil,AT] <;> rfl) ((ih f' (by omega) (pc.setFirst i ((gs.getD i Good.z).low+(k:Int))) (i+1) ((i:Int)+1) (by omega) ah.base ah.inv ak bd al be ag bf (by omega) (by exact hpk.setFirst (by omega)) (by exact M4 hpc hw Z (by omega))).mono fun _ _ aw=>?_));have bv:=Ff.pass ah aw;obtain ⟨ad,b4,rfl,ab,ai,bo,bp⟩:=ah.call aw;refine Pl Z (Cl (b:=ad) Z ?_);refine Nl ?_;refine CN (t:= !ad) Z (fun ae=>?_) (fun ae=>?_)
   ·have hc98_y:ad=false:=by simpa using ae
    have hc98_:ad=false:=by simpa using ae
    refine Sq (Rg ?_);refine As (.bool false) Z Z ?_;refine Nl (Rt ?_);refine ⟨.inr Z,Ac Z (v:=.bool false) Z ?_⟩;exact Fh.stopped Z (bp hc98_y)
   ·have hc98_y:ad=true:=by simpa using ae
    have bq:=bo hc98_y;have hc98_:ad=true:=by simpa using ae
    refine Sk (Rg ?_);refine Mv (.int .i64 ((gs.getD i Good.z).low+(k:Int))) Z bc ?_;refine Ad ((gs.getD i Good.z).low+(k:Int)) 1 Z Z Z (by omega) ?_;refine As (.int .i64 (((gs.getD i Good.z).low+(k:Int))+1)) Z Z ?_;refine Nl ?_;exact ⟨_,by omega,k+1,pc.setFirst i ((gs.getD i Good.z).low+(k:Int)),b4,Z,(by omega),(by exact hpk.setFirst (by omega)),(by exact Sj hpc),Z,(by have e:pre++(Be (gs.getD i Good.z).low (k+1)).flatMap (fun n=>A6 (A2 d gs.length ms cs) gs ms mo f' (i+1) (p.setFirst i n))=(pre++(Be (gs.getD i Good.z).low k).flatMap (fun n=>A6 (A2 d gs.length ms cs) gs ms mo f' (i+1) (p.setFirst i n)))++(A6 (A2 d gs.length ms cs) gs ms mo f' (i+1) (pc.setFirst i ((gs.getD i Good.z).low+(k:Int)))):=(by exact Pf hpc Z);rw [e];exact bq),ay,bt,bu,bb,(Et (b:=(.int .i64 (((gs.getD i Good.z).low+(k:Int))+1):Value)) Z (by congr 1;omega)),(ai.box ak bd Z),(LY ab ak bd),(ai.box al be Z),(LY ab al be),(ai.box ag bf Z),(LY ab ag bf),(ai.box aj bg Z),(LY ab aj bg)⟩
  ·refine Xt (Sq (Rg ?_));refine As (.bool true) Z Z ?_;refine Nl (Rt ?_);refine ⟨.inr Z,Ac Z (v:=.bool true) Z ?_⟩;exact Ff.done (by have e:pre++(A6 (A2 d gs.length ms cs) gs ms mo (f'+1) i p)=pre++(Be (gs.getD i Good.z).low k).flatMap (fun n=>A6 (A2 d gs.length ms cs) gs ms mo f' (i+1) (p.setFirst i n)):=(by (rw [CI,CJ.roundEnd (k:=k) ‹_› (by omega)]));rw [e];exact ax)
theorem O6 {W:Wk Tryz.prog} {hB:GH} {I:List AQ→(Nat→Prop)→GH→Prop} {Sp:GH→Prop} {all:List AQ} {d m:Int} {gs:List Good} {gsv:Value} {ms:List AB} {msv:Value} {cs:List AJ} {csv:Value} {rb rmo:Nat} {mo:Int} (yv:Value) (hP:Ge hB I) (hY:IF W hB yv Ag I Sp all) (hgs:AK hB gsv 5 A9 gs) (hms:AK hB msv 5 Aw ms) (hcs:AK hB csv 4 Ar cs) (hG:Cq hB) (hrb:Aa hB rb 0 5 #[.int .i64 d,.int .i64 m,gsv,msv,csv]) (hrmo:Aa hB rmo 0 1 #[.int .i64 mo]) (hbk:BL d m gs ms cs) (hmo:0≤mo∧mo≤99) {ry rmv rgd:Nat}:∀(f:Nat) {h:GH} {X0:Nat→Prop} {pre:List AQ} (p:AQ) (i:Nat) (iv:Int) (hi:iv=(i:Int)) (hBh:hB.Le h) (hI:I pre X0 h) (hry:h ry=some (true,.cells #[yv] 138 (0,0))) (nry:¬X0 ry) (hrmv:h rmv=some (true,.cells #[.func (.func 149) #[] #[.pointer (some ⟨rb,0,none⟩),.pointer (some ⟨ry,0,none⟩),.pointer (some ⟨rmv,0,none⟩),.pointer (some ⟨rmo,0,none⟩)]] 181 (0,0))) (nrmv:¬X0 rmv) (hrgd:h rgd=some (true,.cells #[.func (.func 148) #[] #[.pointer (some ⟨rb,0,none⟩),.pointer (some ⟨rmv,0,none⟩),.pointer (some ⟨rgd,0,none⟩)]] 181 (0,0))) (nrgd:¬X0 rgd) (hfi:i+f=gs.length) (hp:BZ p) (hw:CJ all pre (A6 (A2 d gs.length ms cs) gs ms mo f i p)),AZ W 148 #[.agg (Ag p),.int .i64 iv,.pointer (some ⟨rb,0,none⟩),.pointer (some ⟨rmv,0,none⟩),.pointer (some ⟨rgd,0,none⟩)] h (Fh hB I Sp pre X0 h (A6 (A2 d gs.length ms cs) gs ms mo f i p)):=by
 intro f
 induction f using Nat.strongRecOn with
 | ind f ih=>
  intro h X0 pre p i iv hi hBh hI hry nry hrmv nrmv hrgd nrgd hfi hp hw;exact QV yv hP hY hgs hms hcs hG hrb hrmo hbk hmo f ih p i iv hi hBh hI hry nry hrmv nrmv hrgd nrgd hfi hp hw
end Go.Ns
namespace Go.Ns
open Go.Conc Go.Proofs
attribute [local irreducible] BY DR Tr AZ CA Bp
theorem FZ {W:Wk Tryz.prog} {h:GH} {hB:GH} {I:List AQ→(Nat→Prop)→GH→Prop} {Sp:GH→Prop} {all:List AQ} {d m:Int} {gs:List Good} {gsv:Value} {ms:List AB} {msv:Value} {cs:List AJ} {csv:Value} {rb rmo:Nat} {mo:Int} (yv:Value) (hP:Ge hB I) (hY:IF W hB yv Ag I Sp all) (hgs:AK hB gsv 5 A9 gs) (hms:AK hB msv 5 Aw ms) (hcs:AK hB csv 4 Ar cs) (hG:Cq hB) (hrb:Aa hB rb 0 5 #[.int .i64 d,.int .i64 m,gsv,msv,csv]) (hrmo:Aa hB rmo 0 1 #[.int .i64 mo]) (hbk:BL d m gs ms cs) (hmo:0≤mo∧mo≤99) {X0:Nat→Prop} (hBh:hB.Le h) (hI:I [] X0 h) (hall:all=AP d gs ms cs mo):AZ W 147 #[yv,.pointer (some ⟨rb,0,none⟩),.pointer (some ⟨rmo,0,none⟩)] h (fun v h'=>Uq hB I Sp all X0 h h'):=by
 have a6:=Ff.start hI hBh;have hw:CJ all [] (A6 (A2 d gs.length ms cs) gs ms mo gs.length 0 AQ.zero):=⟨[],by rw [hall];simp [AP]⟩;have ay:=hgs.len;have az:=hms.len;have a0:=hcs.len;refine AN Tryz.func147 Z (Nb Z) ?_;refine Sq (Rg ?_);refine Pl Z (Am (v:=yv) (c:=#[yv]) Z hY.one fun r4 _ a8 af a7 _=>?_);refine Nl (Sq (Rg ?_));have ak:=Ff.le hP a6 af;refine Pl Z (Ab Fx.zero181 fun aj _ ag aa al _=>?_);have a1:r4≠aj:=B9 a7 ag;have am:=hP.off ak.inv ag;have an:=Ln af ag;have ao:=Ff.le hP ak aa;have ap:=aa.keep a7 Z;refine Pl Z (Ab Fx.zero181 fun ae _ ac ab a2 _=>?_);have a3:r4≠ae:=B9 ap ac;have aq:aj≠ae:=B9 al ac;have ar:=hP.off ao.inv ac;have au:=Ln (af.trans aa) ac;refine Nl (Sq (Rg ?_));refine Pl Z (E7 Z Z Z ?_);refine Pl Z (AG (v:=.func (.func 148) #[] #[.pointer (some ⟨rb,0,none⟩),.pointer (some ⟨ae,0,none⟩),.pointer (some ⟨aj,0,none⟩)]) (c':=#[.func (.func 148) #[] #[.pointer (some ⟨rb,0,none⟩),.pointer (some ⟨ae,0,none⟩),.pointer (some ⟨aj,0,none⟩)]]) Fx.ty181 Z Z (ab.keep al Z) Z Z (by simp) Z fun _ a4 ah=>?_);refine Nl (Sq (Rg ?_));refine Pl Z (Mt Z Z Z Z ?_);refine Pl Z (AG (v:=.func (.func 149) #[] #[.pointer (some ⟨rb,0,none⟩),.pointer (some ⟨r4,0,none⟩),.pointer (some ⟨ae,0,none⟩),.pointer (some ⟨rmo,0,none⟩)]) (c':=#[.func (.func 149) #[] #[.pointer (some ⟨rb,0,none⟩),.pointer (some ⟨r4,0,none⟩),.pointer (some ⟨ae,0,none⟩),.pointer (some ⟨rmo,0,none⟩)]]) Fx.ty181 Z Z ((ah _ (Ne.symm aq)).trans a2) Z Z (by simp) Z fun _ a5 ai=>?_);refine Nl (Rg ?_);have av:=(ai _ aq).trans a4;refine Ld (.func (.func 148) #[] #[.pointer (some ⟨rb,0,none⟩),.pointer (some ⟨ae,0,none⟩),.pointer (some ⟨aj,0,none⟩)]) Z Z (Rd.one Fx.ty181 av Z) ?_;refine Pl Z (Ap (cells:=#[.int .i64 0,.int .i64 0,.int .i64 0,.int .i64 0,.int .i64 0,.int .i64 0,.int .i64 0,.int .i64 0,.int .i64 0,.bool false,.bool false,.bool false,.bool false,.bool false,.bool false]) Fx.pl119 Fx.zero119 (by kernel_rfl) ?_);have ad:=(Ff.store hP (Ff.store hP (Ff.le hP ao ab) an (Ln hBh an) am ah) au (Ln hBh au) ar ai);refine Pl Z (En (vs:=#[.agg #[.int .i64 0,.int .i64 0,.int .i64 0,.int .i64 0,.int .i64 0,.int .i64 0,.int .i64 0,.int .i64 0,.int .i64 0,.bool false,.bool false,.bool false,.bool false,.bool false,.bool false],.int .i64 0,.pointer (some ⟨rb,0,none⟩),.pointer (some ⟨ae,0,none⟩),.pointer (some ⟨aj,0,none⟩)]) Z Tryz.func148 Fx.call148 (by simp only [List.map_toArray,List.map_cons,List.map_nil,AT] <;> rfl) ((O6 (X0:=_) yv hP hY hgs hms hcs hG hrb hrmo hbk hmo gs.length AQ.zero 0 0 Z ad.base ad.inv ((ai _ a3).trans ((ah _ a1).trans (ab.keep ap Z))) (hP.off a6.inv a8) a5 ar av am (by omega) BZ.zero hw).mono fun _ _ aw=>?_));have ax:=Ff.pass ad aw;obtain ⟨_,_,rfl,_⟩:=ad.call aw;refine Nl ?_;refine ⟨.inl Z,Fi Z ?_⟩;have e:all=A6 (A2 d gs.length ms cs) gs ms mo gs.length 0 AQ.zero:=hall;rw [e];rw [e] at hY;exact Fh.final ax
theorem F7 {W:Wk Tryz.prog} {h:GH} (d:Int) (m:Int) (gs:List Good) (gsv:Value) (ms:List AB) (msv:Value) (cs:List AJ) (csv:Value) (mo:Int) (hgs:AK h gsv 5 A9 gs) (hms:AK h msv 5 Aw ms) (hcs:AK h csv 4 Ar cs):AZ W 120 #[.agg #[.int .i64 d,.int .i64 m,gsv,msv,csv],.int .i64 mo] h (fun v h'=>∃(rb:Nat) (rmo:Nat),v=(.func (.func 147) #[] #[.pointer (some ⟨rb,0,none⟩),.pointer (some ⟨rmo,0,none⟩)]:Value)∧(h rb=none∧Aa h' rb 0 5 #[.int .i64 d,.int .i64 m,gsv,msv,csv])∧(h rmo=none∧Aa h' rmo 0 1 #[.int .i64 mo])∧h.Le h'):=by
 have ac:=hgs.len;have ad:=hms.len;have ae:=hcs.len;refine AN Tryz.func120 Z (Nb Z) ?_;refine Sq (Rg ?_);refine Pl Z (Am (v:=.agg #[.int .i64 d,.int .i64 m,gsv,msv,csv]) (c:=#[.int .i64 d,.int .i64 m,gsv,msv,csv]) Z Z fun r4 _ ai ab aj _=>?_);refine Pl Z (Am (v:=.int .i64 mo) (c:=#[.int .i64 mo]) Z Z fun af _ ag aa ah _=>?_);refine As (.nilFunc) Z Z ?_;refine Nl (Sq (Rg ?_));refine Pl Z (EI Z Z ?_);refine As (.func (.func 147) #[] #[.pointer (some ⟨r4,0,none⟩),.pointer (some ⟨af,0,none⟩)]) Z Z ?_;refine Nl (Rt ?_);refine ⟨.inr Z,Ac Z (v:=.func (.func 147) #[] #[.pointer (some ⟨r4,0,none⟩),.pointer (some ⟨af,0,none⟩)]) Z ?_⟩;exact ⟨r4,af,(by rfl),⟨Ln Lr ai,(Bx (aa.keep aj Z) Z)⟩,⟨Ln ab ag,(Bx ah Z)⟩,(ab.trans aa)⟩
theorem Fb {W:Wk Tryz.prog} {h:GH} (d:Int) (m:Int) (gs:List Good) (gsv:Value) (ms:List AB) (msv:Value) (cs:List AJ) (csv:Value) (hgs:AK h gsv 5 A9 gs) (hms:AK h msv 5 Aw ms) (hcs:AK h csv 4 Ar cs) (hG:Cq h) (hbk:BL d m gs ms cs):AZ W 105 #[.agg #[.int .i64 d,.int .i64 m,gsv,msv,csv]] h (fun v h'=>∃(w:Value),v=(w:Value)∧AU h h' w 119 15 Ag (AP d gs ms cs m)∧h.Le h'):=by
 have hhl:=DY hbk m;have hmo:=hbk.most;have b4:=hgs.len;have b5:=hms.len;have b6:=hcs.len;refine AN Tryz.func105 Z (Nb Z) ?_;refine Sq (Rg ?_);refine Pl Z (Am (v:=.agg #[.int .i64 d,.int .i64 m,gsv,msv,csv]) (c:=#[.int .i64 d,.int .i64 m,gsv,msv,csv]) Z Z fun _ _ cx a7 cy _=>?_);refine As (.slice none 0 0) Z Z ?_;refine Nl (Sq (Rg ?_));refine Pl Z (Ab Fx.zero105 fun ae _ b7 ao a1 _=>?_);refine Nl (Sq (Sq (Rg ?_)));have a8:=ao.keep cy Z;refine Ld (.agg #[.int .i64 d,.int .i64 m,gsv,msv,csv]) Z Z (AL Fx.ty104 (Bx a8 Z)) ?_;refine Fa Fx.fld104_0 Z Z ?_;refine Fa Fx.fld26_1 Z Z ?_;refine Ld (.int .i64 m) Z Z (Rd.one Fx.ty3 a8 Z) ?_;have an:=a7.trans ao;refine Pl Z (AW Tryz.func120 Fx.call120 Z Z ((F7 d m gs gsv ms msv cs csv m (hgs.le an) (hms.le an) (hcs.le an) ).mono fun _ ap b8=>?_));obtain ⟨a9,aq,rfl,ct,cu,ar⟩:=b8;have b9:ae≠a9:=B9 a1 ct.1;have ca:ae≠aq:=B9 a1 cu.1;refine Nl (Bk ?_);have cb:=Ln a7 b7;have ad:=GH.Le.del (an.trans ar) cb;have cc:=hgs.le ad;have cd:=hms.le ad;have ce:=hcs.le ad;have cf:=hG.le ad;have cg:=Aa.del (ct.2) (Ne.symm b9);have ch:=Aa.del (cu.2) (Ne.symm ca);refine Ki (enc:=Ag) (all:=AP d gs ms cs m) (hB:=(GH.del ap ae)) (J:=(UB (GH.del ap ae) ae 105 119 15 Ag)) (Stop:=(fun _ _=>False)) Z Z (MK _ _ _ _ _ _) (GH.del_le ap ae) (Pg (ar.keep a1 Z) (GH.del_none ap ae)) (by intro _ _ _ _ _ q;exact q.elim) ?_ ?_ ?_
 ·intro yv I Sp X hh yk lBh cz;exact NA Z (Bs (first:=#[]) (cap:=#[.pointer (some ⟨a9,0,none⟩),.pointer (some ⟨aq,0,none⟩)]) Tryz.func147 Fx.call147 Z (FZ yv yk.prom yk cc cd ce cf cg ch hbk (by omega) lBh cz Z))
 ·intro b2 _ _ ba a6 _ c0 _ a2 cv a3 bb bc ah;have a4:LT (GH.del ap ae) (fun b=>c0 b∨b=b2) _ _:=LT.start a3 (by
   rintro b (q | rfl)
   ·obtain ⟨p,o,q1,_⟩:=(MK _ _ _ _ _ _).dom _ _ _ b cv q;exact ⟨_,q1⟩
   ·exact ⟨_,ah⟩)
  obtain ⟨ci,bd,be,bf,_,ai⟩:=cv;have bg:ae≠b2:=fun q=>bc ((ai _).2 (.inl q.symm));have bh:BG ci b2:=fun q=>bc ((ai _).2 (.inr q));refine Rg ?_;refine Pl Z (Ab Fx.zero119 fun b3 c1 ag ab cj _=>?_);have ck:c1 b3=some (true,.cells (Ag AQ.zero) 119 (0,0)):=cj;have cl:ae≠b3:=B9 bd ag;have bi:b2≠b3:=B9 ah ag;have cm:BG ci b3:=BG.new be ag;have cn:=a4.nothing ag;have co:=Ln a4.base ag;refine Pl Z (AG (v:=.agg (Ag a6)) (c':=Ag a6) Fx.ty119 Z Z ck (Gh _) (Gi _) (Hc _) (Hd _ _) fun _ bj aj=>?_);refine Nl ?_;refine ⟨Z,((aj _ bi).trans (ab.keep ah Z)),fun _ bk ak=>?_⟩;refine Bk (Rg ?_);have bl:=((ak _ bg).trans ((aj _ cl).trans (ab.keep bd Z)));refine Ld ci Z Z (Rd.one Fx.ty105 bl Z) ?_;refine Ld (.agg (Ag a6)) Z Z (AL Fx.ty119 (Bx ((ak _ (Ne.symm bi)).trans bj) Z)) ?_;refine Pl Z (Ah (cells:=Ag a6) Fx.sel105 (by decide) (by decide) (by kernel_rfl) fun _ _ cp ac bm _=>?_);have bn:=AU.built (enc:=Ag) (xs:=[a6]) (n:=15) cp bm Z Z (by intro x hx;rfl) Z;have au:=(LT.le (LT.store (LT.store (LT.le a4 ab) (.inr cn) co aj ⟨_,bj⟩) (.inl (.inr Z)) bb ak ⟨_,bk⟩) ac);have av:=((((be.le ab).stored cm aj).stored bh ak).le ac);have aw:=(((a3.trans ab).upd (Ln a3 ag) aj).upd (Ln Lr bb) ak).trans ac;have ax:=ac.keep bl Z;refine Pl Z (CG (h0:=(GH.del ap ae)) Fx.app105_105 Z Z av (bn.sl) (fun _ q=>Ln aw q) (by have e:=UA a2 hhl;simp only [List.length_singleton];omega) (by intro y hy;rfl) fun a5 _ ay aa=>?_);have az:BG a5 ae:=BG.grown aa ax bf;have al:=AK.one (ay.sl);refine Pl Z (AG (v:=a5) (c':=#[a5]) Fx.ty105 Z Z (CS aa ax bf) (EN al) (EM al) (by simp) (FR al Z) fun _ bo af=>?_);refine Nl ?_;have bp:=((af _ (Ne.symm bg)).trans (CS aa (ac.keep bk Z) bh));have bq:=(GH.Le.grown aa aw fun b e=>Ln Lr (av.fresh b e)).upd (Ln Lr (GH.del_none ap ae)) af;obtain ⟨Y2,c2,c3⟩:=So (pre:=ba++[a6]) ai aa (fun _ q=>au.nothing q) bo (ay.stored az af) az (GH.del_none ap ae);exact ⟨bp,Y2,c2,(BU.store' (BU.app au.keep aa (fun b q=>.inl ((ai b).2 (.inr q)))) (.inl (.inl ((ai _).2 (.inl Z)))) af),bq,c3⟩
 ·intro cq _ _ br bs _ _ bt;have lE:=ad.trans br;refine ⟨?_,?_⟩
  ·intro _ cr bu;have cw:=Ln Lr cx;obtain ⟨am,bv,bw,_,_,bx⟩:=cr;have bz:BG am cq:=fun q=>bu _ ((bx _).2 (.inr q)) Z;have b0:=Ln ad bs;refine Sq (Rg ?_);refine Ld am Z Z (Rd.one Fx.ty105 bv Z) ?_;refine As am Z Z ?_;refine Nl (Rt ?_);refine ⟨.inr Z,JN bt fun _ a0=>?_⟩;refine Ac Z (v:=am) Z ?_;exact ⟨am,(by rfl),((bw.base ad).stored bz a0),(lE.upd (Ln Lr b0) a0)⟩
  ·intro _ b1;exact b1.elim
end Go.Ns
