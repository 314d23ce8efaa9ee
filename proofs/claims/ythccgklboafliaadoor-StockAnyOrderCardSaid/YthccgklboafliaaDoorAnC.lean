/- Rules and walks, part 3 of 6. No conditions. -/
import Derived.Carry
import Derived.Conc.LeavingOf
import Derived.LaidMore
import Derived.OpenShut
import Derived.ProofKit
import Derived.Test.YthccgklboafliaaDoorAnA
import Derived.Test.YthccgklboafliaaDoorAnB
import Derived.Test.YthccgklboafliaaDoorProg
set_option linter.unusedVariables false
set_option linter.unusedSimpArgs false
set_option linter.unnecessarySimpa false
set_option linter.unusedSectionVars false
namespace Go.Ns
open Go.Conc
section
variable {P:Program} {E:FL P} {σ:Nat→Value} {ds:List Deferred} {h:GH} {T:(Nat→Value)→List Deferred→GH→Prop} {dst:Option Nat} {ty:TypeId} {pos:String} {af:Array Edge} {gd:Option (Nat×Bool)}
theorem QB {s:ByteArray} {i:Nat} (h:i<s.size):((s[i]'h).toNat:Int)=(bytesOf s).getD i 0:=by
 have h2:i<(bytesOf s).length:=by rw [CE];exact h
 rw [C6 0 h2];exact (List.getElem_map (l:=s.data.toList) (f:=fun b=>(b.toNat:Int)) (h:=h2)).symm
theorem LC {t:TypeId} {x ix:Operand} {s:ByteArray} {kd:IntKind} {i:Int} (ht:KM P t=true) (hx:AQ σ x=.string s) (hi:AQ σ ix=.int kd i) (h0:0≤i) (h1:i<s.size) (k:T (putS σ dst (.int .u8 ((bytesOf s).getD i.toNat 0))) ds h) :
  BW E ⟨dst,.index t x ix,ty,pos,af,gd⟩ σ ds h T:=L6 ht hx hi h0 h1 (by rw [QB];exact k)
end
theorem Ok {s:ByteArray} (h:¬(1≤(s.size:Int)∧(s.size:Int)≤10)):C2 s=false:=by unfold C2;rw [decide_eq_false h,Bool.and_false]
def C0 (d:Int) (gs:List Good) (c:AE):Int:=if¬(0≤c.good∧c.good≤(gs.length:Int)-1) then 6 else if¬(0≤c.day∧c.day≤d)∨¬((0≤c.low∧c.low≤c.high)∧c.high≤999) then 1 else 0
section
variable {d m:Int} {gs:List Good} {ms:List AB} {cs:List AE}
theorem Ft:AV d m gs ms cs=if DS d m=0 then (if BF gs=0 then (if A7 d gs ms=0 then (if Bt d gs cs=0 then 0 else Bt d gs cs) else A7 d gs ms) else BF gs) else DS d m:=rfl
theorem V2 (h:¬(1≤d∧d≤99)∨¬(0≤m∧m≤2)):AV d m gs ms cs=1:=by
 have e:DS d m=1:=if_pos h;rw [Ft,e,if_neg (by decide)]
theorem TL (h:(1≤d∧d≤99)∧(0≤m∧m≤2)):DS d m=0:=if_neg (by omega)
theorem V3 (h0:(1≤d∧d≤99)∧(0≤m∧m≤2)) (h:¬BF gs=0):AV d m gs ms cs=BF gs:=by rw [Ft,if_pos (TL h0),if_neg h]
theorem V4 (h0:(1≤d∧d≤99)∧(0≤m∧m≤2)) (h:¬¬BF gs=0) (h2:¬A7 d gs ms=0):AV d m gs ms cs=A7 d gs ms:=by rw [Ft,if_pos (TL h0),if_pos (Decidable.not_not.1 h),if_neg h2]
theorem Vc (h0:(1≤d∧d≤99)∧(0≤m∧m≤2)) (h:¬¬BF gs=0) (h2:¬¬A7 d gs ms=0) {c:Int} (h3:Bt d gs cs=c):AV d m gs ms cs=c:=by
 rw [Ft,if_pos (TL h0),if_pos (Decidable.not_not.1 h),if_pos (Decidable.not_not.1 h2),h3];by_cases e:c=0
 ·rw [if_pos e,e]
 ·rw [if_neg e]
theorem QC (h:(4:Int)<cs.length):Bt d gs cs=2:=if_pos h
theorem QD {k:Nat} (h:¬(4:Int)<cs.length) (hs:∀j,j<k→DQ d gs cs j=0) (hk:k<cs.length) (e:¬C0 d gs (cs.getD k AE.z)=0):Bt d gs cs=C0 d gs (cs.getD k AE.z):=by
 unfold Bt;rw [if_neg h];exact BE hs hk rfl e
theorem QE {k:Nat} (h:¬(4:Int)<cs.length) (hs:∀j,j<k→DQ d gs cs j=0) (hk:cs.length≤k):Bt d gs cs=0:=by
 unfold Bt;rw [if_neg h];exact B5 hs hk
theorem LD {k:Nat} (h:0<k):Cj ms k=(ms.getD ((k:Int)-1).toNat AB.z).day:=by
 unfold Cj;rw [if_neg (by omega),show ((k:Int)-1).toNat=k-1 by omega]
theorem V5 {k:Nat} (h:(ms.getD k AB.z).kind<0∨4<(ms.getD k AB.z).kind):CX d gs ms k=1:=by unfold CX;rw [if_pos (by omega)]
theorem V6 {k:Nat} (h0:¬((ms.getD k AB.z).kind<0∨4<(ms.getD k AB.z).kind)) (h:¬(0≤(ms.getD k AB.z).good∧(ms.getD k AB.z).good≤(gs.length:Int)-1)):CX d gs ms k=6:=by unfold CX;rw [if_neg (by omega),if_pos h]
theorem V7 {k:Nat} (h0:¬((ms.getD k AB.z).kind<0∨4<(ms.getD k AB.z).kind)) (h1:¬¬(0≤(ms.getD k AB.z).good∧(ms.getD k AB.z).good≤(gs.length:Int)-1)) (h:¬(1≤(ms.getD k AB.z).day∧(ms.getD k AB.z).day≤d)):CX d gs ms k=1:=by
 unfold CX;rw [if_neg (by omega),if_neg h1,if_pos h]
theorem V8 {k:Nat} (h0:¬((ms.getD k AB.z).kind<0∨4<(ms.getD k AB.z).kind)) (h1:¬¬(0≤(ms.getD k AB.z).good∧(ms.getD k AB.z).good≤(gs.length:Int)-1)) (h2:¬¬(1≤(ms.getD k AB.z).day∧(ms.getD k AB.z).day≤d)) (hk:(0:Int)<(k:Int))
  (h:(ms.getD k AB.z).day<(ms.getD ((k:Int)-1).toNat AB.z).day):CX d gs ms k=7:=by
 unfold CX;rw [if_neg (by omega),if_neg h1,if_neg h2,LD (by omega),if_pos h]
theorem Vu {k:Nat} (h0:¬((ms.getD k AB.z).kind<0∨4<(ms.getD k AB.z).kind)) (h1:¬¬(0≤(ms.getD k AB.z).good∧(ms.getD k AB.z).good≤(gs.length:Int)-1)) (h2:¬¬(1≤(ms.getD k AB.z).day∧(ms.getD k AB.z).day≤d)) {c:Int}
  (h3:(0:Int)<(k:Int)→¬(ms.getD k AB.z).day<(ms.getD ((k:Int)-1).toNat AB.z).day) (h4:(if¬CP (ms.getD k AB.z).low (ms.getD k AB.z).high then (1:Int) else 0)=c):CX d gs ms k=c:=by
 have e:¬(ms.getD k AB.z).day<Cj ms k:=by
  by_cases hk:0<k
  ·rw [LD hk];exact h3 (by omega)
  ·have:=Decidable.not_not.1 h2
   unfold Cj;rw [if_pos (by omega)];omega
 unfold CX;rw [if_neg (by omega),if_neg h1,if_neg h2,if_neg e,h4]
theorem V9 {k:Nat} (h:C2 (gs.getD k Good.z).name=false):C3 gs k=4:=by unfold C3;rw [if_pos h]
theorem WA {k j:Nat} (h0:C2 (gs.getD k Good.z).name=true) (hj:(j:Int)<(k:Int)) (hk:(k:Int)<gs.length) (h:((gs.getD j Good.z).name.toList==(gs.getD k Good.z).name.toList)=true):C3 gs k=5:=by
 unfold C3;rw [if_neg (by rw [h0];decide),if_pos];rw [List.any_eq_true];refine ⟨gs.getD j Good.z,?_,h⟩;rw [C6 Good.z (show j<gs.length by omega)];exact List.mem_take_iff_getElem.2 ⟨j,by omega,rfl⟩
theorem Vv {k j:Nat} (h0:C2 (gs.getD k Good.z).name=true) (hj:j≤k) (hj':¬(j:Int)<(k:Int)) (h:(gs.take j).any (fun x=>x.name.toList==(gs.getD k Good.z).name.toList)=false) {c:Int}
  (hc:(if (¬(0≤(gs.getD k Good.z).cost∧(gs.getD k Good.z).cost≤999)∨¬(1≤(gs.getD k Good.z).pack∧(gs.getD k Good.z).pack≤20))∨¬CP (gs.getD k Good.z).low (gs.getD k Good.z).high then (1:Int) else 0)=c):C3 gs k=c:=by
 obtain rfl:j=k:=by omega
 unfold C3;rw [if_neg (by rw [h0];decide),if_neg (by rw [h];decide),hc]
def Da (gs:List Good) (ms:List AB) (cs:List AE):Bool:=decide ((20:Int)<gs.length) || decide ((20:Int)<ms.length) || decide ((20:Int)<cs.length) || gs.any fun x=>decide ((100:Int)<x.name.size)
theorem Rx (h:((20:Int)<gs.length∨(20:Int)<ms.length)∨(20:Int)<cs.length):Da gs ms cs=true:=by
 unfold Da;rcases h with (h | h) | h <;> simp [h]
theorem Ry {k:Nat} (hk:k<gs.length) (h:(100:Int)<(gs.getD k Good.z).name.size):Da gs ms cs=true:=by
 unfold Da;rw [Bool.or_eq_true];right;rw [List.any_eq_true];exact ⟨_,Co hk,decide_eq_true h⟩
theorem Rz {k:Nat} (h:¬(20:Int)<gs.length) (h2:¬(20:Int)<ms.length) (h3:¬(20:Int)<cs.length) (hk:gs.length≤k) (hs:∀j,j<k→¬(100:Int)<(gs.getD j Good.z).name.size):Da gs ms cs=false:=by
 unfold Da;rw [decide_eq_false h,decide_eq_false h2,decide_eq_false h3];simp only [Bool.false_or];rw [List.any_eq_false];intro x hx;obtain ⟨i,hi,rfl⟩:=List.getElem_of_mem hx
 have:=hs i (by omega)
 rw [C6 Good.z hi] at this;simpa using this
theorem Ol (h:Da gs ms cs=false):∀k,(gs.getD k Good.z).name.size≤1000:=by
 unfold Da at h;rw [Bool.or_eq_false_iff] at h;intro k;by_cases hk:k<gs.length
 ·have:=List.any_eq_false.1 h.2 _ (Co (d:=Good.z) hk)
  have:=of_decide_eq_false (Bool.eq_false_iff.2 this)
  omega
 ·rw [Cp (by omega)];decide
theorem I4 (h:(!Da gs ms cs)=true):∀k,(gs.getD k Good.z).name.size≤1000:=Ol (by simpa using h)
def QF (d m:Int) (gs:List Good) (ms:List AB) (cs:List AE):Bool:= !Da gs ms cs && decide (AV d m gs ms cs=0)
end
theorem BY.cons {h:GH} {l:List Sl} {v:Value} {xs:List Int} (a:AO h v 1 eI xs) (b:BY h l):BY h ((v,xs) ::l):=fun k=>by
 cases k with
 | zero=>exact a
 | succ k=>exact b k
theorem QG {a b:List Sl} {k:Nat} (h:(Bl a).take k=(Bl b).take k) (ha:k<a.length) (hb:k<b.length) (e:(a.getD k Sl.z).2=(b.getD k Sl.z).2):(Bl a).take (k+1)=(Bl b).take (k+1):=
 Ke [] h (by rw [CU];exact ha) (by rw [CU];exact hb) (by rw [EB ha,EB hb,e])
theorem R0 {a b:List Sl} {k:Nat} (h:(Bl a).take k=(Bl b).take k) (hk:¬(k:Int)<a.length) (hl:(a.length:Int)=b.length):Bl a=Bl b:=by
 rw [List.take_of_length_le (by rw [CU];omega),List.take_of_length_le (by rw [CU];omega)] at h;exact h
theorem TM {a b:List Sl} (h:¬(a.length:Int)=b.length):¬Bl a=Bl b:=fun e=>h (by rw [←CU,←CU,e])
theorem QH {a b:List Sl} {k:Nat} (ha:k<a.length) (hb:k<b.length) (e:¬(a.getD k Sl.z).2=(b.getD k Sl.z).2):¬Bl a=Bl b:=fun q=>e (by rw [←EB ha,←EB hb,q])
end Go.Ns
namespace Go.Ns
open Go.Conc
def Cl:List Good:=[⟨⟨#[116,101,97]⟩,5,4,3,3⟩,⟨⟨#[114,105,99,101]⟩,2,10,5,6⟩]
def Cr:List AB:=[⟨0,0,2,4,4⟩,⟨1,0,3,2,3⟩,⟨2,1,4,0,1⟩,⟨0,1,5,10,10⟩]
def Cs:List AE:=[⟨0,10,4,5⟩,⟨1,10,5,5⟩]
theorem DI:∀k,(Cl.getD k Good.z).name.size≤1000
 | 0=>by decide
 | 1=>by decide
 | k+2=>by rw [Cp (by simp [Cl])];decide
theorem Om {v0 v1:Value} (h0:v0.cells=#[v0]) (h1:v1.cells=#[v1]):Instr.fill (fun i=>some (i*1,1)) ((Array.range (2*1)).map (#[Value.slice none 0 0][·% #[Value.slice none 0 0].size]!)) [(0,v0),(1,v1)]=some #[v0,v1]:=by
 have e:((Array.range (2*1)).map (#[Value.slice none 0 0][·% #[Value.slice none 0 0].size]!))=#[Value.slice none 0 0,Value.slice none 0 0]:=by kernel_rfl
 rw [e];simp [Instr.fill,h0,h1]
theorem TN {v0 v1 v2 v3 v4 v5 v6:Value} (h0:v0.cells=#[v0]) (h1:v1.cells=#[v1]) (h2:v2.cells=#[v2]) (h3:v3.cells=#[v3]) (h4:v4.cells=#[v4]) (h5:v5.cells=#[v5]) (h6:v6.cells=#[v6]):Instr.fill (fun i=>some (i*1,1)) ((Array.range (7*1)).map (#[Value.slice none 0 0][·% #[Value.slice none 0 0].size]!)) [(0,v0),(1,v1),(2,v2),(3,v3),(4,v4),(5,v5),(6,v6)]=some #[v0,v1,v2,v3,v4,v5,v6]:=by
 have e:((Array.range (7*1)).map (#[Value.slice none 0 0][·% #[Value.slice none 0 0].size]!))=#[Value.slice none 0 0,Value.slice none 0 0,Value.slice none 0 0,Value.slice none 0 0,Value.slice none 0 0,Value.slice none 0 0,Value.slice none 0 0]:=by kernel_rfl
 rw [e];simp [Instr.fill,h0,h1,h2,h3,h4,h5,h6]
theorem AO.isSl {α:Type} {h:GH} {v:Value} {n:Nat} {enc:α→Array Value} {xs:List α} (x:AO h v n enc xs):∀k i,v≠.int k i:=by
 obtain ⟨a,cap,rfl,_⟩:=x;intro k i e;cases e
theorem AO.across {h h':GH} {v:Value} {xs:List Int} {r:Nat} {a b c:Value} {T:TypeId} (x:AO h v 1 eI xs) (hb:h r=some (true,.cells #[.int .i64 10,.int .i64 1,a,b,c] T (0,0))) (ho:∀y,y≠r→h' y=h y)
  (ha:∀k i,a≠.int k i) (hb':∀k i,b≠.int k i) (hc:∀k i,c≠.int k i) (hx:∀o,o<5→∃i:Fin xs.length,(o+i.val=0→xs[i.val]≠10)∧(o+i.val=1→xs[i.val]≠1)):AO h' v 1 eI xs:=by
 obtain ⟨ad,cap,hv,hcap,hm,he⟩:=x;refine ⟨ad,cap,hv,hcap,hm,fun i hi=>?_⟩;obtain ⟨y,off,h1,h2⟩:=he i hi;refine ⟨y,off,h1,h2.same (ho y ?_)⟩;rintro rfl;have key:∀j (hj:j<xs.length),off+j<5∧(#[Value.int .i64 10,.int .i64 1,a,b,c]:Array Value).extract (off+j) (off+j+1)=eI xs[j]:=fun j hj=>by
  obtain ⟨y2,off2,h3,h4⟩:=he j hj;rw [h1] at h3;simp only [Option.some.injEq,Addr.mk.injEq,and_true] at h3;obtain ⟨rfl,rfl⟩:=h3;obtain ⟨p,cc,t,f,q1,q2,q3⟩:=h4;rw [hb] at q1;simp only [Option.some.injEq,Prod.mk.injEq,Obj.cells.injEq] at q1;obtain ⟨_,rfl,_⟩:=q1;rw [Nat.mul_one] at q2 q3;exact ⟨by simp at q2;omega,q3⟩
 obtain ⟨⟨j,hj⟩,e0,e1⟩:=hx off (by have:=(key i hi).1;omega);obtain ⟨k1,k2⟩:=key j hj;simp only at e0 e1;generalize off+j=o at k1 k2 e0 e1;generalize xs[j]=z at k2 e0 e1
 have:o=0∨o=1∨o=2∨o=3∨o=4:=by omega
 rcases this with rfl | rfl | rfl | rfl | rfl
 ·have k3:(#[.int .i64 10]:Array Value)=#[.int .i64 z]:=k2;simp at k3;exact e0 rfl k3.symm
 ·have k3:(#[.int .i64 1]:Array Value)=#[.int .i64 z]:=k2;simp at k3;exact e1 rfl k3.symm
 ·have k3:(#[a]:Array Value)=#[.int .i64 z]:=k2;simp at k3;exact ha _ _ k3
 ·have k3:(#[b]:Array Value)=#[.int .i64 z]:=k2;simp at k3;exact hb' _ _ k3
 ·have k3:(#[c]:Array Value)=#[.int .i64 z]:=k2;simp at k3;exact hc _ _ k3
def D1 (d m:Int) (gs:List Good) (ms:List AB) (cs:List AE):Int:=if AV d m gs ms cs=0 then ((AM d gs ms cs m).length:Int) else 0
end Go.Ns
namespace Go.Ns
open Go.Conc
section
variable {P:Program} {E:FL P} {σ:Nat→Value} {ds:List Deferred} {h:GH} {T:(Nat→Value)→List Deferred→GH→Prop} {dst:Option Nat} {ty:TypeId} {pos:String} {af:Array Edge} {gd:Option (Nat×Bool)}
end
section
variable {d m:Int} {gs:List Good} {ms:List AB} {cs:List AE} {f y l:List Int}
theorem U1 (h:QF d m gs ms cs=true):A9 d m gs ms cs∧∀k,(gs.getD k Good.z).name.size≤1000:=by
 unfold QF at h;rw [Bool.and_eq_true] at h;exact ⟨Gl (of_decide_eq_true h.2),I4 h.1⟩
end
end Go.Ns
namespace Go.Ns
open Go.Conc
section
variable {P:Program} {E:FL P} {σ:Nat→Value} {ds:List Deferred} {h:GH} {T:(Nat→Value)→List Deferred→GH→Prop} {dst:Option Nat} {ty:TypeId} {pos:String} {af:Array Edge} {gd:Option (Nat×Bool)}
end
end Go.Ns
namespace Go.Ns
open Go.Conc Go Go.RowKit
section
variable {d m:Int} {gs:List Good} {ms:List AB} {cs:List AE}
end
section
variable {P:Program} {E:FL P} {σ:Nat→Value} {ds:List Deferred} {h:GH} {T:(Nat→Value)→List Deferred→GH→Prop} {dst:Option Nat} {ty:TypeId} {pos:String} {af:Array Edge} {gd:Option (Nat×Bool)}
end
end Go.Ns
namespace Go.Ns
open Go.Conc Go Go.RowKit
theorem Ek {p q:AL}:∀{n:Nat},(∀k,k<n→p.lies k=q.lies k)→Am p n=Am q n
 | 0,_=>rfl
 | n+1,h=>by unfold Am;rw [Ek fun k hk=>h k (by omega),h n (by omega)]
theorem Gz (p:AL):∀{i n:Nat},i≤n→Am p i≤Am p n
 | i,0,h=>by rw [show i=0 by omega];exact Nat.le_refl _
 | i,n+1,h=>by
  by_cases e:i=n+1
  ·rw [e];exact Nat.le_refl _
  ·have:=Gz p (i:=i) (n:=n) (by omega)
   have h2:Am p (n+1)=Am p n+if p.lies n then 1 else 0:=rfl
   omega
theorem HU {p:AL}:∀{i n:Nat},(∀k,i≤k→k<n→p.lies k=false)→i≤n→Am p n=Am p i
 | i,0,_,h=>by rw [show i=0 by omega]
 | i,n+1,h0,h=>by
  by_cases e:i=n+1
  ·rw [e]
  ·have h2:Am p (n+1)=Am p n+if p.lies n then 1 else 0:=rfl
   rw [h2,h0 n (by omega) (by omega),HU (fun k hk hk'=>h0 k hk (by omega)) (by omega)];rfl
theorem Jp {p:AL} {i:Nat} {n:Int} (h:p.lies i=false):∀k,Am (p.setMove i n true) k=Am p k+if i<k then 1 else 0
 | 0=>rfl
 | k+1=>by
  have h1:Am (p.setMove i n true) (k+1)=Am (p.setMove i n true) k+if (p.setMove i n true).lies k then 1 else 0:=rfl
  have h2:Am p (k+1)=Am p k+if p.lies k then 1 else 0:=rfl
  have h3:(p.setMove i n true).lies k=if k=i then true else p.lies k:=rfl
  rw [h1,h2,h3,Jp h k];by_cases e:k=i
  ·subst e;have e3:¬k<k:=by omega
   have e4:k<k+1:=by omega
   simp [h,e3,e4]
  ·rw [if_neg e];by_cases e2:i<k
   ·have e4:i<k+1:=by omega
    simp only [e2,e4,if_true];omega
   ·have e4:¬i<k+1:=by omega
    simp only [e2,e4,if_false];omega
structure Jq (gs:List Good) (ms:List AB) (mo:Int) (p:AL):Prop where
 first:∀i,i<gs.length→(gs.getD i Good.z).low≤p.first i∧p.first i≤(gs.getD i Good.z).high
 many:∀i,i<ms.length→(ms.getD i AB.z).low≤p.many i∧p.many i≤(ms.getD i AB.z).high
 note:∀i,i<ms.length→p.lies i=true→Ck ms i=true
 few:(Am p ms.length:Int)≤mo
theorem F9 {ag:AL→Bool} {ms:List AB} {mo:Int} (h6:ms.length≤6):∀(f i:Nat) (p q:AL),i+f=ms.length→(∀k,i≤k→p.lies k=false)→(Am p 6:Int)≤mo→q ∈ Ak ag ms mo f i p→
  ag q=true∧q.first=p.first∧(∀k,k<i→q.many k=p.many k∧q.lies k=p.lies k)∧(∀k,i≤k→k<ms.length→(ms.getD k AB.z).low≤q.many k∧q.many k≤(ms.getD k AB.z).high∧(q.lies k=true→Ck ms k=true))∧(Am q 6:Int)≤mo
 | 0,i,p,q,e,_,hl,h=>by
  unfold Ak at h;split at h
  ·rename_i ha
   rw [List.mem_singleton] at h;subst h;exact ⟨ha,rfl,fun _ _=>⟨rfl,rfl⟩,fun k h1 h2=>by omega,hl⟩
  ·cases h
 | f+1,i,p,q,e,hz,hl,h=>by
  rw [B4,List.mem_flatMap] at h;obtain ⟨n,hn,h⟩:=h;rw [FI] at hn;have hlf:∀k,i+1≤k→(p.setMove i n false).lies k=false:=fun k hk=>by
   show (if k=i then false else p.lies k)=false;split
   ·rfl
   ·exact hz k (by omega)
  have hcf:Am (p.setMove i n false) 6=Am p 6:=Ek fun k _=>by
   show (if k=i then false else p.lies k)=p.lies k;split
   ·rename_i e2;rw [e2,hz i (Nat.le_refl _)]
   ·rfl
  unfold BG at h;rw [List.mem_append] at h;rcases h with h | h
  ·obtain ⟨a1,a2,a3,a4,a5⟩:=F9 h6 f (i+1) _ q (by omega) hlf (by rw [hcf];exact hl) h;refine ⟨a1,a2,fun k hk=>?_,fun k h1 h2=>?_,a5⟩
   ·have:=a3 k (by omega)
    rw [this.1,this.2];exact ⟨show (if k=i then n else p.many k)=_ from if_neg (by omega),show (if k=i then false else p.lies k)=_ from if_neg (by omega)⟩
   ·by_cases e2:k=i
    ·subst e2
     have:=a3 k (by omega)
     have g1:(p.setMove k n false).many k=n:=if_pos rfl;have g2:(p.setMove k n false).lies k=false:=if_pos rfl;rw [this.1,this.2,g1,g2];exact ⟨hn.1,hn.2,fun q=>by cases q⟩
    ·exact a4 k (by omega) h2
  ·split at h
   ·rename_i hc
    rw [Bool.and_eq_true] at hc;have hlt:=of_decide_eq_true hc.2;have hct:Am (p.setMove i n true) 6=Am p 6+1:=by rw [Jp (hz i (Nat.le_refl _)),if_pos (by omega)]
    have hlt2:∀k,i+1≤k→(p.setMove i n true).lies k=false:=fun k hk=>by
     show (if k=i then true else p.lies k)=false;rw [if_neg (by omega)];exact hz k (by omega)
    obtain ⟨a1,a2,a3,a4,a5⟩:=F9 h6 f (i+1) _ q (by omega) hlt2 (by rw [hct];omega) h;refine ⟨a1,a2,fun k hk=>?_,fun k h1 h2=>?_,a5⟩
    ·have:=a3 k (by omega)
     rw [this.1,this.2];exact ⟨show (if k=i then n else p.many k)=_ from if_neg (by omega),show (if k=i then true else p.lies k)=_ from if_neg (by omega)⟩
    ·by_cases e2:k=i
     ·subst e2
      have:=a3 k (by omega)
      have g1:(p.setMove k n true).many k=n:=if_pos rfl;rw [this.1,g1];exact ⟨hn.1,hn.2,fun _=>hc.1⟩
     ·exact a4 k (by omega) h2
   ·cases h
theorem H4 {ag:AL→Bool} {gs:List Good} {ms:List AB} {mo:Int} (h6:ms.length≤6) (h0:0≤mo):∀(f i:Nat) (p q:AL),i+f=gs.length→(∀k,p.lies k=false)→q ∈ A0 ag gs ms mo f i p→
  ag q=true∧(∀k,k<i→q.first k=p.first k)∧(∀k,i≤k→k<gs.length→(gs.getD k Good.z).low≤q.first k∧q.first k≤(gs.getD k Good.z).high)∧(∀k,k<ms.length→(ms.getD k AB.z).low≤q.many k∧q.many k≤(ms.getD k AB.z).high∧(q.lies k=true→Ck ms k=true))∧(Am q 6:Int)≤mo
 | 0,i,p,q,e,hz,h=>by
  have hl:(Am p 6:Int)≤mo:=by
   rw [HU (i:=0) (fun k _ _=>hz k) (Nat.zero_le _)];exact h0
  obtain ⟨a1,a2,_,a4,a5⟩:=F9 h6 ms.length 0 p q (by omega) (fun k _=>hz k) hl h;exact ⟨a1,fun k _=>by rw [a2],fun k h1 h2=>by omega,fun k hk=>a4 k (Nat.zero_le _) hk,a5⟩
 | f+1,i,p,q,e,hz,h=>by
  rw [CG,List.mem_flatMap] at h;obtain ⟨n,hn,h⟩:=h;rw [FI] at hn;obtain ⟨a1,a2,a3,a4,a5⟩:=H4 h6 h0 f (i+1) (p.setFirst i n) q (by omega) hz h;refine ⟨a1,fun k hk=>?_,fun k h1 h2=>?_,a4,a5⟩
  ·rw [a2 k (by omega)];exact if_neg (by omega)
  ·by_cases e2:k=i
   ·subst e2;rw [a2 k (by omega)];have g1:(p.setFirst k n).first k=n:=if_pos rfl;rw [g1];exact hn
   ·exact a3 k (by omega) h2
theorem MT {d:Int} {gs:List Good} {ms:List AB} {cs:List AE} {mo:Int} (h6:ms.length≤6) (h0:0≤mo) {q:AL} (h:q ∈ AM d gs ms cs mo):Jq gs ms mo q∧Ay d gs.length ms cs q=true:=by
 obtain ⟨a1,_,a3,a4,a5⟩:=H4 h6 h0 gs.length 0 AL.zero q (by omega) (fun _=>rfl) h;refine ⟨⟨fun i hi=>a3 i (Nat.zero_le _) hi,fun i hi=>⟨(a4 i hi).1,(a4 i hi).2.1⟩,fun i hi=>(a4 i hi).2.2,?_⟩,a1⟩
 have:=Gz q h6
 omega
def EO (p:AL) (i j:Nat):AL:=⟨fun k=>if k<i then p.first k else 0,fun k=>if k<j then p.many k else 0,fun k=>if k<j then p.lies k else false⟩
theorem MU (p:AL) (i j:Nat):(EO p i j).setMove j (p.many j) (p.lies j)=EO p i (j+1):=by
 unfold EO AL.setMove AL.setMany AL.setLie;congr 1
 ·funext k;show (if k=j then p.many j else if k<j then p.many k else 0)=if k<j+1 then p.many k else 0
  by_cases e:k=j
  ·rw [if_pos e,e,if_pos (by omega)]
  ·rw [if_neg e];by_cases e2:k<j
   ·rw [if_pos e2,if_pos (by omega)]
   ·rw [if_neg e2,if_neg (by omega)]
 ·funext k;show (if k=j then p.lies j else if k<j then p.lies k else false)=if k<j+1 then p.lies k else false
  by_cases e:k=j
  ·rw [if_pos e,e,if_pos (by omega)]
  ·rw [if_neg e];by_cases e2:k<j
   ·rw [if_pos e2,if_pos (by omega)]
   ·rw [if_neg e2,if_neg (by omega)]
theorem QI (p:AL) (i:Nat):(EO p i 0).setFirst i (p.first i)=EO p (i+1) 0:=by
 unfold EO AL.setFirst;congr 1;funext k;show (if k=i then p.first i else if k<i then p.first k else 0)=if k<i+1 then p.first k else 0
 by_cases e:k=i
 ·rw [if_pos e,e,if_pos (by omega)]
 ·rw [if_neg e];by_cases e2:k<i
  ·rw [if_pos e2,if_pos (by omega)]
  ·rw [if_neg e2,if_neg (by omega)]
theorem I5 {ag:AL→Bool} {gs:List Good} {ms:List AB} {mo:Int} (h6:ms.length≤6) {p:AL} (L:Jq gs ms mo p) (ha:ag (EO p gs.length ms.length)=true):∀(f i:Nat),i+f=ms.length→EO p gs.length ms.length ∈ Ak ag ms mo f i (EO p gs.length i)
 | 0,i,e=>by
  rw [show i=ms.length by omega];unfold Ak;rw [if_pos ha];exact List.mem_singleton.2 rfl
 | f+1,i,e=>by
  rw [B4,List.mem_flatMap];refine ⟨p.many i,FI.2 (L.many i (by omega)),?_⟩;have ih:=I5 h6 L ha f (i+1) (by omega);unfold BG;rw [List.mem_append];cases hli:p.lies i with
  | false=>
   left
   have:=MU p gs.length i
   rw [hli] at this;rw [this];exact ih
  | true=>
   right;have hlie:Am ((EO p gs.length i).setMove i (p.many i) false) 6=Am p i:=by
    rw [HU (i:=i) (fun k h1 h2=>?_) (by omega)]
    ·refine Ek fun k hk=>?_;show (if k=i then false else if k<i then p.lies k else false)=_;rw [if_neg (by omega),if_pos hk]
    ·show (if k=i then false else if k<i then p.lies k else false)=_;split
     ·rfl
     ·rw [if_neg (by omega)]
   have h1:Am p (i+1)=Am p i+1:=by
    show Am p i+(if p.lies i then 1 else 0)=_;rw [hli];rfl
   have h2:=Gz p (i:=i+1) (n:=ms.length) (by omega);have h3:=L.few;rw [if_pos (by rw [Bool.and_eq_true];exact ⟨L.note i (by omega) hli,decide_eq_true (by rw [hlie];omega)⟩)]
   have:=MU p gs.length i
   rw [hli] at this;rw [this];exact ih
theorem I6 {ag:AL→Bool} {gs:List Good} {ms:List AB} {mo:Int} (h6:ms.length≤6) {p:AL} (L:Jq gs ms mo p) (ha:ag (EO p gs.length ms.length)=true):∀(f i:Nat),i+f=gs.length→EO p gs.length ms.length ∈ A0 ag gs ms mo f i (EO p i 0)
 | 0,i,e=>by
  rw [show i=gs.length by omega];exact I5 h6 L ha ms.length 0 (by omega)
 | f+1,i,e=>by
  rw [CG,List.mem_flatMap];refine ⟨p.first i,FI.2 (L.first i (by omega)),?_⟩;rw [QI];exact I6 h6 L ha f (i+1) (by omega)
end Go.Ns
namespace Go.Ns
open Go.Conc
theorem HV {x:Int}:∀(l acc:List Int),x ∈ acc∨x ∈ l→x ∈ l.foldl E3 acc
 | [],acc,h=>h.elim id fun h=>by cases h
 | y ::l,acc,h=>by
  refine HV l _ ?_;unfold E3;rcases h with h | h
  ·left;split
   ·exact h
   ·exact List.mem_append_left _ h
  ·rcases List.mem_cons.1 h with rfl | h
   ·left;split
    ·rename_i e;exact List.mem_of_getLast? e
    ·exact List.mem_append_right _ (List.mem_singleton.2 rfl)
   ·exact .inr h
theorem G8:∀(l acc:List Int),l.Pairwise (·≤·)→acc.Pairwise (· < ·)→(∀a ∈ acc,∀x ∈ l,a≤x)→(l.foldl E3 acc).Pairwise (· < ·)
 | [],_,_,h,_=>h
 | y ::l,acc,hl,ha,hx=>by
  rw [List.pairwise_cons] at hl;refine G8 l _ hl.2 ?_ ?_
  ·unfold E3;split
   ·exact ha
   ·rename_i hne
    rw [List.pairwise_append];refine ⟨ha,List.pairwise_singleton ..,fun a ha' b hb=>?_⟩;rw [List.mem_singleton] at hb;subst hb;have h1:=hx a ha' b List.mem_cons_self;rcases Int.lt_or_eq_of_le h1 with h2 | h2
    ·exact h2
    ·subst h2;exfalso;obtain ⟨z,hz⟩:∃z,acc.getLast? =some z:=by
      cases hq:acc.getLast? with
      | none=>rw [List.getLast?_eq_none_iff] at hq;subst hq;cases ha'
      | some z=>exact ⟨z,rfl⟩
     have hzm:=List.mem_of_getLast? hz;have h3:=hx z hzm a List.mem_cons_self;have h4:a≤z:=by
      obtain ⟨l0,hl0⟩:∃l0,acc=l0++[z]:=by
       rcases List.eq_nil_or_concat acc with e | ⟨l0,y0,e⟩
       ·subst e;cases hz
       ·subst e;simp at hz;subst hz;exact ⟨l0,by simp⟩
      subst hl0;rcases List.mem_append.1 ha' with q | q
      ·rw [List.pairwise_append] at ha;exact Int.le_of_lt (ha.2.2 a q z (List.mem_singleton.2 rfl))
      ·rw [List.mem_singleton] at q;omega
     exact hne (by rw [hz,show z=a by omega])
  ·intro a ha' x hx';unfold E3 at ha';split at ha'
   ·exact hx a ha' x (List.mem_cons_of_mem _ hx')
   ·rcases List.mem_append.1 ha' with q | q
    ·exact hx a q x (List.mem_cons_of_mem _ hx')
    ·rw [List.mem_singleton] at q;subst q;exact hl.1 x hx'
theorem R1 {n:Nat} {f:Nat→Int} {x:Int}:x ∈ B1 n f↔∃i,i<n∧f i=x:=by
 refine ⟨MM,fun ⟨i,hi,e⟩=>HV _ _ (.inr ?_)⟩;rw [HK];exact List.mem_mergeSort.2 (List.mem_map.2 ⟨i,List.mem_range.2 hi,e⟩)
theorem MV (n:Nat) (f:Nat→Int):(B1 n f).Pairwise (· < ·):=by
 refine G8 _ _ ?_ List.Pairwise.nil (fun a ha=>by cases ha);rw [HK]
 have:=List.pairwise_mergeSort (le:=fun x y:Int=>decide (x≤y)) (fun a b c h1 h2=>by simp at *;omega) (fun a b=>by simp;omega) ((List.range n).map f)
 exact this.imp fun h=>by simpa using h
theorem UP {l l':List Int} (h:l.Pairwise (· < ·)) (h':l'.Pairwise (· < ·)) (e:∀x,x ∈ l↔x ∈ l'):l=l':=by
 induction l generalizing l' with
 | nil=>
  cases l' with
  | nil=>rfl
  | cons y l'=>exact absurd ((e y).2 List.mem_cons_self) (by simp)
 | cons x l ih=>
  cases l' with
  | nil=>exact absurd ((e x).1 List.mem_cons_self) (by simp)
  | cons y l'=>
   rw [List.pairwise_cons] at h h';have hxy:x=y:=by
    rcases List.mem_cons.1 ((e x).1 List.mem_cons_self) with q | q
    ·exact q
    ·rcases List.mem_cons.1 ((e y).2 List.mem_cons_self) with q' | q'
     ·exact q'.symm
     ·have h1:=h.1 y q';have h2:=h'.1 x q;omega
   subst hxy;congr 1;refine ih h.2 h'.2 fun z=>⟨fun hz=>?_,fun hz=>?_⟩
   ·rcases List.mem_cons.1 ((e z).1 (List.mem_cons_of_mem _ hz)) with rfl | q
    ·exact absurd (h.1 z hz) (by omega)
    ·exact q
   ·rcases List.mem_cons.1 ((e z).2 (List.mem_cons_of_mem _ hz)) with rfl | q
    ·exact absurd (h'.1 z hz) (by omega)
    ·exact q
section
variable {d m:Int} {gs:List Good} {ms:List AB} {cs:List AE}
theorem TO {o:List Int} (h:∀x ∈ o,x=0):DC (fun k=>o.getD k 0) 0 o.length=0:=B5 (k:=o.length) (fun j hj=>h _ (Co hj)) (Nat.le_refl _)
theorem JQ (b:A9 d m gs ms cs) {o:List Int} (h:∀x ∈ o,x=0):AS d m gs ms cs o=if (AM d gs ms cs m).length=0 then 9 else 0:=by
 unfold AS;rw [if_neg (by rw [Dp b];simp),if_neg (by rw [TO h];simp)]
theorem MW (b:A9 d m gs ms cs) {g x y:Int} (hg:0≤g∧g<gs.length) (hx:1≤x∧x≤d) (hy:x≤y∧y≤d):Bj d m gs ms cs g x y=if (AM d gs ms cs m).length=0 then 9 else 0:=by
 refine JQ b fun z hz=>?_;rw [if_pos (by simp;omega),if_pos (by simp;omega),if_pos (by simp;omega)] at hz;simp at hz;exact hz
end
end Go.Ns
namespace Go.Ns
open Go.Conc
section
variable {P:Program} {E:FL P} {σ:Nat→Value} {ds:List Deferred} {h:GH} {T:(Nat→Value)→List Deferred→GH→Prop}
variable {dst:Option Nat} {ty:TypeId} {pos:String} {af:Array Edge} {gd:Option (Nat×Bool)}
end
section
variable {d m:Int} {gs:List Good} {ms:List AB} {cs:List AE}
end
end Go.Ns
namespace Go.Ns
open Go.Conc
section
variable {d m:Int} {gs:List Good} {ms:List AB} {cs:List AE}
theorem MX (b:A9 d m gs ms cs) {g r:Int} (hg:0≤g∧g<gs.length) (hr:0≤r∧r≤d):Bi d m gs ms cs g r=if (AM d gs ms cs m).length=0 then 9 else 0:=by
 refine JQ b fun z hz=>?_;rw [if_pos (by simp;omega),if_pos (by simp;omega)] at hz;simp at hz;exact hz
end
end Go.Ns
namespace Go.Ns
open Go.Conc
theorem EP {ag:AL→Bool} {ms:List AB} {mo:Int}:∀(f i:Nat) (p q:AL),q ∈ Ak ag ms mo f i p→q.first=p.first∧∀k,k<i→q.many k=p.many k∧q.lies k=p.lies k
 | 0,i,p,q,h=>by
  unfold Ak at h;split at h
  ·rw [List.mem_singleton] at h;subst h;exact ⟨rfl,fun _ _=>⟨rfl,rfl⟩⟩
  ·cases h
 | f+1,i,p,q,h=>by
  rw [B4,List.mem_flatMap] at h;obtain ⟨n,_,h⟩:=h;have key:∀b,q ∈ Ak ag ms mo f (i+1) (p.setMove i n b)→q.first=p.first∧∀k,k<i→q.many k=p.many k∧q.lies k=p.lies k:=fun b hb=>by
   obtain ⟨a1,a2⟩:=EP f (i+1) _ q hb;refine ⟨a1,fun k hk=>?_⟩;obtain ⟨b1,b2⟩:=a2 k (by omega);exact ⟨b1.trans (if_neg (by omega)),b2.trans (if_neg (by omega))⟩
  unfold BG at h;rcases List.mem_append.1 h with h | h
  ·exact key _ h
  ·split at h
   ·exact key _ h
   ·cases h
theorem On (lo hi:Int):(EW lo hi).Pairwise (·≠·):=by
 unfold EW Ba;rw [List.pairwise_map];exact List.pairwise_lt_range.imp fun h=>by omega
theorem Ey {ag:AL→Bool} {ms:List AB} {mo:Int}:∀(f i:Nat) (p:AL),(Ak ag ms mo f i p).Pairwise (·≠·)
 | 0,i,p=>by
  unfold Ak;split
  ·exact List.pairwise_singleton ..
  ·exact List.Pairwise.nil
 | f+1,i,p=>by
  rw [B4,List.pairwise_flatMap];have at1:∀n b q,q ∈ Ak ag ms mo f (i+1) (p.setMove i n b)→q.many i=n∧q.lies i=b:=fun n b q hq=>by
   obtain ⟨b1,b2⟩:=(EP f (i+1) _ q hq).2 i (by omega);exact ⟨b1.trans (if_pos rfl),b2.trans (if_pos rfl)⟩
  have atR:∀n q,q ∈ BG ag ms mo f i p n→q.many i=n:=fun n q hq=>by
   unfold BG at hq;rcases List.mem_append.1 hq with h | h
   ·exact (at1 _ _ _ h).1
   ·split at h
    ·exact (at1 _ _ _ h).1
    ·cases h
  refine ⟨fun n _=>?_,(On _ _).imp fun hne x hx y hy e=>hne (by rw [←atR _ x hx,←atR _ y hy,e])⟩;unfold BG;rw [List.pairwise_append];refine ⟨Ey f (i+1) _,?_,fun x hx y hy e=>?_⟩
  ·split
   ·exact Ey f (i+1) _
   ·exact List.Pairwise.nil
  ·split at hy
   ·have h1:=(at1 _ _ _ hx).2;have h2:=(at1 _ _ _ hy).2;rw [e,h2] at h1;cases h1
   ·cases hy
theorem HW {ag:AL→Bool} {gs:List Good} {ms:List AB} {mo:Int}:∀(f i:Nat) (p q:AL),q ∈ A0 ag gs ms mo f i p→∀k,k<i→q.first k=p.first k
 | 0,i,p,q,h,k,hk=>by rw [(EP _ _ _ _ h).1]
 | f+1,i,p,q,h,k,hk=>by
  rw [CG,List.mem_flatMap] at h;obtain ⟨n,_,h⟩:=h;exact (HW f (i+1) _ q h k (by omega)).trans (if_neg (by omega))
theorem G9 {ag:AL→Bool} {gs:List Good} {ms:List AB} {mo:Int}:∀(f i:Nat) (p:AL),(A0 ag gs ms mo f i p).Pairwise (·≠·)
 | 0,i,p=>Ey _ _ _
 | f+1,i,p=>by
  rw [CG,List.pairwise_flatMap];have at1:∀n q,q ∈ A0 ag gs ms mo f (i+1) (p.setFirst i n)→q.first i=n:=fun n q hq=>(HW f (i+1) _ q hq i (by omega)).trans (if_pos rfl);exact ⟨fun n _=>G9 f (i+1) _,(On _ _).imp fun hne x hx y hy e=>hne (by rw [←at1 _ x hx,←at1 _ y hy,e])⟩
theorem Jr (d:Int) (gs:List Good) (ms:List AB) (cs:List AE) (mo:Int):(AM d gs ms cs mo).Nodup:=G9 _ _ _
theorem H5 {ag:AL→Bool} {ms:List AB} {mo:Int}:∀(f i:Nat) (p q:AL),q ∈ Ak ag ms mo f i p→∀k,i+f≤k→q.many k=p.many k∧q.lies k=p.lies k
 | 0,i,p,q,h,k,_=>by
  unfold Ak at h;split at h
  ·rw [List.mem_singleton] at h;subst h;exact ⟨rfl,rfl⟩
  ·cases h
 | f+1,i,p,q,h,k,hk=>by
  rw [B4,List.mem_flatMap] at h;obtain ⟨n,_,h⟩:=h;have key:∀b,q ∈ Ak ag ms mo f (i+1) (p.setMove i n b)→q.many k=p.many k∧q.lies k=p.lies k:=fun b hb=>by
   obtain ⟨b1,b2⟩:=H5 f (i+1) _ q hb k (by omega);exact ⟨b1.trans (if_neg (by omega)),b2.trans (if_neg (by omega))⟩
  unfold BG at h;rcases List.mem_append.1 h with h | h
  ·exact key _ h
  ·split at h
   ·exact key _ h
   ·cases h
theorem H6 {ag:AL→Bool} {gs:List Good} {ms:List AB} {mo:Int}:∀(f i:Nat) (p q:AL),q ∈ A0 ag gs ms mo f i p→(∀k,i+f≤k→q.first k=p.first k)∧∀k,ms.length≤k→q.many k=p.many k∧q.lies k=p.lies k
 | 0,i,p,q,h=>⟨fun k _=>by rw [(EP _ _ _ _ h).1],fun k hk=>H5 _ _ _ _ h k (by omega)⟩
 | f+1,i,p,q,h=>by
  rw [CG,List.mem_flatMap] at h;obtain ⟨n,_,h⟩:=h;obtain ⟨a1,a2⟩:=H6 f (i+1) _ q h;exact ⟨fun k hk=>(a1 k (by omega)).trans (if_neg (by omega)),a2⟩
theorem JR {d:Int} {gs:List Good} {ms:List AB} {cs:List AE} {mo:Int} {q:AL} (h:q ∈ AM d gs ms cs mo):EO q gs.length ms.length=q:=by
 obtain ⟨a1,a2⟩:=H6 _ _ _ _ h;cases q with
 | mk fi ma li=>
  simp only [Nat.zero_add] at a1 a2;unfold EO;congr 1
  ·funext k;by_cases hk:k<gs.length
   ·exact if_pos hk
   ·exact (if_neg hk).trans (a1 k (by omega)).symm
  ·funext k;by_cases hk:k<ms.length
   ·exact if_pos hk
   ·exact (if_neg hk).trans (a2 k (by omega)).1.symm
  ·funext k;by_cases hk:k<ms.length
   ·exact if_pos hk
   ·exact (if_neg hk).trans (a2 k (by omega)).2.symm
theorem R2 (p:AL):EO p 0 0=AL.zero:=by
 unfold EO AL.zero;congr 1
theorem MY {d:Int} {gs:List Good} {ms:List AB} {cs:List AE} {mo:Int} {q:AL} (h6:ms.length≤6) (h0:0≤mo) :
  q ∈ AM d gs ms cs mo↔Jq gs ms mo q∧Ay d gs.length ms cs q=true∧EO q gs.length ms.length=q:=
 ⟨fun h=>⟨(MT h6 h0 h).1,(MT h6 h0 h).2,JR h⟩,fun ⟨L,ha,e⟩=>by
  have h1:=I6 (ag:=Ay d gs.length ms cs) h6 L (by rw [e];exact ha) gs.length 0 (by omega);rw [e,R2] at h1;exact h1⟩
end Go.Ns
namespace Go.Ns
open Go.Conc
def tG (n t g:Int):Int:=(g-t+n)%n
theorem MZ {n t g:Int} (ht:0≤t∧t<n) (hg:0≤g∧g<n):tG n t g=if t≤g then g-t else g-t+n:=by
 unfold tG;split
 ·rw [Int.add_emod_right];exact Int.emod_eq_of_lt (by omega) (by omega)
 ·exact Int.emod_eq_of_lt (by omega) (by omega)
theorem Es {n t g:Int} (ht:0≤t∧t<n) (hg:0≤g∧g<n):0≤tG n t g∧tG n t g<n:=by rw [MZ ht hg];split <;> omega
theorem QJ {n t g g':Int} (ht:0≤t∧t<n) (hg:0≤g∧g<n) (hg':0≤g'∧g'<n):tG n t g=tG n t g'↔g=g':=by
 rw [MZ ht hg,MZ ht hg'];split <;> split <;> omega
def BC (n t:Int) (ms:List AB):List AB:=ms.map fun x=>{ x with good:=tG n t x.good }
theorem GS {n t:Int} {ms:List AB} {k:Nat} (hk:k<ms.length):(BC n t ms).getD k AB.z={ ms.getD k AB.z with good:=tG n t (ms.getD k AB.z).good }:=by
 unfold BC;rw [List.getD_eq_getElem?_getD,List.getElem?_map,List.getD_eq_getElem?_getD,List.getElem?_eq_getElem hk];rfl
theorem By (n t:Int) (ms:List AB):(BC n t ms).length=ms.length:=by simp [BC]
theorem Hm {n t:Int} {ms:List AB} (k:Nat):((BC n t ms).getD k AB.z).day=(ms.getD k AB.z).day:=by
 by_cases hk:k<ms.length
 ·rw [GS hk]
 ·rw [Cp (by rw [By];omega),Cp (by omega)]
theorem H7 {n t g dy:Int} {ms:List AB} {p p':AL} (ht:0≤t∧t<n) (hg:0≤g∧g<n) (hm:∀k,k<ms.length→0≤(ms.getD k AB.z).good∧(ms.getD k AB.z).good<n) (hr:∀k,k<ms.length→Bp p' k=Bp p k) :
  ∀(f k:Nat) (a low:Int),k+f=ms.length→CY (BC n t ms) p' (tG n t g) dy f k a low=CY ms p g dy f k a low
 | 0,_,_,_,_=>rfl
 | f+1,k,a,low,e=>by
  unfold CY;rw [Hm];have h1:E2 (BC n t ms) p' (tG n t g) k a=E2 ms p g k a:=by
   unfold E2;rw [GS (by omega),hr k (by omega)];by_cases q:(ms.getD k AB.z).good=g
   ·rw [if_pos q,if_pos ((QJ ht (hm k (by omega)) hg).2 q)]
   ·rw [if_neg q,if_neg (fun e=>q ((QJ ht (hm k (by omega)) hg).1 e))]
  have h2:∀a,D4 (BC n t ms) k low a=D4 ms k low a:=fun a=>by unfold D4;rw [Hm,Hm,By]
  rw [h1,h2,H7 ht hg hm hr f (k+1) _ _ (by omega)]
theorem G0 {n t g dy:Int} {ms:List AB} {p p':AL} (ht:0≤t∧t<n) (hg:0≤g∧g<n) (hm:∀k,k<ms.length→0≤(ms.getD k AB.z).good∧(ms.getD k AB.z).good<n) (hr:∀k,k<ms.length→Bp p' k=Bp p k)
  (hf:p'.first (tG n t g).toNat=p.first g.toNat):AJ (BC n t ms) p' (tG n t g) dy=AJ ms p g dy:=by
 unfold AJ;rw [By,hf];exact H7 ht hg hm hr _ _ _ _ (by omega)
def Be (t:Nat) (gs:List Good):List Good:=(List.range gs.length).map fun (i:Nat)=>gs.getD ((i+t)%gs.length) Good.z
theorem Cd (t:Nat) (gs:List Good):(Be t gs).length=gs.length:=by simp [Be]
theorem GT {t:Nat} {gs:List Good} {i:Nat} (hi:i<gs.length):(Be t gs).getD i Good.z=gs.getD ((i+t)%gs.length) Good.z:=by
 unfold Be;rw [List.getD_eq_getElem?_getD,List.getElem?_map,List.getElem?_range hi];rfl
def De (n t:Nat) (p:AL):AL:=⟨fun i=>if i<n then p.first ((i+t)%n) else 0,p.many,p.lies⟩
theorem GU {n t i:Nat} (ht:t<n) (hi:i<n):(i+t)%n<n∧((i+t)%n+(n-t))%n=i:=by
 refine ⟨Nat.mod_lt _ (by omega),?_⟩;rcases Nat.lt_or_ge (i+t) n with h | h
 ·rw [Nat.mod_eq_of_lt h,show i+t+(n-t)=i+n by omega,Nat.add_mod_right,Nat.mod_eq_of_lt hi]
 ·rw [Nat.mod_eq_sub_mod h,Nat.mod_eq_of_lt (show i+t-n<n by omega),show i+t-n+(n-t)=i by omega,Nat.mod_eq_of_lt hi]
theorem Fu {n t:Nat} {g:Int} {p:AL} (ht:t<n) (hg:0≤g∧g<n):(De n t p).first (tG n t g).toNat=p.first g.toNat:=by
 have h1:=Es (n:=n) (t:=t) (by omega) hg;unfold De;simp only [];rw [if_pos (by omega)];congr 1;rw [MZ (by omega) hg];split
 ·rw [show (g-(t:Int)).toNat+t=g.toNat by omega];exact Nat.mod_eq_of_lt (by omega)
 ·rw [show (g-(t:Int)+n).toNat+t=g.toNat+n by omega,Nat.add_mod_right];exact Nat.mod_eq_of_lt (by omega)
theorem QK (n t:Nat) (p:AL) (k:Nat):Bp (De n t p) k=Bp p k:=rfl
theorem I7 (n t:Nat) (p:AL) (k:Nat):Am (De n t p) k=Am p k:=Ek fun _ _=>rfl
theorem RJ {n t j:Int} (ht:0≤t∧t<n) (hj:0≤j∧j<n):(0≤(j+t)%n∧(j+t)%n<n)∧tG n t ((j+t)%n)=j:=by
 have h1:=Int.emod_nonneg (j+t) (show n≠0 by omega);have h2:=Int.emod_lt_of_pos (j+t) (show 0<n by omega);refine ⟨⟨h1,h2⟩,?_⟩;rw [MZ ht ⟨h1,h2⟩];rcases Int.lt_or_le (j+t) n with h | h
 ·rw [Int.emod_eq_of_lt (by omega) h,if_pos (by omega)];omega
 ·have e:(j+t)%n=j+t-n:=by
   rw [←Int.sub_emod_right,Int.emod_eq_of_lt (by omega) (by omega)]
  rw [e,if_neg (by omega)];omega
def Br (n t:Int) (cs:List AE):List AE:=cs.reverse.map fun x=>{ x with good:=tG n t x.good }
theorem NU {n t:Nat} {d:Int} {ms:List AB} {cs:List AE} {p:AL} (ht:t<n) (hm:∀k,k<ms.length→0≤(ms.getD k AB.z).good∧(ms.getD k AB.z).good<n) (hc:∀x ∈ cs,0≤x.good∧x.good<n) :
  Ay d n (BC n t ms) (Br n t cs) (De n t p)=Ay d n ms cs p:=by
 have st:∀(g dy:Int),0≤g∧g<n→AJ (BC n t ms) (De n t p) (tG n t g) dy=AJ ms p g dy:=fun g dy hg=>
  G0 (by omega) hg hm (fun _ _=>rfl) (Fu ht hg)
 unfold Ay;congr 1
 ·refine decide_eq_decide.2 ⟨fun h j hj=>?_,fun h j hj=>?_⟩
  ·have hr:=Es (n:=n) (t:=t) (g:=j) (by omega) (by omega)
   have:=h (tG n t j).toNat (by omega)
   rw [show (((tG n t j).toNat:Nat):Int)=tG n t j by omega,st _ _ (by omega)] at this;exact this
  ·have hb:=RJ (n:=n) (t:=t) (j:=j) (by omega) (by omega)
   have:=h (((j:Int)+t)%n).toNat (by omega)
   rw [show (((((j:Int)+t)%n).toNat:Nat):Int)=((j:Int)+t)%n by omega,←st _ _ hb.1,hb.2] at this;exact this
 ·congr 1;unfold Br;rw [List.any_map,List.any_reverse,Bool.eq_iff_iff,List.any_eq_true,List.any_eq_true];constructor
  ·rintro ⟨x,hx,h⟩;refine ⟨x,hx,?_⟩;simp only [Function.comp] at h;rw [st _ _ (hc x hx)] at h;exact h
  ·rintro ⟨x,hx,h⟩;refine ⟨x,hx,?_⟩;simp only [Function.comp];rw [st _ _ (hc x hx)];exact h
theorem FZ {n t:Int} {ms:List AB} (k:Nat):((BC n t ms).getD k AB.z).kind=(ms.getD k AB.z).kind∧((BC n t ms).getD k AB.z).low=(ms.getD k AB.z).low∧((BC n t ms).getD k AB.z).high=(ms.getD k AB.z).high:=by
 by_cases hk:k<ms.length
 ·rw [GS hk];exact ⟨rfl,rfl,rfl⟩
 ·rw [Cp (by rw [By];omega),Cp (l:=ms) (by omega)];exact ⟨rfl,rfl,rfl⟩
theorem G1 {n t:Int} {ms:List AB} (i:Int):Ck (BC n t ms) i=Ck ms i:=by
 unfold Ck;rw [By,(FZ _).1]
theorem Jq.turn {t:Nat} {gs:List Good} {ms:List AB} {mo:Int} {p:AL} (ht:t<gs.length):Jq (Be t gs) (BC gs.length t ms) mo (De gs.length t p)↔Jq gs ms mo p:=by
 constructor
 ·intro L;refine ⟨fun i hi=>?_,fun i hi=>?_,fun i hi h=>?_,?_⟩
  ·have hr:=Es (n:=gs.length) (t:=t) (g:=i) (by omega) (by omega);have h1:=L.first (tG gs.length t i).toNat (by rw [Cd];omega);rw [Fu ht (by omega),GT (by omega)] at h1;have e:((tG gs.length t i).toNat+t)%gs.length=i:=by
    rw [MZ (by omega) (by omega)];split
    ·rw [show ((i:Int)-t).toNat+t=i by omega];exact Nat.mod_eq_of_lt hi
    ·rw [show ((i:Int)-t+gs.length).toNat+t=i+gs.length by omega,Nat.add_mod_right];exact Nat.mod_eq_of_lt hi
   rw [e] at h1;simpa using h1
  ·have h1:=L.many i (by rw [By];exact hi);rw [(FZ i).2.1,(FZ i).2.2] at h1;exact h1
  ·have h1:=L.note i (by rw [By];exact hi) h;rw [G1] at h1;exact h1
  ·have h1:=L.few;rw [By,I7] at h1;exact h1
 ·intro L;refine ⟨fun i hi=>?_,fun i hi=>?_,fun i hi h=>?_,?_⟩
  ·rw [Cd] at hi;rw [GT hi];show _≤(if i<gs.length then p.first ((i+t)%gs.length) else 0)∧(if i<gs.length then p.first ((i+t)%gs.length) else 0)≤_;rw [if_pos hi];exact L.first _ (Nat.mod_lt _ (by omega))
  ·rw [By] at hi;rw [(FZ i).2.1,(FZ i).2.2];exact L.many i hi
  ·rw [By] at hi;rw [G1];exact L.note i hi h
  ·rw [By,I7];exact L.few
theorem Ma {n t m:Nat} {q:AL} (ht:t<n):EO (De n t q) n m=De n t (EO q n m):=by
 unfold EO De;congr 1;funext k;by_cases hk:k<n
 ·simp [hk,Nat.mod_lt _ (show 0<n by omega)]
 ·simp [hk]
theorem Mb {n t m:Nat} {q:AL} (ht:t<n) (hq:EO q n m=q):De n t (De n ((n-t)%n) q)=q:=by
 have h0:∀k,¬k<n→q.first k=0:=fun k hk=>by rw [←hq];exact if_neg hk
 cases q with
 | mk fi ma li=>
  unfold De;congr 1;funext k;by_cases hk:k<n
  ·have hl:(k+t)%n<n:=Nat.mod_lt _ (by omega);simp only [hk,hl,if_true];rw [Nat.add_mod_mod,(GU ht hk).2]
  ·simp only [hk,if_false];exact (h0 k hk).symm
theorem A9.cgood' {d m:Int} {gs:List Good} {ms:List AB} {cs:List AE} (b:A9 d m gs ms cs):∀x ∈ cs,0≤x.good∧x.good<(gs.length:Int):=fun x hx=>by
 obtain ⟨i,hi,e2⟩:=List.getElem_of_mem hx;have hc:=b.count i hi;unfold DQ at hc;rw [C6 AE.z hi,e2] at hc;have hg:0≤x.good∧x.good≤(gs.length:Int)-1:=by
  apply Decidable.byContradiction;intro q;rw [if_pos q] at hc;cases hc
 omega
theorem A9.mgood {d m:Int} {gs:List Good} {ms:List AB} {cs:List AE} (b:A9 d m gs ms cs):∀k,k<ms.length→0≤(ms.getD k AB.z).good∧(ms.getD k AB.z).good<(gs.length:Int):=fun k hk=>by
 have:=(b.move' hk).2.1;omega
theorem Oo {d mo:Int} {gs:List Good} {ms:List AB} {cs:List AE} {t:Nat} {q:AL} (h6:ms.length≤6) (hm:∀k,k<ms.length→0≤(ms.getD k AB.z).good∧(ms.getD k AB.z).good<(gs.length:Int)) (hc:∀x ∈ cs,0≤x.good∧x.good<(gs.length:Int)) (ht:t<gs.length) (h0:0≤mo) (hq:EO q gs.length ms.length=q) :
  De gs.length t q ∈ AM d (Be t gs) (BC gs.length t ms) (Br gs.length t cs) mo↔q ∈ AM d gs ms cs mo:=by
 rw [MY (by rw [By];exact h6) h0,MY h6 h0,Jq.turn ht,Cd,By,NU ht hm hc,Ma ht,hq];simp
theorem Fb {d mo:Int} {gs:List Good} {ms:List AB} {cs:List AE} {t:Nat} (h6:ms.length≤6) (hm:∀k,k<ms.length→0≤(ms.getD k AB.z).good∧(ms.getD k AB.z).good<(gs.length:Int)) (hc:∀x ∈ cs,0≤x.good∧x.good<(gs.length:Int)) (ht:t<gs.length) (h0:0≤mo) :
  (AM d (Be t gs) (BC gs.length t ms) (Br gs.length t cs) mo).Perm ((AM d gs ms cs mo).map (De gs.length t)):=by
 have hpre:∀{q},q ∈ AM d gs ms cs mo→EO q gs.length ms.length=q:=fun h=>JR h;have Bd:∀q',EO q' gs.length ms.length=q'→EO (De gs.length ((gs.length-t)%gs.length) q') gs.length ms.length=De gs.length ((gs.length-t)%gs.length) q':=fun q' h=>by
  rw [Ma (Nat.mod_lt _ (by omega)),h]
 have nd2:((AM d gs ms cs mo).map (De gs.length t)).Nodup:=by
  unfold List.Nodup;rw [List.pairwise_map];refine List.Pairwise.imp_of_mem (fun {x y} hx hy hne e=>hne ?_) (Jr d gs ms cs mo);have hx':=hpre hx;have hy':=hpre hy;cases x with
  | mk f1 m1 l1=>
  cases y with
  | mk f2 m2 l2=>
  unfold De at e;simp only [AL.mk.injEq] at e ⊢;refine ⟨?_,e.2⟩;funext k;by_cases hk:k<gs.length
  ·have h1:=congrFun e.1 ((k+(gs.length-t))%gs.length);have hl:(k+(gs.length-t))%gs.length<gs.length:=Nat.mod_lt _ (by omega);have e3:((k+(gs.length-t))%gs.length+t)%gs.length=k:=by
    rw [Nat.mod_add_mod,show k+(gs.length-t)+t=k+gs.length by omega,Nat.add_mod_right];exact Nat.mod_eq_of_lt hk
   simp only [hl,if_true,e3] at h1;exact h1
  ·have a1:f1 k=0:=by
    have:=congrArg (fun p=>p.first k) hx'
    simp only [EO,hk,if_false] at this;exact this.symm
   have a2:f2 k=0:=by
    have:=congrArg (fun p=>p.first k) hy'
    simp only [EO,hk,if_false] at this;exact this.symm
   rw [a1,a2]
 refine (List.perm_ext_iff_of_nodup (Jr ..) nd2).2 fun q'=>?_;rw [List.mem_map];constructor
 ·intro h;have hcq:EO q' gs.length ms.length=q':=by
   have:=JR h;rw [Cd,By] at this;exact this
  refine ⟨De gs.length ((gs.length-t)%gs.length) q',?_,Mb ht hcq⟩;rw [←Mb ht hcq,Oo h6 hm hc ht h0 (Bd _ hcq)] at h;exact h
 ·rintro ⟨q,hq,rfl⟩;exact (Oo h6 hm hc ht h0 (hpre hq)).2 hq
theorem Oq {hs:List AL} {F:AL→Int} {x:Int}:x ∈ B1 hs.length (fun (i:Nat)=>F (hs.getD ((i:Int)).toNat AL.zero))↔∃p ∈ hs,F p=x:=by
 rw [R1];constructor
 ·rintro ⟨i,hi,e⟩;exact ⟨_,Co (show ((i:Int)).toNat<hs.length by omega),e⟩
 ·rintro ⟨p,hp,e⟩;obtain ⟨i,hi,e2⟩:=List.getElem_of_mem hp;refine ⟨i,hi,?_⟩;show F (hs.getD ((i:Int)).toNat AL.zero)=x;rw [show ((i:Int)).toNat=i by omega,C6 AL.zero hi,e2,e]
theorem IS {hs hs':List AL} {F F':AL→Int} {T:AL→AL} (hp:hs'.Perm (hs.map T)) (hF:∀p ∈ hs,F' (T p)=F p) :
  B1 hs'.length (fun (i:Nat)=>F' (hs'.getD ((i:Int)).toNat AL.zero))=B1 hs.length (fun (i:Nat)=>F (hs.getD ((i:Int)).toNat AL.zero)):=by
 refine UP (MV _ _) (MV _ _) fun x=>?_;rw [Oq,Oq];constructor
 ·rintro ⟨p,h,e⟩;obtain ⟨q,hq,rfl⟩:=List.mem_map.1 (hp.mem_iff.1 h);exact ⟨q,hq,by rw [←hF q hq];exact e⟩
 ·rintro ⟨q,hq,e⟩;exact ⟨T q,hp.mem_iff.2 (List.mem_map.2 ⟨q,hq,rfl⟩),by rw [hF q hq];exact e⟩
theorem Js {n t:Nat} {g a b:Int} {ms:List AB} {p:AL} (ht:t<n) (hg:0≤g∧g<n) (hm:∀k,k<ms.length→0≤(ms.getD k AB.z).good∧(ms.getD k AB.z).good<n) :
  ∀k,k≤ms.length→Bw (BC n t ms) (De n t p) (tG n t g) a b k=Bw ms p g a b k
 | 0,_=>rfl
 | k+1,hk=>by
  unfold Bw;rw [Js ht hg hm k (by omega),GS (show k<ms.length by omega),QK];have e:=QJ (n:=n) (t:=t) (by omega) (hm k (by omega)) hg;simp only [e]
theorem HX (gs:List Good) (ms:List AB) (p:AL) (dy:Int):∀k,Bn gs ms p dy k=((List.range k).map fun (i:Nat)=>(gs.getD i Good.z).cost*(AJ ms p (i:Int) dy).1).sum
 | 0=>rfl
 | k+1=>by
  unfold Bn;rw [HX gs ms p dy k,List.range_succ,List.map_append,List.sum_append];simp
theorem TP {l l':List Int} (h:l.Perm l'):l.sum=l'.sum:=by
 induction h with
 | nil=>rfl
 | cons x _ ih=>rw [List.sum_cons,List.sum_cons,ih]
 | swap x y l=>simp only [List.sum_cons];omega
 | trans _ _ a b=>rw [a,b]
theorem QL {n t:Nat} (ht:t<n):((List.range n).map fun i=>(i+t)%n).Perm (List.range n):=by
 have nd:((List.range n).map fun i=>(i+t)%n).Nodup:=by
  unfold List.Nodup;rw [List.pairwise_map];refine List.Pairwise.imp_of_mem (fun {x y} hx hy hne e=>?_) (List.pairwise_lt_range (n:=n));have h1:=(GU ht (List.mem_range.1 hx)).2;have h2:=(GU ht (List.mem_range.1 hy)).2;rw [e,h2] at h1;omega
 refine (List.perm_ext_iff_of_nodup nd List.nodup_range).2 fun k=>?_;rw [List.mem_map,List.mem_range];constructor
 ·rintro ⟨i,hi,rfl⟩;exact Nat.mod_lt _ (by omega)
 ·intro hk;refine ⟨(k+(n-t))%n,List.mem_range.2 (Nat.mod_lt _ (by omega)),?_⟩;rw [Nat.mod_add_mod,show k+(n-t)+t=k+n by omega,Nat.add_mod_right];exact Nat.mod_eq_of_lt hk
theorem NV {t:Nat} {dy:Int} {gs:List Good} {ms:List AB} {p:AL} (ht:t<gs.length) (hm:∀k,k<ms.length→0≤(ms.getD k AB.z).good∧(ms.getD k AB.z).good<(gs.length:Int)) :
  Bn (Be t gs) (BC gs.length t ms) (De gs.length t p) dy gs.length=Bn gs ms p dy gs.length:=by
 rw [HX,HX];refine Eq.trans (congrArg List.sum (List.map_congr_left (g:=(fun (i:Nat)=>(gs.getD i Good.z).cost*(AJ ms p (i:Int) dy).1) ∘ fun i=>(i+t)%gs.length) fun i hi=>?_)) ?_
 ·have hi':=List.mem_range.1 hi;show (((Be t gs).getD i Good.z).cost*_:Int)=(gs.getD ((i+t)%gs.length) Good.z).cost*(AJ ms p (((i+t)%gs.length:Nat):Int) dy).1;have hb:=RJ (n:=gs.length) (t:=t) (j:=i) (by omega) (by omega);have st:=G0 (p:=p) (p':=De gs.length t p) (dy:=dy) (show 0≤(t:Int)∧(t:Int)<gs.length by omega) hb.1 hm (fun _ _=>rfl) (Fu ht hb.1);rw [hb.2] at st;rw [GT hi',st,show (((i+t)%gs.length:Nat):Int)=((i:Int)+t)%gs.length by rw [Int.natCast_emod,Int.natCast_add]]
 ·rw [←List.map_map];exact TP ((QL ht).map _)
theorem R3 {n t:Int} {ms:List AB} {i:Nat}:BC n t (clearAt ms i)=clearAt (BC n t ms) i:=by
 unfold clearAt BC;rw [List.map_set];by_cases hi:i<ms.length
 ·have:=GS (n:=n) (t:=t) hi
  unfold BC at this;rw [this]
 ·rw [List.set_eq_of_length_le (by simp;omega),List.set_eq_of_length_le (by simp;omega)]
theorem Jt {n t:Int}:∀(l:List Int) (ms:List AB),BC n t (CA ms l)=CA (BC n t ms) l
 | [],_=>rfl
 | i ::l,ms=>by
  have:=Jt (n:=n) (t:=t) l (clearAt ms i.toNat)
  unfold CA at this ⊢;rw [List.foldl_cons,List.foldl_cons,this,R3]
theorem Fv:∀(l:List Int) (ms:List AB) (k:Nat),((CA ms l).getD k AB.z).good=(ms.getD k AB.z).good∧(CA ms l).length=ms.length
 | [],_,_=>⟨rfl,rfl⟩
 | i ::l,ms,k=>by
  have:=Fv l (clearAt ms i.toNat) k
  unfold CA at this ⊢;rw [List.foldl_cons,this.1,this.2];unfold clearAt;refine ⟨?_,by simp⟩;rw [List.getD_eq_getElem?_getD,List.getElem?_set,List.getD_eq_getElem?_getD];split
  ·rename_i e;subst e
   split
   ·rename_i hi;rw [List.getElem?_eq_getElem hi];simp [List.getD_eq_getElem?_getD,List.getElem?_eq_getElem hi]
   ·rename_i hi;rw [Cp (l:=ms) (by omega)];rfl
  ·rfl
theorem Lm {d:Int} {gs:List Good} {ms:List AB} {cs:List AE} {t mask:Nat} (h6:ms.length≤6) (hm:∀k,k<ms.length→0≤(ms.getD k AB.z).good∧(ms.getD k AB.z).good<(gs.length:Int)) (hc:∀x ∈ cs,0≤x.good∧x.good<(gs.length:Int)) (ht:t<gs.length) :
  DG d (Be t gs) (BC gs.length t ms) (Br gs.length t cs) mask=DG d gs ms cs mask:=by
 unfold DG D0;simp only [G1,By];rw [←Jt];have hp:=Fb (d:=d) (mo:=0) (gs:=gs) (ms:=CA ms (A3 (mask:Int) ms.length)) (cs:=cs) (t:=t) (by rw [(Fv _ _ 0).2];exact h6)
  (fun k hk=>by rw [(Fv _ _ k).1];rw [(Fv _ _ 0).2] at hk;exact hm k hk) hc ht (Int.le_refl 0)
 have he:AM d (Be t gs) (BC gs.length t (CA ms (A3 (mask:Int) ms.length))) (Br gs.length t cs) 0=[]↔AM d gs (CA ms (A3 (mask:Int) ms.length)) cs 0=[]:=by
  rw [←List.length_eq_zero_iff,hp.length_eq,List.length_map,List.length_eq_zero_iff]
 simp only [he]
theorem Or {d:Int} {gs:List Good} {ms:List AB} {t k:Nat} (ht:t<gs.length) (hk:k<ms.length) (h:CX d gs ms k=0) (hg:0≤(ms.getD k AB.z).good∧(ms.getD k AB.z).good<(gs.length:Int)):CX d (Be t gs) (BC gs.length t ms) k=0:=by
 have hr:=Es (n:=gs.length) (t:=t) (by omega) hg;have e:Cj (BC gs.length t ms) k=Cj ms k:=by unfold Cj;rw [Hm]
 unfold CX at h ⊢;rw [e,GS hk,Cd];simp only;rw [if_neg (show¬¬(0≤(ms.getD k AB.z).good∧(ms.getD k AB.z).good≤(gs.length:Int)-1) from fun q=>q (by omega))] at h;rw [if_neg (show¬¬(0≤tG gs.length t (ms.getD k AB.z).good∧tG gs.length t (ms.getD k AB.z).good≤(gs.length:Int)-1) from fun q=>q (by omega))];exact h
theorem Ot {gs:List Good} {i j:Nat} (hj:j<gs.length) (hij:i<j) (h:C3 gs j=0):((gs.getD i Good.z).name.toList==(gs.getD j Good.z).name.toList)=false:=by
 cases e:((gs.getD i Good.z).name.toList==(gs.getD j Good.z).name.toList) with
 | false=>rfl
 | true=>
  exfalso;have ha:(gs.take j).any (fun x=>x.name.toList==(gs.getD j Good.z).name.toList)=true:=by
   rw [List.any_eq_true];refine ⟨gs.getD i Good.z,?_,e⟩;rw [C6 Good.z (show i<gs.length by omega)];exact List.mem_take_iff_getElem.2 ⟨i,by omega,rfl⟩
  unfold C3 at h;split at h
  ·cases h
  ·first | (rw [if_pos ha] at h;cases h) | (simp at h)
theorem TQ {gs:List Good} {i j:Nat} (hg:∀k,k<gs.length→C3 gs k=0) (hi:i<gs.length) (hj:j<gs.length) (hij:i≠j):((gs.getD i Good.z).name.toList==(gs.getD j Good.z).name.toList)=false:=by
 rcases Nat.lt_or_gt_of_ne hij with h | h
 ·exact Ot hj h (hg j hj)
 ·have:=Ot hi h (hg i hi)
  rw [beq_eq_false_iff_ne] at this ⊢;exact fun e=>this e.symm
theorem Ou {gs:List Good} {t k:Nat} (ht:t<gs.length) (hg:∀k,k<gs.length→C3 gs k=0) (hk:k<gs.length):C3 (Be t gs) k=0:=by
 have h:=hg ((k+t)%gs.length) (Nat.mod_lt _ (by omega));unfold C3 at h ⊢;rw [GT hk];split at h
 ·cases h
 rename_i h1
 rw [if_neg h1];split at h
 ·cases h
 rw [if_neg ?_]
 ·exact h
 ·intro e;rw [List.any_eq_true] at e;obtain ⟨x,hx,e⟩:=e;obtain ⟨i,hi,rfl⟩:=List.mem_take_iff_getElem.1 hx;rw [Cd] at hi;rw [←C6 Good.z (show i<(Be t gs).length by rw [Cd];omega),GT (by omega)] at e;have hne:(i+t)%gs.length≠(k+t)%gs.length:=fun q=>by
   have h1:=(GU ht (show i<gs.length by omega)).2;have h2:=(GU ht hk).2;rw [q,h2] at h1;omega
  rw [TQ hg (Nat.mod_lt _ (by omega)) (Nat.mod_lt _ (by omega)) hne] at e;cases e
theorem NW {d:Int} {gs:List Good} {cs:List AE} {t:Nat} (ht:t<gs.length) (hc:∀k,k<cs.length→DQ d gs cs k=0) (hg:∀x ∈ cs,0≤x.good∧x.good<(gs.length:Int)):∀k,k<(Br gs.length t cs).length→DQ d (Be t gs) (Br gs.length t cs) k=0:=fun k hk=>by
 have hlen:(Br gs.length t cs).length=cs.length:=by simp [Br]
 rw [hlen] at hk;have hm:(Br gs.length t cs).getD k AE.z ∈ Br gs.length t cs:=Co (by omega);obtain ⟨x,hx,e⟩:=List.mem_map.1 hm;rw [List.mem_reverse] at hx;obtain ⟨i,hi,e2⟩:=List.getElem_of_mem hx;have h:=hc i hi;have hgx:=hg x hx;have hr:=Es (n:=gs.length) (t:=t) (by omega) hgx;unfold DQ at h ⊢;rw [C6 AE.z hi,e2] at h;rw [←e,Cd];simp only;rw [if_neg (show¬¬(0≤x.good∧x.good≤(gs.length:Int)-1) from fun q=>q (by omega))] at h;rw [if_neg (show¬¬(0≤tG gs.length t x.good∧tG gs.length t x.good≤(gs.length:Int)-1) from fun q=>q (by omega))];exact h
theorem A9.turn {d m:Int} {gs:List Good} {ms:List AB} {cs:List AE} {t:Nat} (b:A9 d m gs ms cs) (ht:t<gs.length):A9 d m (Be t gs) (BC gs.length t ms) (Br gs.length t cs):=
 ⟨b.days,b.most,by rw [Cd];exact b.glen,fun k hk=>Ou ht b.good (by rw [Cd] at hk;exact hk),by rw [By];exact b.mlen,fun k hk=>by rw [By] at hk;exact Or ht hk (b.move k hk) (b.mgood k hk),
  by simp [Br];exact b.clen,NW ht b.count b.cgood'⟩
section
variable {d m:Int} {gs:List Good} {ms:List AB} {cs:List AE} {t:Nat}
theorem EQ (b:A9 d m gs ms cs) (ht:t<gs.length):(AM d (Be t gs) (BC gs.length t ms) (Br gs.length t cs) m).length=(AM d gs ms cs m).length:=by
 rw [(Fb b.mlen b.mgood b.cgood' ht b.most.1).length_eq,List.length_map]
theorem R4 (b:A9 d m gs ms cs) (ht:t<gs.length) {g dy:Int} (hg:0≤g∧g<gs.length) (hd:0≤dy∧dy≤d) :
  Bi d m (Be t gs) (BC gs.length t ms) (Br gs.length t cs) (tG gs.length t g) dy=Bi d m gs ms cs g dy∧Ep d m (Be t gs) (BC gs.length t ms) (Br gs.length t cs) (tG gs.length t g) dy=Ep d m gs ms cs g dy:=by
 have hr:=Es (n:=gs.length) (t:=t) (by omega) hg;have e:Bi d m (Be t gs) (BC gs.length t ms) (Br gs.length t cs) (tG gs.length t g) dy=Bi d m gs ms cs g dy:=by
  rw [MX (b.turn ht) (by rw [Cd];omega) hd,MX b hg hd,EQ b ht]
 refine ⟨e,?_⟩;unfold Ep;rw [e];split
 ·exact IS (F:=fun p=>(AJ ms p g dy).1) (F':=fun p=>(AJ (BC gs.length t ms) p (tG gs.length t g) dy).1) (Fb b.mlen b.mgood b.cgood' ht b.most.1)
   fun p _=>congrArg (fun z:Int×Int=>z.1) (G0 (n:=gs.length) (t:=t) (dy:=dy) (p:=p) (p':=De gs.length t p) (by omega) hg b.mgood (fun _ _=>rfl) (Fu ht hg))
 ·rfl
end
section
variable {d m:Int} {gs:List Good} {ms:List AB} {cs:List AE} {t:Nat}
theorem R5 (b:A9 d m gs ms cs) (ht:t<gs.length) {g x y:Int} (hg:0≤g∧g<gs.length) (hx:1≤x∧x≤d) (hy:x≤y∧y≤d) :
  Bj d m (Be t gs) (BC gs.length t ms) (Br gs.length t cs) (tG gs.length t g) x y=Bj d m gs ms cs g x y∧Cg d m (Be t gs) (BC gs.length t ms) (Br gs.length t cs) (tG gs.length t g) x y=Cg d m gs ms cs g x y∧Ch d m (Be t gs) (BC gs.length t ms) (Br gs.length t cs) (tG gs.length t g) x y=Ch d m gs ms cs g x y:=by
 have hr:=Es (n:=gs.length) (t:=t) (by omega) hg;have e:Bj d m (Be t gs) (BC gs.length t ms) (Br gs.length t cs) (tG gs.length t g) x y=Bj d m gs ms cs g x y:=by
  rw [MW (b.turn ht) (by rw [Cd];omega) hx hy,MW b hg hx hy,EQ b ht]
 have e2:Iv d m (Be t gs) (BC gs.length t ms) (Br gs.length t cs) (tG gs.length t g) x y=Iv d m gs ms cs g x y:=by
  unfold Iv;rw [By];exact IS (F:=fun p=>Bw ms p g x y ms.length) (F':=fun p=>Bw (BC gs.length t ms) p (tG gs.length t g) x y ms.length) (Fb b.mlen b.mgood b.cgood' ht b.most.1)
   fun p _=>Js ht hg b.mgood _ (Nat.le_refl _)
 refine ⟨e,?_,?_⟩
 ·unfold Cg;rw [e,e2]
 ·unfold Ch;rw [e,e2]
end
section
variable {d m:Int} {gs:List Good} {ms:List AB} {cs:List AE} {t:Nat}
theorem LE (b:A9 d m gs ms cs) {dy:Int} (hd:0≤dy∧dy≤d):BU d m gs ms cs dy=if (AM d gs ms cs m).length=0 then 9 else 0:=by
 refine JQ b fun z hz=>?_;rw [if_pos (by simp;omega)] at hz;simp at hz;exact hz
theorem QM (b:A9 d m gs ms cs) (ht:t<gs.length) {dy:Int} (hd:0≤dy∧dy≤d) :
  BU d m (Be t gs) (BC gs.length t ms) (Br gs.length t cs) dy=BU d m gs ms cs dy∧B6 d m (Be t gs) (BC gs.length t ms) (Br gs.length t cs) dy=B6 d m gs ms cs dy∧B7 d m (Be t gs) (BC gs.length t ms) (Br gs.length t cs) dy=B7 d m gs ms cs dy:=by
 have e:BU d m (Be t gs) (BC gs.length t ms) (Br gs.length t cs) dy=BU d m gs ms cs dy:=by
  rw [LE (b.turn ht) hd,LE b hd,EQ b ht]
 have e2:HN d m (Be t gs) (BC gs.length t ms) (Br gs.length t cs) dy=HN d m gs ms cs dy:=by
  unfold HN;rw [Cd];exact IS (F:=fun p=>Bn gs ms p dy gs.length) (F':=fun p=>Bn (Be t gs) (BC gs.length t ms) p dy gs.length) (Fb b.mlen b.mgood b.cgood' ht b.most.1)
   fun p _=>NV ht b.mgood
 refine ⟨e,?_,?_⟩
 ·unfold B6;rw [e,e2]
 ·unfold B7;rw [e,e2]
end
section
variable {d m:Int} {gs:List Good} {ms:List AB} {cs:List AE} {t:Nat}
theorem QN (b:A9 d m gs ms cs) (ht:t<gs.length) :
  BH d m (Be t gs) (BC gs.length t ms) (Br gs.length t cs)=BH d m gs ms cs∧Cv d m (Be t gs) (BC gs.length t ms) (Br gs.length t cs)=Cv d m gs ms cs:=by
 have e:∀k,Cc d (Be t gs) (BC gs.length t ms) (Br gs.length t cs) k=Cc d gs ms cs k:=fun k=>by
  unfold Cc;congr 1;funext mask;exact Lm b.mlen b.mgood b.cgood' ht
 have e2:BH d m (Be t gs) (BC gs.length t ms) (Br gs.length t cs)=BH d m gs ms cs:=by
  rw [FE (Dp (b.turn ht)),FE (Dp b),e,By]
 refine ⟨e2,?_⟩;unfold Cv;rw [e2,e,By]
end
end Go.Ns
namespace Go.Ns
open Go.Conc
def GA (t:Nat) (gs:List Good) (k:Nat):List Good:=(List.range k).map fun (i:Nat)=>gs.getD ((i+t)%gs.length) Good.z
theorem Ov (t:Nat) (gs:List Good) (k:Nat):GA t gs (k+1)=GA t gs k++[gs.getD ((k+t)%gs.length) Good.z]:=by
 unfold GA;rw [List.range_succ,List.map_append];rfl
theorem QO (t:Nat) (gs:List Good) (k:Nat):(GA t gs k).length=k:=by simp [GA]
def Ez (n t:Int) (ms:List AB) (k:Nat):List AB:=BC n t (ms.take k)
theorem Ow {n t:Int} {ms:List AB} {k:Nat} (hk:k<ms.length):Ez n t ms (k+1)=Ez n t ms k++[⟨(ms.getD k AB.z).kind,tG n t (ms.getD k AB.z).good,(ms.getD k AB.z).day,(ms.getD k AB.z).low,(ms.getD k AB.z).high⟩]:=by
 unfold Ez BC;rw [FH AB.z hk,List.map_append];rfl
theorem QP (n t:Int) (ms:List AB) (k:Nat):(Ez n t ms k).length≤k:=by simp [Ez,BC];omega
theorem QQ {n t:Int} {ms:List AB} {k:Nat} (hk:k=ms.length):Ez n t ms k=BC n t ms:=by
 subst hk;unfold Ez;rw [List.take_length]
def ER (n t:Int) (cs:List AE) (k:Nat):List AE:=(cs.drop k).reverse.map fun x=>{ x with good:=tG n t x.good }
theorem QR (n t:Int) (cs:List AE) (k:Nat):(ER n t cs k).length=cs.length-k:=by simp [ER]
theorem Ox (n t:Int) (cs:List AE):ER n t cs cs.length=[]:=by simp [ER]
theorem Oy {n t:Int} {cs:List AE} {k:Nat} (hk:k<cs.length):ER n t cs k=ER n t cs (k+1)++[⟨tG n t (cs.getD k AE.z).good,(cs.getD k AE.z).day,(cs.getD k AE.z).low,(cs.getD k AE.z).high⟩]:=by
 unfold ER;rw [List.drop_eq_getElem_cons hk,List.reverse_cons,List.map_append,C6 AE.z hk];rfl
theorem Oz {n t:Int} {cs:List AE} {k:Nat} (hk:0<k∧k≤cs.length):ER n t cs (k-1)=ER n t cs k++[⟨tG n t (cs.getD ((k:Int)-1).toNat AE.z).good,(cs.getD ((k:Int)-1).toNat AE.z).day,(cs.getD ((k:Int)-1).toNat AE.z).low,(cs.getD ((k:Int)-1).toNat AE.z).high⟩]:=by
 have e:((k:Int)-1).toNat=k-1:=by omega
 rw [e,Oy (k:=k-1) (by omega),show k-1+1=k by omega]
theorem QS {n t:Int} {cs:List AE} {k:Nat} (hk:k=0):ER n t cs k=Br n t cs:=by subst hk;rfl
theorem U2 {k t n:Nat} (hk:k<n):∃i:Nat,((k:Int)+(t:Int))%(n:Int)=(i:Int)∧i<n∧i=(k+t)%n:=⟨(k+t)%n,by push_cast;rfl,Nat.mod_lt _ (by omega),rfl⟩
section
variable {d m:Int} {gs:List Good} {ms:List AB} {cs:List AE} {t:Nat}
theorem QT (h:∀k,(gs.getD k Good.z).name.size≤1000) (t:Nat):∀k,((Be t gs).getD k Good.z).name.size≤1000:=fun k=>by
 rcases Nat.lt_or_ge k gs.length with x | x
 ·rw [GT x];exact h _
 ·rw [List.getD_eq_getElem?_getD,List.getElem?_eq_none (by rw [Cd];exact x)];exact Nat.zero_le _
theorem TR (b:A9 d m gs ms cs) (ht:t<gs.length) {g dy:Int} (hg:0≤g∧g<gs.length) (hd:0≤dy∧dy≤d) :
  (AV d m gs ms cs=0∧AV d m (Be t gs) (BC gs.length t ms) (Br gs.length t cs)=0∧D1 d m (Be t gs) (BC gs.length t ms) (Br gs.length t cs)=D1 d m gs ms cs)∧
  (Bi d m (Be t gs) (BC gs.length t ms) (Br gs.length t cs) (tG gs.length t g) dy=Bi d m gs ms cs g dy∧Ep d m (Be t gs) (BC gs.length t ms) (Br gs.length t cs) (tG gs.length t g) dy=Ep d m gs ms cs g dy)∧
  (BU d m (Be t gs) (BC gs.length t ms) (Br gs.length t cs) dy=BU d m gs ms cs dy∧B6 d m (Be t gs) (BC gs.length t ms) (Br gs.length t cs) dy=B6 d m gs ms cs dy∧B7 d m (Be t gs) (BC gs.length t ms) (Br gs.length t cs) dy=B7 d m gs ms cs dy)∧
  (BH d m (Be t gs) (BC gs.length t ms) (Br gs.length t cs)=BH d m gs ms cs∧Cv d m (Be t gs) (BC gs.length t ms) (Br gs.length t cs)=Cv d m gs ms cs)∧
  (Bj d m (Be t gs) (BC gs.length t ms) (Br gs.length t cs) (tG gs.length t g) 1 d=Bj d m gs ms cs g 1 d∧Cg d m (Be t gs) (BC gs.length t ms) (Br gs.length t cs) (tG gs.length t g) 1 d=Cg d m gs ms cs g 1 d∧Ch d m (Be t gs) (BC gs.length t ms) (Br gs.length t cs) (tG gs.length t g) 1 d=Ch d m gs ms cs g 1 d):=by
 have hb:=b.days;refine ⟨⟨Dp b,Dp (b.turn ht),?_⟩,R4 b ht hg hd,QM b ht hd,QN b ht,R5 b ht hg (by omega) (by omega)⟩;unfold D1;rw [Dp b,Dp (b.turn ht),EQ b ht]
end
end Go.Ns
namespace Go.Ns
open Go.Conc
section
variable {P:Program} {Post:Value→World→Prop}
def RK (P:Program) (Post:Value→World→Prop):Wk P:=⟨true,C8 P Post,Ht⟩
theorem NX:K7 (RK P Post):=⟨Post,rfl⟩
theorem R6 {f:FuncId} {fn:Func} {c:Code} {args:Array Value} {h:GH} {R:Value→GH→Prop} (hf:P.funcs[f]? =some fn) (hb:fn.body=some c) (hsz:args.size≤fn.ntmps) (hin:P.inits.idxOf? f=none) (hpost:∀v h',R v h'→∀w,C5 w h'→Post v w)
  (x:Tr ⟨RK P Post,f,none,fn.ntmps⟩ c (fun i=>args.getD i undef) [] h (fun e σ ds h'=>(e=.normal∨e=.ret)∧E6 P fn σ R ds h')):C8 P Post (G (Frame.enter P f args .normal) []) h:=by
 have e0:Frame.enter P f args .normal=B9 (Frame.enter P f args .normal) (args++Array.replicate (fn.ntmps-args.size) undef) [] [.code c]:=by
  simp [Frame.enter,B9,hf,hb]
 rw [e0];let L:Lv:=fun j t ds h'=>(j=none∨j=some .ret)∧∃σ,BV t fn.ntmps σ∧E6 P fn σ R ds h';have fin:∀σ ds h' t k,BV t fn.ntmps σ→E6 P fn σ R ds h'→(RK P Post).K (G (Cy (Frame.enter P f args .normal) t ds k) []) h':=by
  intro σ ds h' t k hs ho;refine Jb (W:=RK P Post) (R:=R) hf (b:=Frame.enter P f args .normal) rfl (fun t k v h h' hr hrun=>?_) ds h' t k hs ho;refine PP rfl fun w fw=>?_;obtain ⟨w',es,r1,r2⟩:=hrun w fw;refine ⟨v,w',seen P f es++ #[],h',?_,r2.sub (es':=seen P f es++ #[]) fun e he=>?_,hpost v h' hr w' r2.fits⟩
  ·rw [IA];unfold unwind;have hfn:(Cy (Frame.enter P f args .normal) t [] k).fn=f:=rfl;have hk:(Cy (Frame.enter P f args .normal) t [] k).kind=.normal:=rfl;have hm:(Cy (Frame.enter P f args .normal) t [] k).mode=.returning:=rfl;have hd:(Cy (Frame.enter P f args .normal) t [] k).defers=[]:=rfl;have ht:(Cy (Frame.enter P f args .normal) t [] k).tmps=t:=rfl;simp only [hd,hm,hfn,hf,ht,r1,GStep.after,doReturn,hk,hin];rfl
  ·rw [Array.append_empty] at he;exact mem_seen he
 refine x (Frame.enter P f args .normal) [] [] L _ rfl rfl ⟨?_,?_,?_⟩ ⟨by simp;omega,fun i=>?_⟩ ?_
 ·rintro t ds h' ⟨_,σ,hs,ho⟩;exact Wk.go (Cy (Frame.enter P f args .normal) t ds []) (fun w=>by rw [At];simp [stepG.exec,B9,Cy,G,Frame.enter]) (fin σ ds h' t [] hs ho)
 ·rintro t ds h' k ⟨_,σ,hs,ho⟩;exact Wk.go (Cy (Frame.enter P f args .normal) t ds (.code .ret ::k)) (fun w=>by rw [At];simp [stepG.exec,B9,Cy,G,Frame.enter]) (fin σ ds h' t _ hs ho)
 ·rintro id t ds h' k _ ⟨h1 | h1,_⟩ <;> cases h1
 ·by_cases hi:i<args.size
  ·simp [Array.getD_eq_getD_getElem?,Array.getElem?_append_left hi]
  ·simp only [Array.getD_eq_getD_getElem?];rw [Array.getElem?_append_right (by omega),Array.getElem?_eq_none (show args.size≤i by omega),Array.getElem?_replicate];split <;> rfl
 ·rintro e σ ds h' ⟨he,ho⟩ t' ht';rcases he with rfl | rfl
  ·exact Wk.go (Cy (Frame.enter P f args .normal) t' ds []) (fun w=>by rw [At];simp [stepG.exec,B9,Cy,G,Frame.enter]) (fin σ ds h' t' [] ht' ho)
  ·exact ⟨.inr rfl,σ,ht',ho⟩
def GH.of (W:World):GH:=fun b=>(W.heap[b]?).map fun o=>(false,o)
theorem GH.of_some {W:World} {b:Nat} {o:Obj} (h:W.heap[b]? =some o):GH.of W b=some (false,o):=by unfold GH.of;rw [h];rfl
theorem UQ (W:World):C5 W (GH.of W):=fun b p o h=>by
 unfold GH.of at h;cases e:W.heap[b]? with
 | none=>rw [e] at h;cases h
 | some x=>rw [e] at h;cases h;rfl
theorem UR {W w:World} {h:GH} (l:(GH.of W).Le h) (f:C5 w h) {b:Nat} {o:Obj} (hb:W.heap[b]? =some o):w.heap[b]? =some o:=f b _ _ (l.keep (GH.of_some hb) rfl)
theorem QU {g:Goroutine} {W:World} (hg:C8 P Post g (GH.of W)):BT P (GY Post W.os W.output) (solo g W) #[]:=by
 have hno:∀k a,touchAt (#[]:Trace) k=some a→False:=fun k a h=>by
  obtain ⟨op,h1,_⟩:=touch_of h;simp at h1
 refine hg #[g] W none (fun _=>0) #[] ⟨rfl,?_,UQ W,?_,?_,fun k a b hk=>(hno k a hk).elim,?_,fun k a hk=>(hno k a hk).elim,fun b p o k a _ _ hk=>(hno k a hk).elim⟩
 ·intro j x hj hx;rw [Array.getElem?_eq_none (by simp;omega)] at hx;cases hx
 ·intro op hop;simp at hop
 ·rintro said ⟨i,j,hij,⟨a,b,ha,_⟩,_⟩;exact hno i a ha
 ·intro op hop;simp at hop
end
end Go.Ns
namespace Go.Ns
open Go.Conc Go.ChangeShapes Go.WideShapes Go.ChangeAt Go.RowKit
section
variable {P:Program} {W:World}
theorem QV {b off n:Nat} {cs:List Value} (h:W.cells? 0 ⟨b,off,none⟩ n=some cs) (hn:0<n):Ab (GH.of W) b off n cs.toArray:=by
 obtain ⟨_,hl,hc⟩:=World.cells?_some h;have hcell:∀i,i<n→W.cell? ⟨b,off+i,none⟩=cs[i]? :=fun i hi=>by
  have:=hc i hi
  unfold Addr.add at this;split at this
  ·rename_i e;subst e;exact this
  ·exact this
 have h0:=hcell 0 hn;unfold World.cell? at h0;cases hb:W.heap[b]? with
 | none=>simp [hb,List.getElem?_eq_getElem (show 0<cs.length by omega)] at h0
 | some o=>
  cases o with
  | cells c t f=>
   have hall:∀i,i<n→c[off+i]? =cs[i]? :=fun i hi=>by
    have:=hcell i hi
    unfold World.cell? at this;simpa [hb] using this
   have hlast:=hall (n-1) (by omega);rw [List.getElem?_eq_getElem (show n-1<cs.length by omega)] at hlast;have hsz:=(Array.getElem?_eq_some_iff.1 hlast).1;refine ⟨false,c,t,f,GH.of_some hb,by omega,?_⟩;apply Array.ext
   ·simp;omega
   ·intro i h1 h2;have hi:i<n:=by simp at h2;omega
    have:=hall i hi
    rw [Array.getElem?_eq_getElem (by omega),List.getElem?_eq_getElem (by omega)] at this;simpa using this
  | _=>simp [hb,List.getElem?_eq_getElem (show 0<cs.length by omega)] at h0
def RL (P:Program) (e:TypeId) {α:Type} (enc:α→Array Value) (good:α→Prop):Prop:=
 ∀{H:Type} (en:TypeId×Value→H) (W:World) (base:Nat) (sp:Nat→Bool) (held:Bool) (fuel:Nat) (cs:List Value) (x:DataW H×List MemPlace),DataW.trod en P W base sp held fuel e cs=some x→∃a:α,cs=(enc a).toList∧good a
theorem NY {H:Type} {en:TypeId×Value→H} {sp:Nat→Bool} {held:Bool} {fuel:Nat} {t e:TypeId} {n:Nat} {α:Type} {enc:α→Array Value} {good:α→Prop} {v:Value} {d:DataW H} {ps:List MemPlace} (ht:P.underlying t=some (.slice e)) (hc:P.cellsOf e=n) (hn:0<n)
  (ho:RL P e enc good) (h:DataW.trod en P W 0 sp held fuel t [v]=some (d,ps)) (hw:∀es rs,d=.slice es rs→es.length≤140737488355328):∃xs:List α,AO (GH.of W) v n enc xs∧∀x ∈ xs,good x:=by
 rcases DataW.trod_slice ht h with ⟨h1,_⟩ | ⟨a,len,cap,elems,rest,m,rfl,h1,h2,_,hl,_,hlen,hel,_,_⟩
 ·simp at h1;subst h1;exact ⟨[],AO.nil _ _ _,fun x hx=>by cases hx⟩
 ·simp only [List.cons.injEq,and_true] at h1;subst h1;simp only [Prod.mk.injEq] at h2;have hlim:len≤140737488355328:=by
   have:=hw _ _ h2.1
   simpa [hlen] using this
  have each:∀i,i<len→∃x:α,∃b off,a=⟨b,off,none⟩∧Ab (GH.of W) b (off+i*n) n (enc x)∧good x:=fun i hi=>by
   have:=hel i hi
   rw [List.getElem?_eq_getElem (by omega),hc] at this;simp only [Option.bind_eq_some_iff] at this;obtain ⟨cs,hcs,hx⟩:=this;obtain ⟨x,e1,e2⟩:=ho _ _ _ _ _ _ _ _ hx;have hc0:=(World.cells?_some hcs).2.2 0 hn;have hlen2:=(World.cells?_some hcs).2.1;rw [List.getElem?_eq_getElem (show 0<cs.length by omega)] at hc0;have hsp:=World.cell?_spot hc0;obtain ⟨b,off,spot⟩:=a;have hspot:spot=none∨i≠0:=by
    by_cases e0:i=0
    ·subst e0;left;simpa [Addr.add] using hsp
    ·exact .inr e0
   have hfirst:spot=none:=by
    rcases hspot with e | e
    ·exact e
    ·have h00:=hel 0 (by omega);rw [List.getElem?_eq_getElem (by omega),hc] at h00;simp only [Option.bind_eq_some_iff] at h00;obtain ⟨c0,hc00,_⟩:=h00;have z:=(World.cells?_some hc00).2.2 0 hn;have zl:=(World.cells?_some hc00).2.1;rw [List.getElem?_eq_getElem (show 0<c0.length by omega)] at z
     have:=World.cell?_spot z
     simpa [Addr.add] using this
   subst hfirst;refine ⟨x,b,off,rfl,?_,e2⟩;have ea:(Addr.add ⟨b,off,none⟩ (i*n))=⟨b,off+i*n,none⟩:=by
    unfold Addr.add;split
    ·rename_i e;rw [e];rfl
    ·rfl
   rw [ea] at hcs
   have:=QV hcs hn
   rw [e1] at this;simpa using this
  by_cases hz:len=0
  ·subst hz;exact ⟨[],⟨some a,cap,rfl,Nat.zero_le _,Nat.zero_le _,fun i hi=>by simp at hi⟩,fun x hx=>by cases hx⟩
  ·have hch:∀i:Fin len,∃x:α,∃b off,a=⟨b,off,none⟩∧Ab (GH.of W) b (off+i.val*n) n (enc x)∧good x:=fun i=>each i.val i.isLt;refine ⟨List.ofFn fun i=>Classical.choose (hch i),⟨some a,cap,by rw [List.length_ofFn],by rw [List.length_ofFn];exact hl,by rw [List.length_ofFn];exact hlim,fun i hi=>?_⟩,fun x hx=>?_⟩
   ·rw [List.length_ofFn] at hi;obtain ⟨b,off,e1,e2,_⟩:=Classical.choose_spec (hch ⟨i,hi⟩);refine ⟨b,off,by rw [e1],?_⟩;rw [List.getElem_ofFn];exact e2
   ·obtain ⟨i,rfl⟩:=List.mem_ofFn.1 hx;obtain ⟨_,_,_,_,e3⟩:=Classical.choose_spec (hch i);exact e3
theorem Hn {H:Type} {en:TypeId×Value→H} {t:TypeId} (hl:laidOutB P=true) (hr:P.readableRec t=true) (hrow:t<P.types.size) {W':World} {v:Value} {d:DataW H} {ps:List MemPlace} (h:DataW.Trod en P W 0 (fun _=>true) true t v d ps)
  (hk:∀(b:Nat) (o:Obj),W.heap[b]? =some o→W'.heap[b]? =some o) (hlt:∀x ∈ ps,x.block<W.heap.size):DataW.Trod en P W' 0 (fun b=>decide (b<W.heap.size)) true t v d ps:=by
 let W2:World:={ W' with os:=W.os,tape:=W.tape,output:=W.output };have hsz:W.heap.size≤W'.heap.size:=by
  rcases Nat.lt_or_ge W'.heap.size W.heap.size with x | x
  ·have:=hk W'.heap.size _ (Array.getElem?_eq_getElem x)
   rw [Array.getElem?_eq_none (Nat.le_refl _)] at this;cases this
  ·exact x
 have hb:Below W.heap.size W W2:=⟨rfl,rfl,rfl,hsz,fun k hk'=>by
  show W'.heap[k]? =_;rw [Array.getElem?_eq_getElem hk'];exact hk k _ (Array.getElem?_eq_getElem hk')⟩
 exact DataW.Trod.of_heap (w:=W2) (w':=W') rfl (Below.trod hl hr hrow h hb hlt)
theorem TS {W':World} (hk:∀(b:Nat) (o:Obj),W.heap[b]? =some o→W'.heap[b]? =some o) (ho:W'.os=W.os) (hp:W'.output=W.output) (may:MemPlace→Prop):W.keptBut W' may:=by
 refine ⟨ho,hp,fun i hi=>?_⟩;rw [hk i _ (Array.getElem?_eq_getElem hi),Array.getElem?_eq_getElem hi];split <;> simp_all
end
end Go.Ns
namespace Go.Ns
open Go.Conc
universe u
theorem Z {α:Sort u} {a:α}:a=a:=rfl
theorem Lr {h:GH}:GH.Le h h:=GH.Le.refl h
theorem Ln {h h':GH} (l:h.Le h') {r:Nat} (hr:h' r=none):h r=none:=l.nothing hr
theorem CS {h:GH} {b r:Nat} {p:Bool} {o:Obj} (hb:h b=some (p,o)) (hr:h r=none):b≠r:=GH.ne_of hb hr
theorem Nb {a b:Nat} (h:Nat.ble a b=true):a≤b:=Nat.le_of_ble_eq_true h
theorem Dn {p:Prop} [Decidable p] (h:¬¬p):p:=Decidable.not_not.1 h
theorem Et {α:Sort u} {a b c:α} (x:a=b) (y:b=c):a=c:=x.trans y
theorem Kl {h0 h:GH} (k:DE (fun b=>h0 b=none) h0 h):h0.Le h:=k.leOf
theorem Bx {h:GH} {b:Nat} {p:Bool} {c:Array Value} {t:TypeId} {f:Nat×Nat} (hb:h b=some (p,.cells c t f)) {n:Nat} (hn:c.size=n):Ab h b 0 n c:=Ab.box hb hn
abbrev lE (v:Value):GM:=fun _ u _=>u=v
abbrev lF (v:Value):LT:=fun u _=>u=v
abbrev zP:Array Value:=#[.int .i64 0,.int .i64 0,.slice none 0 0,.slice none 0 0,.slice none 0 0,.slice none 0 0,.map none]
section
variable {P:Program} {E:FL P} {σ:Nat→Value} {ds:List Deferred} {h:GH} {Q:Post} {T:(Nat→Value)→List Deferred→GH→Prop}
variable {dst:Option Nat} {ty:TypeId} {pos:String} {af:Array Edge} {ops:Array Oper} {o:Oper} {l:List Oper}
theorem Sq {x y:Code} (a:Tr E x σ ds h (fun e σ' ds' h'=>match e with | .normal=>Tr E y σ' ds' h' Q | e=>Q e σ' ds' h')):Tr E (.seq x y) σ ds h Q:=SS a
theorem Rg {id:Nat} {l:List Oper} (a:DY E l.toArray l σ ds h Q):Tr E (.region id l.toArray false) σ ds h Q:=RO a
theorem Nl (q:Q .normal σ ds h):DY E ops [] σ ds h Q:=Tt q
abbrev Rt:=@Uh
abbrev Bk:=@ST
abbrev Sk:=@Tq
abbrev Xt:=@Ts
def TT (N:Nat) (o:Oper):Bool:=o.guard.isNone && !DM o.op && Dg o.dst N
theorem Pl (hp:TT E.N o=true) (x:BW E o σ ds h fun σ' ds' h'=>DY E ops l σ' ds' h' Q):DY E ops (o ::l) σ ds h Q:=by
 simp only [TT,Bool.and_eq_true,Option.isNone_iff_eq_none,Bool.not_eq_true'] at hp;exact EY hp.1.1 hp.1.2 hp.2 x
theorem Mv {x:Operand} (v:Value) (hp:Dg dst E.N=true) (hx:AQ σ x=v) (k:DY E ops l (putS σ dst v) ds h Q):DY E ops (⟨dst,.move x,ty,pos,af,none⟩ ::l) σ ds h Q:=EY rfl rfl hp (AA hx k)
theorem As {x:Operand} (v:Value) (hp:Dg dst E.N=true) (hx:AQ σ x=v) (k:DY E ops l (putS σ dst v) ds h Q):DY E ops (⟨dst,.assign x,ty,pos,af,none⟩ ::l) σ ds h Q:=EY rfl rfl hp (GD hx k)
theorem Ld {t:TypeId} {x:Operand} {b off:Nat} (v:Value) (hp:Dg dst E.N=true) (hx:AQ σ x=.pointer (some ⟨b,off,none⟩)) (hr:Rd P h t b off v) (k:DY E ops l (putS σ dst v) ds h Q):DY E ops (⟨dst,.load t x,ty,pos,af,none⟩ ::l) σ ds h Q:=
 EY rfl rfl hp (AI hx hr k)
theorem Fa {s:TypeId} {x:Operand} {f o b off:Nat} (hf:Cz P s f=some o) (hp:Dg dst E.N=true) (hx:AQ σ x=.pointer (some ⟨b,off,none⟩)) (k:DY E ops l (putS σ dst (.pointer (some ⟨b,off+o,none⟩))) ds h Q) :
  DY E ops (⟨dst,.fieldAddr s x f,ty,pos,af,none⟩ ::l) σ ds h Q:=EY rfl rfl hp (AT hf hx k)
theorem Pk {c a b:Operand} (t:Bool) (v:Value) (hp:Dg dst E.N=true) (hc:AQ σ c=.bool t) (hv:(if t then AQ σ a else AQ σ b)=v) (k:DY E ops l (putS σ dst v) ds h Q):DY E ops (⟨dst,.pick c a b,ty,pos,af,none⟩ ::l) σ ds h Q:=
 EY rfl rfl hp (BZ hc hv k)
theorem Ad {xt yt:TypeId} {x y:Operand} (a b:Int) (hp:Dg dst E.N=true) (hx:AQ σ x=.int .i64 a) (hy:AQ σ y=.int .i64 b) (hr: -9223372036854775808≤a+b∧a+b≤9223372036854775807) (k:DY E ops l (putS σ dst (.int .i64 (a+b))) ds h Q) :
  DY E ops (⟨dst,.binOp .add xt x y yt,ty,pos,af,none⟩ ::l) σ ds h Q:=EY rfl rfl hp (CL hx hy hr k)
def Ug (N:Nat) (ops:Array Oper) (o:Oper) (j d:Nat) (is:Bool):Bool:=(match o.guard with
 | some (i,w)=>i==j && w !=is
 | none=>false) && (match ops[j]? with
 | some oj=>(match oj.dst with
  | some e=>e==d
  | none=>false)
 | none=>false) && Nat.blt d N && Dg o.dst N
theorem Gs (j d:Nat) {is:Bool} (hv:σ d=.bool is) (hs:Ug E.N ops o j d is=true) (x:DY E ops l (putS σ o.dst undef) ds h Q):DY E ops (o ::l) σ ds h Q:=by
 simp only [Ug,Bool.and_eq_true] at hs;obtain ⟨⟨⟨h1,h2⟩,h3⟩,h4⟩:=hs;cases hg:o.guard with
 | none=>rw [hg] at h1;cases h1
 | some q=>
  obtain ⟨i,w⟩:=q;rw [hg] at h1;simp only [Bool.and_eq_true,beq_iff_eq,bne_iff_ne,ne_eq] at h1;obtain ⟨rfl,hne⟩:=h1;cases hj:ops[i]? with
  | none=>rw [hj] at h2;cases h2
  | some oj=>
   cases hd:oj.dst with
   | none=>simp [hj,hd] at h2
   | some e=>
    obtain rfl:e=d:=by simpa [hj,hd] using h2
    exact KE hg hj hd hv h3 hne h4 x
def Vw (N:Nat) (ops:Array Oper) (o:Oper) (j d:Nat) (is:Bool):Bool:=(match o.guard with
 | some (i,w)=>i==j && w==is
 | none=>false) && (match ops[j]? with
 | some oj=>(match oj.dst with
  | some e=>e==d
  | none=>false)
 | none=>false) && Nat.blt d N && !DM o.op && Dg o.dst N
theorem Gg (j d:Nat) {is:Bool} (hv:σ d=.bool is) (hs:Vw E.N ops o j d is=true) (x:BW E o σ ds h fun σ' ds' h'=>DY E ops l σ' ds' h' Q):DY E ops (o ::l) σ ds h Q:=by
 simp only [Vw,Bool.and_eq_true,Bool.not_eq_true'] at hs;obtain ⟨⟨⟨⟨h1,h2⟩,h3⟩,h5⟩,h4⟩:=hs;cases hg:o.guard with
 | none=>rw [hg] at h1;cases h1
 | some q=>
  obtain ⟨i,w⟩:=q;rw [hg] at h1;simp only [Bool.and_eq_true,beq_iff_eq] at h1;obtain ⟨rfl,rfl⟩:=h1;cases hj:ops[i]? with
  | none=>rw [hj] at h2;cases h2
  | some oj=>
   cases hd:oj.dst with
   | none=>simp [hj,hd] at h2
   | some e=>
    obtain rfl:e=d:=by simpa [hj,hd] using h2
    exact T0 hg hj hd hv h3 (.inr h5) h4 x
end
section
variable {S:Nat→Prop} {Pre:Nat→GH→Prop} {Φ:List GM} {cl:List Nat} {k d:Nat} {h h':GH} {σ:Nat→Value} {ds:List Deferred} {v:Value}
theorem fS (p:Ec Φ k (putS σ (some d) v) v h):ds=ds∧St (DE S) Pre Φ cl k h h∧∃w,putS σ (some d) v=putS σ (some d) w∧Ec Φ k (putS σ (some d) v) w h∧((some d:Option Nat)=none→w=undef):=
 ⟨rfl,St.same,_,rfl,p,fun e=>by cases e⟩
theorem fT (l:h.Le h') (m:C7 GH.Le Φ) (p:Ec Φ k (putS σ (some d) v) v h'):ds=ds∧St (DE S) (fun _ _=>True) Φ cl k h h'∧∃w,putS σ (some d) v=putS σ (some d) w∧Ec Φ k (putS σ (some d) v) w h'∧((some d:Option Nat)=none→w=undef):=
 ⟨rfl,St.ofLe l m (fun _ _ _ _ _=>trivial),_,rfl,p,fun e=>by cases e⟩
theorem fL {Φ:List LT} (p:If Φ k v h):ds=ds∧GH.Le h h∧∃w,putS σ (some d) v=putS σ (some d) w∧If Φ k w h:=⟨rfl,GH.Le.refl _,_,rfl,p⟩
theorem L1 {R:GH→GH→Prop} {a:Value} (x:C7 R Φ):C7 R (lE a ::Φ):=⟨fun _ _ _ _ _ y=>y,x⟩
theorem L2 {R:GH→GH→Prop} {a b:Value} (x:C7 R Φ):C7 R (lE a ::lE b ::Φ):=L1 (L1 x)
theorem L4 {R:GH→GH→Prop} {a b c d:Value} (x:C7 R Φ):C7 R (lE a ::lE b ::lE c ::lE d ::Φ):=L2 (L2 x)
theorem L8 {R:GH→GH→Prop} {a b c d a' b' c' d':Value} (x:C7 R Φ):C7 R (lE a ::lE b ::lE c ::lE d ::lE a' ::lE b' ::lE c' ::lE d' ::Φ):=L4 (L4 x)
theorem K1 {R:GH→GH→Prop} {Φ:List LT} {a:Value} (x:D9 R Φ):D9 R (lF a ::Φ):=⟨fun _ _ _ _ y=>y,x⟩
theorem K2 {R:GH→GH→Prop} {Φ:List LT} {a b:Value} (x:D9 R Φ):D9 R (lF a ::lF b ::Φ):=K1 (K1 x)
theorem K4 {R:GH→GH→Prop} {Φ:List LT} {a b c d:Value} (x:D9 R Φ):D9 R (lF a ::lF b ::lF c ::lF d ::Φ):=K2 (K2 x)
theorem K8 {R:GH→GH→Prop} {Φ:List LT} {a b c d a' b' c' d':Value} (x:D9 R Φ):D9 R (lF a ::lF b ::lF c ::lF d ::lF a' ::lF b' ::lF c' ::lF d' ::Φ):=K4 (K4 x)
end
theorem Dk {P:Program} {E:FL P} {S:Nat→Prop} {id:Nat} {l:List Oper} {σ:Nat→Value} {ds:List Deferred} {h:GH} {Q:Post} {Φ:List GM} (_:C7 GH.Le Φ) (n:Nat) (cls:List (List Nat)) (Pre:Nat→GH→Prop)
  (hm:P.follows .mixedOrders=true) (ok:D3 E.N l n cls=true) (p0:∀k,k<n→Pre k h) (ind:M9 l n cls Φ) (x:HG (DE S) Pre E l n Φ σ ds h Q n 0 l cls):Tr E (.region id l.toArray true) σ ds h Q:=
 RW n cls Φ Pre hm ok p0 ind x
end Go.Ns
namespace Go.Ns.Fx
open Go.Conc Go.Proofs
theorem app22_22:Hv Tryd.prog 22 22=some (57,5,48):=by kernel_rfl
theorem app23_23:Hv Tryd.prog 23 23=some (41,5,40):=by kernel_rfl
theorem app24_24:Hv Tryd.prog 24 24=some (71,4,32):=by kernel_rfl
theorem app30_30:Hv Tryd.prog 30 30=some (3,1,8):=by kernel_rfl
theorem app44_44:Hv Tryd.prog 44 44=some (30,1,24):=by kernel_rfl
theorem app94_94:Hv Tryd.prog 94 94=some (87,15,80):=by kernel_rfl
theorem arr130:Q1 Tryd.prog 130=some (4,false,1):=by kernel_rfl
theorem arr85:Q1 Tryd.prog 85=some (6,false,1):=by kernel_rfl
theorem asz121:Jd Tryd.prog 121=some (5,2):=by kernel_rfl
theorem asz83:Jd Tryd.prog 83=some (3,1):=by kernel_rfl
theorem asz84:Jd Tryd.prog 84=some (6,1):=by kernel_rfl
theorem asz85:Jd Tryd.prog 85=some (6,1):=by kernel_rfl
theorem call10:AR Tryd.f10=true:=by kernel_rfl
theorem call100:AR Tryd.f100=true:=by kernel_rfl
theorem call101:AR Tryd.f101=true:=by kernel_rfl
theorem call102:AR Tryd.f102=true:=by kernel_rfl
theorem call103:AR Tryd.f103=true:=by kernel_rfl
theorem call105:AR Tryd.f105=true:=by kernel_rfl
theorem call106:AR Tryd.f106=true:=by kernel_rfl
theorem call107:AR Tryd.f107=true:=by kernel_rfl
theorem call108:AR Tryd.f108=true:=by kernel_rfl
theorem call109:AR Tryd.f109=true:=by kernel_rfl
theorem call11:AR Tryd.f11=true:=by kernel_rfl
theorem call110:AR Tryd.f110=true:=by kernel_rfl
theorem call111:AR Tryd.f111=true:=by kernel_rfl
theorem call112:AR Tryd.f112=true:=by kernel_rfl
theorem call113:AR Tryd.f113=true:=by kernel_rfl
theorem call13:AR Tryd.f13=true:=by kernel_rfl
theorem call130:AR Tryd.f130=true:=by kernel_rfl
theorem call131:AR Tryd.f131=true:=by kernel_rfl
theorem call132:AR Tryd.f132=true:=by kernel_rfl
theorem call133:AR Tryd.f133=true:=by kernel_rfl
theorem call134:AR Tryd.f134=true:=by kernel_rfl
theorem call135:AR Tryd.f135=true:=by kernel_rfl
theorem call136:AR Tryd.f136=true:=by kernel_rfl
theorem call137:AR Tryd.f137=true:=by kernel_rfl
theorem call138:AR Tryd.f138=true:=by kernel_rfl
theorem call139:AR Tryd.f139=true:=by kernel_rfl
theorem call140:AR Tryd.f140=true:=by kernel_rfl
theorem call141:AR Tryd.f141=true:=by kernel_rfl
theorem call15:AR Tryd.f15=true:=by kernel_rfl
theorem call16:AR Tryd.f16=true:=by kernel_rfl
theorem call17:AR Tryd.f17=true:=by kernel_rfl
theorem call18:AR Tryd.f18=true:=by kernel_rfl
theorem call19:AR Tryd.f19=true:=by kernel_rfl
theorem call20:AR Tryd.f20=true:=by kernel_rfl
theorem call21:AR Tryd.f21=true:=by kernel_rfl
theorem call22:AR Tryd.f22=true:=by kernel_rfl
theorem call23:AR Tryd.f23=true:=by kernel_rfl
theorem call25:AR Tryd.f25=true:=by kernel_rfl
theorem call30:AR Tryd.f30=true:=by kernel_rfl
theorem call31:AR Tryd.f31=true:=by kernel_rfl
theorem call32:AR Tryd.f32=true:=by kernel_rfl
theorem call33:AR Tryd.f33=true:=by kernel_rfl
theorem call34:AR Tryd.f34=true:=by kernel_rfl
theorem call35:AR Tryd.f35=true:=by kernel_rfl
theorem call36:AR Tryd.f36=true:=by kernel_rfl
theorem call39:AR Tryd.f39=true:=by kernel_rfl
theorem call40:AR Tryd.f40=true:=by kernel_rfl
theorem call41:AR Tryd.f41=true:=by kernel_rfl
theorem call42:AR Tryd.f42=true:=by kernel_rfl
theorem call43:AR Tryd.f43=true:=by kernel_rfl
theorem call44:AR Tryd.f44=true:=by kernel_rfl
theorem call45:AR Tryd.f45=true:=by kernel_rfl
theorem call46:AR Tryd.f46=true:=by kernel_rfl
theorem call47:AR Tryd.f47=true:=by kernel_rfl
theorem call48:AR Tryd.f48=true:=by kernel_rfl
theorem call49:AR Tryd.f49=true:=by kernel_rfl
theorem call50:AR Tryd.f50=true:=by kernel_rfl
theorem call51:AR Tryd.f51=true:=by kernel_rfl
theorem call52:AR Tryd.f52=true:=by kernel_rfl
theorem call53:AR Tryd.f53=true:=by kernel_rfl
theorem call54:AR Tryd.f54=true:=by kernel_rfl
theorem call55:AR Tryd.f55=true:=by kernel_rfl
theorem call56:AR Tryd.f56=true:=by kernel_rfl
theorem call57:AR Tryd.f57=true:=by kernel_rfl
theorem call58:AR Tryd.f58=true:=by kernel_rfl
theorem call59:AR Tryd.f59=true:=by kernel_rfl
theorem call60:AR Tryd.f60=true:=by kernel_rfl
theorem call61:AR Tryd.f61=true:=by kernel_rfl
theorem call62:AR Tryd.f62=true:=by kernel_rfl
theorem call63:AR Tryd.f63=true:=by kernel_rfl
theorem call64:AR Tryd.f64=true:=by kernel_rfl
theorem call65:AR Tryd.f65=true:=by kernel_rfl
theorem call67:AR Tryd.f67=true:=by kernel_rfl
theorem call68:AR Tryd.f68=true:=by kernel_rfl
theorem call69:AR Tryd.f69=true:=by kernel_rfl
theorem call70:AR Tryd.f70=true:=by kernel_rfl
theorem call71:AR Tryd.f71=true:=by kernel_rfl
theorem call72:AR Tryd.f72=true:=by kernel_rfl
theorem call73:AR Tryd.f73=true:=by kernel_rfl
theorem call74:AR Tryd.f74=true:=by kernel_rfl
theorem call75:AR Tryd.f75=true:=by kernel_rfl
theorem call76:AR Tryd.f76=true:=by kernel_rfl
theorem call77:AR Tryd.f77=true:=by kernel_rfl
theorem call78:AR Tryd.f78=true:=by kernel_rfl
theorem call79:AR Tryd.f79=true:=by kernel_rfl
theorem call80:AR Tryd.f80=true:=by kernel_rfl
theorem call81:AR Tryd.f81=true:=by kernel_rfl
theorem call82:AR Tryd.f82=true:=by kernel_rfl
theorem call83:AR Tryd.f83=true:=by kernel_rfl
theorem call84:AR Tryd.f84=true:=by kernel_rfl
theorem call85:AR Tryd.f85=true:=by kernel_rfl
theorem call86:AR Tryd.f86=true:=by kernel_rfl
theorem call87:AR Tryd.f87=true:=by kernel_rfl
theorem call88:AR Tryd.f88=true:=by kernel_rfl
theorem call89:AR Tryd.f89=true:=by kernel_rfl
theorem call90:AR Tryd.f90=true:=by kernel_rfl
theorem call91:AR Tryd.f91=true:=by kernel_rfl
theorem call92:AR Tryd.f92=true:=by kernel_rfl
theorem call93:AR Tryd.f93=true:=by kernel_rfl
theorem call94:AR Tryd.f94=true:=by kernel_rfl
theorem call95:AR Tryd.f95=true:=by kernel_rfl
theorem call96:AR Tryd.f96=true:=by kernel_rfl
theorem call97:AR Tryd.f97=true:=by kernel_rfl
theorem call98:AR Tryd.f98=true:=by kernel_rfl
theorem call99:AR Tryd.f99=true:=by kernel_rfl
theorem eqg39:Tryd.prog.eqGuardType Tryd.prog.depth 39=false:=by kernel_rfl
theorem esz122:Dc Tryd.prog 122=some 1:=by kernel_rfl
theorem esz22:Dc Tryd.prog 22=some 5:=by kernel_rfl
theorem esz23:Dc Tryd.prog 23=some 5:=by kernel_rfl
theorem esz24:Dc Tryd.prog 24=some 4:=by kernel_rfl
theorem Vx:Dc Tryd.prog 27=some 1:=by kernel_rfl
theorem esz30:Dc Tryd.prog 30=some 1:=by kernel_rfl
theorem esz44:Dc Tryd.prog 44=some 1:=by kernel_rfl
theorem esz50:Dc Tryd.prog 50=some 1:=by kernel_rfl
theorem esz94:Dc Tryd.prog 94=some 15:=by kernel_rfl
theorem fld120_1:Cz Tryd.prog 120 1=some 1:=by kernel_rfl
theorem fld26_0:Cz Tryd.prog 26 0=some 0:=by kernel_rfl
theorem fld26_1:Cz Tryd.prog 26 1=some 1:=by kernel_rfl
theorem fld26_2:Cz Tryd.prog 26 2=some 2:=by kernel_rfl
theorem fld26_3:Cz Tryd.prog 26 3=some 3:=by kernel_rfl
theorem fld26_4:Cz Tryd.prog 26 4=some 4:=by kernel_rfl
theorem fld39_0:Cz Tryd.prog 39 0=some 0:=by kernel_rfl
theorem fld39_1:Cz Tryd.prog 39 1=some 1:=by kernel_rfl
theorem fld41_0:Cz Tryd.prog 41 0=some 0:=by kernel_rfl
theorem fld41_1:Cz Tryd.prog 41 1=some 1:=by kernel_rfl
theorem fld41_2:Cz Tryd.prog 41 2=some 2:=by kernel_rfl
theorem fld41_3:Cz Tryd.prog 41 3=some 3:=by kernel_rfl
theorem fld57_0:Cz Tryd.prog 57 0=some 0:=by kernel_rfl
theorem fld57_1:Cz Tryd.prog 57 1=some 1:=by kernel_rfl
theorem fld57_2:Cz Tryd.prog 57 2=some 2:=by kernel_rfl
theorem fld57_3:Cz Tryd.prog 57 3=some 3:=by kernel_rfl
theorem fld71_0:Cz Tryd.prog 71 0=some 0:=by kernel_rfl
theorem fld71_1:Cz Tryd.prog 71 1=some 1:=by kernel_rfl
theorem fld71_2:Cz Tryd.prog 71 2=some 2:=by kernel_rfl
theorem fld87_0:Cz Tryd.prog 87 0=some 0:=by kernel_rfl
theorem fld87_1:Cz Tryd.prog 87 1=some 3:=by kernel_rfl
theorem fld87_2:Cz Tryd.prog 87 2=some 9:=by kernel_rfl
theorem fld92_0:Cz Tryd.prog 92 0=some 0:=by kernel_rfl
theorem fld97_0:Cz Tryd.prog 97 0=some 0:=by kernel_rfl
theorem fld97_1:Cz Tryd.prog 97 1=some 5:=by kernel_rfl
theorem fld97_2:Cz Tryd.prog 97 2=some 6:=by kernel_rfl
theorem infs30:(Tryd.prog.info? 30).isSome=true:=by kernel_rfl
theorem infz30:(Tryd.prog.info? 30).map (·.zero)=some (some (.slice none 0 0)):=by kernel_rfl
theorem kind140:JF Tryd.prog 140=some .u64:=by kernel_rfl
theorem kind158:JF Tryd.prog 158=some .u64:=by kernel_rfl
theorem kind3:JF Tryd.prog 3=some .i64:=by kernel_rfl
theorem kind5:JF Tryd.prog 5=some .u8:=by kernel_rfl
theorem map117:Hw Tryd.prog 117=some (3,3):=by kernel_rfl
theorem map95:Hw Tryd.prog 95=some (127,3):=by kernel_rfl
theorem mck95:∀a:UD,Sm Tryd.prog 3 127 (Hr a)=true:=by intros;kernel_rfl
theorem mcn117:∀a:Int,Sm Tryd.prog 3 3 (DZ a)=true:=by intros;kernel_rfl
theorem men117:∀a b:Int,KU Tryd.prog 3 3 (DZ a) (DZ b)=some (a==b):=by intros;kernel_rfl
theorem meq95:∀a b:UD,KU Tryd.prog 3 127 (Hr a) (Hr b)=some (a.1==b.1 && (a.2.1==b.2.1 && (a.2.2==b.2.2 && true))):=by intros;kernel_rfl
theorem mixed:Tryd.prog.follows .mixedOrders=true:=by kernel_rfl
theorem mz117:(Tryd.prog.info? 3).bind (·.zero)=some (.int .i64 0):=by kernel_rfl
theorem mz95:(Tryd.prog.info? 3).bind (·.zero)=some (.int .i64 0):=by kernel_rfl
theorem pl127:Dl Tryd.prog 127=some [(0,1),(1,1),(2,1)]:=by kernel_rfl
theorem pl26:Dl Tryd.prog 26=some [(0,1),(1,1),(2,1),(3,1),(4,1)]:=by kernel_rfl
theorem pl39:Dl Tryd.prog 39=some [(0,1),(1,1)]:=by kernel_rfl
theorem pl41:Dl Tryd.prog 41=some [(0,1),(1,1),(2,1),(3,2)]:=by kernel_rfl
theorem pl57:Dl Tryd.prog 57=some [(0,1),(1,1),(2,1),(3,2)]:=by kernel_rfl
theorem pl71:Dl Tryd.prog 71=some [(0,1),(1,1),(2,2)]:=by kernel_rfl
theorem pl87:Dl Tryd.prog 87=some [(0,3),(3,6),(9,6)]:=by kernel_rfl
theorem pl92:Dl Tryd.prog 92=some [(0,5)]:=by kernel_rfl
theorem pl97:Dl Tryd.prog 97=some [(0,5),(5,1),(6,1)]:=by kernel_rfl
theorem s2b9_50:Si Tryd.prog 9 50=some 5:=by kernel_rfl
theorem sel122:Dd Tryd.prog 122=some (1,#[.int .i64 0],34):=by kernel_rfl
theorem sel22:Dd Tryd.prog 22=some (5,#[.string ⟨#[]⟩,.int .i64 0,.int .i64 0,.int .i64 0,.int .i64 0],57):=by kernel_rfl
theorem sel23:Dd Tryd.prog 23=some (5,#[.int .i64 0,.int .i64 0,.int .i64 0,.int .i64 0,.int .i64 0],41):=by kernel_rfl
theorem sel24:Dd Tryd.prog 24=some (4,#[.int .i64 0,.int .i64 0,.int .i64 0,.int .i64 0],71):=by kernel_rfl
theorem sel30:Dd Tryd.prog 30=some (1,#[.int .i64 0],3):=by kernel_rfl
theorem sel44:Dd Tryd.prog 44=some (1,#[.slice none 0 0],30):=by kernel_rfl
theorem sel94:Dd Tryd.prog 94=some (15,#[.int .i64 0,.int .i64 0,.int .i64 0,.int .i64 0,.int .i64 0,.int .i64 0,.int .i64 0,.int .i64 0,.int .i64 0,.bool false,.bool false,.bool false,.bool false,.bool false,.bool false],87):=by kernel_rfl
theorem sl122:ID Tryd.prog 122=true:=by kernel_rfl
theorem sl22:ID Tryd.prog 22=true:=by kernel_rfl
theorem sl23:ID Tryd.prog 23=true:=by kernel_rfl
theorem sl24:ID Tryd.prog 24=true:=by kernel_rfl
theorem WB:ID Tryd.prog 27=true:=by kernel_rfl
theorem sl30:ID Tryd.prog 30=true:=by kernel_rfl
theorem sl44:ID Tryd.prog 44=true:=by kernel_rfl
theorem sl50:ID Tryd.prog 50=true:=by kernel_rfl
theorem sl94:ID Tryd.prog 94=true:=by kernel_rfl
theorem str9:KM Tryd.prog 9=true:=by kernel_rfl
theorem ty104:B3 Tryd.prog 104=some (false,1):=by kernel_rfl
theorem ty115:B3 Tryd.prog 115=some (false,1):=by kernel_rfl
theorem Vy:B3 Tryd.prog 118=some (false,1):=by kernel_rfl
theorem ty127:B3 Tryd.prog 127=some (true,3):=by kernel_rfl
theorem ty130:B3 Tryd.prog 130=some (true,4):=by kernel_rfl
theorem ty131:B3 Tryd.prog 131=some (false,1):=by kernel_rfl
theorem ty132:B3 Tryd.prog 132=some (false,1):=by kernel_rfl
theorem ty158:B3 Tryd.prog 158=some (false,1):=by kernel_rfl
theorem ty22:B3 Tryd.prog 22=some (false,1):=by kernel_rfl
theorem ty23:B3 Tryd.prog 23=some (false,1):=by kernel_rfl
theorem ty24:B3 Tryd.prog 24=some (false,1):=by kernel_rfl
theorem ty26:B3 Tryd.prog 26=some (true,5):=by kernel_rfl
theorem ty3:B3 Tryd.prog 3=some (false,1):=by kernel_rfl
theorem ty30:B3 Tryd.prog 30=some (false,1):=by kernel_rfl
theorem ty34:B3 Tryd.prog 34=some (false,1):=by kernel_rfl
theorem ty37:B3 Tryd.prog 37=some (false,1):=by kernel_rfl
theorem ty39:B3 Tryd.prog 39=some (true,2):=by kernel_rfl
theorem ty4:B3 Tryd.prog 4=some (false,1):=by kernel_rfl
theorem ty41:B3 Tryd.prog 41=some (true,5):=by kernel_rfl
theorem ty44:B3 Tryd.prog 44=some (false,1):=by kernel_rfl
theorem ty5:B3 Tryd.prog 5=some (false,1):=by kernel_rfl
theorem ty57:B3 Tryd.prog 57=some (true,5):=by kernel_rfl
theorem ty71:B3 Tryd.prog 71=some (true,4):=by kernel_rfl
theorem ty85:B3 Tryd.prog 85=some (true,6):=by kernel_rfl
theorem ty87:B3 Tryd.prog 87=some (true,15):=by kernel_rfl
theorem ty9:B3 Tryd.prog 9=some (false,1):=by kernel_rfl
theorem ty92:B3 Tryd.prog 92=some (true,5):=by kernel_rfl
theorem ty94:B3 Tryd.prog 94=some (false,1):=by kernel_rfl
theorem ty95:B3 Tryd.prog 95=some (false,1):=by kernel_rfl
theorem ty97:B3 Tryd.prog 97=some (true,7):=by kernel_rfl
theorem Vd:(Tryd.prog.underlying 118).isSome=true:=by kernel_rfl
theorem und140:(Tryd.prog.underlying 140).isSome=true:=by kernel_rfl
theorem und156:(Tryd.prog.underlying 156).isSome=true:=by kernel_rfl
theorem und3:(Tryd.prog.underlying 3).isSome=true:=by kernel_rfl
theorem und5:(Tryd.prog.underlying 5).isSome=true:=by kernel_rfl
theorem und_chan115:Tryd.prog.underlying 115=some (.chan .both 30):=by kernel_rfl
theorem zero115:Bo Tryd.prog 115=some #[.chan none]:=by kernel_rfl
theorem zero127:Bo Tryd.prog 127=some #[.int .i64 0,.int .i64 0,.int .i64 0]:=by kernel_rfl
theorem zero132:Bo Tryd.prog 132=some #[.nilFunc]:=by kernel_rfl
theorem zero158:Bo Tryd.prog 158=some #[.int .u64 0]:=by kernel_rfl
theorem zero26:Bo Tryd.prog 26=some #[.int .i64 0,.int .i64 0,.slice none 0 0,.slice none 0 0,.slice none 0 0]:=by kernel_rfl
theorem zero3:Bo Tryd.prog 3=some #[.int .i64 0]:=by kernel_rfl
theorem zero30:Bo Tryd.prog 30=some #[.slice none 0 0]:=by kernel_rfl
theorem Ve:Bo Tryd.prog 34=some #[.int .i64 0]:=by kernel_rfl
theorem zero39:Bo Tryd.prog 39=some #[.int .i64 0,.int .i64 0]:=by kernel_rfl
theorem zero4:Bo Tryd.prog 4=some #[.bool false]:=by kernel_rfl
theorem zero41:Bo Tryd.prog 41=some #[.int .i64 0,.int .i64 0,.int .i64 0,.int .i64 0,.int .i64 0]:=by kernel_rfl
theorem zero44:Bo Tryd.prog 44=some #[.slice none 0 0]:=by kernel_rfl
theorem zero57:Bo Tryd.prog 57=some #[.string ⟨#[]⟩,.int .i64 0,.int .i64 0,.int .i64 0,.int .i64 0]:=by kernel_rfl
theorem zero71:Bo Tryd.prog 71=some #[.int .i64 0,.int .i64 0,.int .i64 0,.int .i64 0]:=by kernel_rfl
theorem zero87:Bo Tryd.prog 87=some #[.int .i64 0,.int .i64 0,.int .i64 0,.int .i64 0,.int .i64 0,.int .i64 0,.int .i64 0,.int .i64 0,.int .i64 0,.bool false,.bool false,.bool false,.bool false,.bool false,.bool false]:=by kernel_rfl
theorem zero92:Bo Tryd.prog 92=some #[.int .i64 0,.int .i64 0,.slice none 0 0,.slice none 0 0,.slice none 0 0]:=by kernel_rfl
theorem zero94:Bo Tryd.prog 94=some #[.slice none 0 0]:=by kernel_rfl
theorem zero97:Bo Tryd.prog 97=some #[.int .i64 0,.int .i64 0,.slice none 0 0,.slice none 0 0,.slice none 0 0,.slice none 0 0,.map none]:=by kernel_rfl
end Go.Ns.Fx
namespace Go.Ns
open Go.Conc Go.Proofs
attribute [local irreducible] BW DY Tr AY CI Bu
theorem BJ {W:Wk Tryd.prog} {h:GH} (n:Int) (lo:Int) (hi:Int):AY W 46 #[.int .i64 n,.int .i64 lo,.int .i64 hi] h (fun v h'=>v=(.bool (decide (lo≤n∧n≤hi)):Value)∧h=h'):=by
 refine AN Tryd.func46 Z (Nb Z) ?_;refine Sq (Rg ?_);refine As (.bool false) Z Z ?_;refine Nl ?_;refine A5 (fun σ' ds' h'=>ds'=[]∧h=h'∧σ' 6=.bool (decide ((lo≤n)∧(n≤hi)))) ?_ ?_
 ·refine Rg ?_;refine Mv (.int .i64 lo) Z Z ?_;refine Mv (.int .i64 n) Z Z ?_;refine Pl Z (C9 (a:=lo) (b:=n) Z Z ?_);refine Mv (.bool (decide (lo≤n))) Z Z ?_;refine BK (p:=lo≤n) ?_ ?_
  ·intro aa;refine Gg 3 10 (AD Z aa) Z (AA (v:=.int .i64 n) Z ?_);refine Gg 3 10 (AD Z aa) Z (AA (v:=.int .i64 hi) Z ?_);refine Gg 3 10 (AD Z aa) Z (C9 (a:=n) (b:=hi) Z Z ?_);refine Pk true (.bool (decide (n≤hi))) Z (AD Z aa) Z ?_;refine As (.bool (decide (n≤hi))) Z Z ?_;refine Nl ?_;exact ⟨Z,Z,Et (b:=(.bool (decide (n≤hi)):Value)) Z (congrArg Value.bool (by (simp [aa];done):decide (n≤hi)=(decide ((lo≤n)∧(n≤hi)))))⟩
  ·intro aa;refine Gs 3 10 (AC Z aa) Z ?_;refine Gs 3 10 (AC Z aa) Z ?_;refine Gs 3 10 (AC Z aa) Z ?_;refine Pk false (.bool false) Z (AC Z aa) Z ?_;refine As (.bool false) Z Z ?_;refine Nl ?_;exact ⟨Z,Z,Et (b:=(.bool false:Value)) Z (congrArg Value.bool (by (simp [aa];done):false=(decide ((lo≤n)∧(n≤hi)))))⟩
 ·rintro _ _ _ ⟨ac,ab,ad⟩;subst ac;subst ab;refine Rt ?_;refine ⟨.inr Z,Ae Z (v:=.bool (decide ((lo≤n)∧(n≤hi)))) ad ?_⟩;exact ⟨(by rfl),Z⟩
theorem LF {W:Wk Tryd.prog} {h:GH} (xl:Int) (xh:Int) (lo:Int) (hi:Int):AY W 140 #[.agg #[.int .i64 xl,.int .i64 xh],.int .i64 lo,.int .i64 hi] h (fun v h'=>v=(.bool (decide ((lo≤xl∧xl≤xh)∧xh≤hi)):Value)∧h.Le h'):=by
 refine AN Tryd.func140 Z (Nb Z) ?_;refine Sq (Rg ?_);refine Pl Z (Ar (v:=.agg #[.int .i64 xl,.int .i64 xh]) (c:=#[.int .i64 xl,.int .i64 xh]) Z Z fun _ h2 _ ae ad _=>?_);refine As (.bool false) Z Z ?_;refine Nl ?_;refine A5 (fun σ' ds' h'=>ds'=[]∧h2=h'∧σ' 6=.bool (decide (((lo≤xl)∧(xl≤xh))∧(xh≤hi)))) ?_ ?_
 ·refine Rg ?_;refine Mv (.int .i64 lo) Z Z ?_;refine Fa Fx.fld39_0 Z Z ?_;refine Ld (.int .i64 xl) Z Z (Rd.one Fx.ty3 ad Z) ?_;refine Pl Z (C9 (a:=lo) (b:=xl) Z Z ?_);refine Mv (.bool (decide (lo≤xl))) Z Z ?_;refine BK (p:=lo≤xl) ?_ ?_
  ·intro aa;refine Gg 4 11 (AD Z aa) Z (AT Fx.fld39_0 Z ?_);refine Gg 4 11 (AD Z aa) Z (AI (v:=.int .i64 xl) Z (Rd.one Fx.ty3 ad Z) ?_);refine Gg 4 11 (AD Z aa) Z (AT Fx.fld39_1 Z ?_);refine Gg 4 11 (AD Z aa) Z (AI (v:=.int .i64 xh) Z (Rd.one Fx.ty3 ad Z) ?_);refine Gg 4 11 (AD Z aa) Z (C9 (a:=xl) (b:=xh) Z Z ?_);refine Pk true (.bool (decide (xl≤xh))) Z (AD Z aa) Z ?_;refine Mv (.bool (decide (xl≤xh))) Z Z ?_;refine BK (p:=xl≤xh) ?_ ?_
   ·intro ab;refine Gg 11 18 (AD Z ab) Z (AT Fx.fld39_1 Z ?_);refine Gg 11 18 (AD Z ab) Z (AI (v:=.int .i64 xh) Z (Rd.one Fx.ty3 ad Z) ?_);refine Gg 11 18 (AD Z ab) Z (AA (v:=.int .i64 hi) Z ?_);refine Gg 11 18 (AD Z ab) Z (C9 (a:=xh) (b:=hi) Z Z ?_);refine Pk true (.bool (decide (xh≤hi))) Z (AD Z ab) Z ?_;refine As (.bool (decide (xh≤hi))) Z Z ?_;refine Nl ?_;exact ⟨Z,Z,Et (b:=(.bool (decide (xh≤hi)):Value)) Z (congrArg Value.bool (by (simp [aa,ab];done):decide (xh≤hi)=(decide (((lo≤xl)∧(xl≤xh))∧(xh≤hi)))))⟩
   ·intro ab;refine Gs 11 18 (AC Z ab) Z ?_;refine Gs 11 18 (AC Z ab) Z ?_;refine Gs 11 18 (AC Z ab) Z ?_;refine Gs 11 18 (AC Z ab) Z ?_;refine Pk false (.bool false) Z (AC Z ab) Z ?_;refine As (.bool false) Z Z ?_;refine Nl ?_;exact ⟨Z,Z,Et (b:=(.bool false:Value)) Z (congrArg Value.bool (by (simp [aa,ab];done):false=(decide (((lo≤xl)∧(xl≤xh))∧(xh≤hi)))))⟩
  ·intro aa;refine Gs 4 11 (AC Z aa) Z ?_;refine Gs 4 11 (AC Z aa) Z ?_;refine Gs 4 11 (AC Z aa) Z ?_;refine Gs 4 11 (AC Z aa) Z ?_;refine Gs 4 11 (AC Z aa) Z ?_;refine Pk false (.bool false) Z (AC Z aa) Z ?_;refine Mv (.bool false) Z Z ?_;refine Gs 11 18 Z Z ?_;refine Gs 11 18 Z Z ?_;refine Gs 11 18 Z Z ?_;refine Gs 11 18 Z Z ?_;refine Pk false (.bool false) Z Z Z ?_;refine As (.bool false) Z Z ?_;refine Nl ?_;exact ⟨Z,Z,Et (b:=(.bool false:Value)) Z (congrArg Value.bool (by (simp [aa];done):false=(decide (((lo≤xl)∧(xl≤xh))∧(xh≤hi)))))⟩
 ·rintro _ _ _ ⟨af,ac,ag⟩;subst af;subst ac;refine Rt ?_;refine ⟨.inr Z,Ae Z (v:=.bool (decide (((lo≤xl)∧(xl≤xh))∧(xh≤hi)))) ag ?_⟩;exact ⟨(by rfl),ae⟩
theorem O0 {W:Wk Tryd.prog} {h:GH} (xl:Int) (xh:Int):AY W 139 #[.agg #[.int .i64 xl,.int .i64 xh]] h (fun v h'=>v=(.bool (decide (CP xl xh)):Value)∧h.Le h'):=by
 refine AN Tryd.func139 Z (Nb Z) ?_;refine Sq (Rg ?_);refine Pl Z (Ar (v:=.agg #[.int .i64 xl,.int .i64 xh]) (c:=#[.int .i64 xl,.int .i64 xh]) Z Z fun _ h2 _ ae ah _=>?_);refine As (.bool false) Z Z ?_;refine Nl ?_;refine A5 (fun σ' ds' h'=>ds'=[]∧GH.Le h2 h'∧σ' 2=.bool (decide (((0≤xl∧xl≤xh)∧xh≤99)∧((xh-xl)<3)))) ?_ ?_
 ·refine Rg ?_;refine Ld (.agg #[.int .i64 xl,.int .i64 xh]) Z Z (AP Fx.ty39 (Bx ah Z)) ?_;refine Pl Z (Aq Tryd.func140 Fx.call140 Z Z Z ((LF xl xh 0 99 ).mono fun _ _ ai=>?_));obtain ⟨rfl,ab⟩:=ai;refine Mv (.bool (decide ((0≤xl∧xl≤xh)∧xh≤99))) Z Z ?_;refine BK (p:=(0≤xl∧xl≤xh)∧xh≤99) ?_ ?_
  ·intro aa;refine Gg 2 5 (AD Z aa) Z (AT Fx.fld39_1 Z ?_);have ac:=ab.keep ah Z;refine Gg 2 5 (AD Z aa) Z (AI (v:=.int .i64 xh) Z (Rd.one Fx.ty3 ac Z) ?_);refine Gg 2 5 (AD Z aa) Z (AT Fx.fld39_0 Z ?_);refine Gg 2 5 (AD Z aa) Z (AI (v:=.int .i64 xl) Z (Rd.one Fx.ty3 ac Z) ?_);refine Gg 2 5 (AD Z aa) Z (A2 (a:=xh) (b:=xl) Z Z (by omega) ?_);refine Gg 2 5 (AD Z aa) Z (Az (a:=xh-xl) (b:=3) Z Z ?_);refine Pk true (.bool (decide ((xh-xl)<3))) Z (AD Z aa) Z ?_;refine As (.bool (decide ((xh-xl)<3))) Z Z ?_;refine Nl ?_;exact ⟨Z,ab,Et (b:=(.bool (decide ((xh-xl)<3)):Value)) Z (congrArg Value.bool (by (simp [aa];done):decide ((xh-xl)<3)=(decide (((0≤xl∧xl≤xh)∧xh≤99)∧((xh-xl)<3)))))⟩
  ·intro aa;refine Gs 2 5 (AC Z aa) Z ?_;refine Gs 2 5 (AC Z aa) Z ?_;refine Gs 2 5 (AC Z aa) Z ?_;refine Gs 2 5 (AC Z aa) Z ?_;refine Gs 2 5 (AC Z aa) Z ?_;refine Gs 2 5 (AC Z aa) Z ?_;refine Pk false (.bool false) Z (AC Z aa) Z ?_;refine As (.bool false) Z Z ?_;refine Nl ?_;exact ⟨Z,ab,Et (b:=(.bool false:Value)) Z (congrArg Value.bool (by (simp [aa];done):false=(decide (((0≤xl∧xl≤xh)∧xh≤99)∧((xh-xl)<3)))))⟩
 ·rintro _ _ _ ⟨af,ad,ag⟩;subst af;refine Rt ?_;refine ⟨.inr Z,Ae Z (v:=.bool (decide (((0≤xl∧xl≤xh)∧xh≤99)∧((xh-xl)<3)))) ag ?_⟩;exact ⟨(by rfl),(ae.trans ad)⟩
theorem ES {W:Wk Tryd.prog} {h:GH} (b:Bool):AY W 43 #[.bool b] h (fun v h'=>v=(.int .i64 (if b then (0:Int) else 6):Value)∧h=h'):=by
 refine AN Tryd.func43 Z (Nb Z) ?_;refine Sq (Rg ?_);refine As (.int .i64 0) Z Z ?_;refine Nl (Sq (Sq (Rg ?_)));refine Mv (.bool b) Z Z ?_;refine Pl Z (Dj (b:=b) Z ?_);refine Nl ?_;refine Ce (t:= !b) Z (fun aa=>?_) (fun aa=>?_)
 ·have hc1_:b=false:=by simpa using aa
  refine Sq (Rg ?_);refine As (.int .i64 6) Z Z ?_;refine Nl (Rt ?_);refine ⟨.inr Z,Ae Z (v:=.int .i64 6) Z ?_⟩;exact ⟨(by simp_all),Z⟩
 ·have hc1_:b=true:=by simpa using aa
  refine Sk (Sq (Rg ?_));refine As (.int .i64 0) Z Z ?_;refine Nl (Rt ?_);refine ⟨.inr Z,Ae Z (v:=.int .i64 0) Z ?_⟩;exact ⟨(by simp_all),Z⟩
theorem EC {W:Wk Tryd.prog} {h:GH} (b:Bool):AY W 45 #[.bool b] h (fun v h'=>v=(.int .i64 (if b then (0:Int) else 1):Value)∧h=h'):=by
 refine AN Tryd.func45 Z (Nb Z) ?_;refine Sq (Rg ?_);refine As (.int .i64 0) Z Z ?_;refine Nl (Sq (Sq (Rg ?_)));refine Mv (.bool b) Z Z ?_;refine Pl Z (Dj (b:=b) Z ?_);refine Nl ?_;refine Ce (t:= !b) Z (fun aa=>?_) (fun aa=>?_)
 ·have hc1_:b=false:=by simpa using aa
  refine Sq (Rg ?_);refine As (.int .i64 1) Z Z ?_;refine Nl (Rt ?_);refine ⟨.inr Z,Ae Z (v:=.int .i64 1) Z ?_⟩;exact ⟨(by simp_all),Z⟩
 ·have hc1_:b=true:=by simpa using aa
  refine Sk (Sq (Rg ?_));refine As (.int .i64 0) Z Z ?_;refine Nl (Rt ?_);refine ⟨.inr Z,Ae Z (v:=.int .i64 0) Z ?_⟩;exact ⟨(by simp_all),Z⟩
theorem Eu {W:Wk Tryd.prog} {h:GH} (d:Int) (m:Int) (gs:List Good) (gsv:Value) (ms:List AB) (msv:Value) (cs:List AE) (csv:Value) (n:Int) (hgs:AO h gsv 5 BA gs) (hms:AO h msv 5 A4 ms) (hcs:AO h csv 4 Av cs):AY W 44 #[.agg #[.int .i64 d,.int .i64 m,gsv,msv,csv],.int .i64 n] h (fun v h'=>v=(.bool (decide (0≤n∧n≤(gs.length:Int)-1)):Value)∧h.Le h'):=by
 have ab:=hgs.len;have ac:=hms.len;have ad:=hcs.len;refine AN Tryd.func44 Z (Nb Z) ?_;refine Sq (Rg ?_);refine Pl Z (Ar (v:=.agg #[.int .i64 d,.int .i64 m,gsv,msv,csv]) (c:=#[.int .i64 d,.int .i64 m,gsv,msv,csv]) Z Z fun _ _ _ aa af _=>?_);refine As (.bool false) Z Z ?_;refine Nl (Sq (Rg ?_));refine Mv (.int .i64 n) Z Z ?_;refine Fa Fx.fld92_0 Z Z ?_;refine Fa Fx.fld26_2 Z Z ?_;refine Ld gsv Z Z (Rd.one Fx.ty22 af Z) ?_;refine Pl Z (Aa Fx.sl22 (hgs.le aa) Z ?_);refine Pl Z (A2 (a:=(gs.length:Int)) (b:=1) Z Z (by omega) ?_);refine Pl Z (Aq Tryd.func46 Fx.call46 Z Z Z ((BJ n 0 ((gs.length:Int)-1) ).mono fun _ _ ae=>?_));obtain ⟨rfl,rfl⟩:=ae;refine As (.bool (decide (0≤n∧n≤((gs.length:Int)-1)))) Z Z ?_;refine Nl (Rt ?_);refine ⟨.inr Z,Ae Z (v:=.bool (decide (0≤n∧n≤((gs.length:Int)-1)))) Z ?_⟩;exact ⟨(by rfl),aa⟩
theorem Ju {W:Wk Tryd.prog} {h:GH} (d:Int) (m:Int) (gs:List Good) (gsv:Value) (ms:List AB) (msv:Value) (cs:List AE) (csv:Value) (n:Int) (hgs:AO h gsv 5 BA gs) (hms:AO h msv 5 A4 ms) (hcs:AO h csv 4 Av cs):AY W 71 #[.agg #[.int .i64 d,.int .i64 m,gsv,msv,csv],.int .i64 n] h (fun v h'=>v=(.bool (decide (0≤n∧n≤(ms.length:Int)-1)):Value)∧h.Le h'):=by
 have ab:=hgs.len;have ac:=hms.len;have ad:=hcs.len;refine AN Tryd.func71 Z (Nb Z) ?_;refine Sq (Rg ?_);refine Pl Z (Ar (v:=.agg #[.int .i64 d,.int .i64 m,gsv,msv,csv]) (c:=#[.int .i64 d,.int .i64 m,gsv,msv,csv]) Z Z fun _ _ _ aa af _=>?_);refine As (.bool false) Z Z ?_;refine Nl (Sq (Rg ?_));refine Mv (.int .i64 n) Z Z ?_;refine Fa Fx.fld92_0 Z Z ?_;refine Fa Fx.fld26_3 Z Z ?_;refine Ld msv Z Z (Rd.one Fx.ty23 af Z) ?_;refine Pl Z (Aa Fx.sl23 (hms.le aa) Z ?_);refine Pl Z (A2 (a:=(ms.length:Int)) (b:=1) Z Z (by omega) ?_);refine Pl Z (Aq Tryd.func46 Fx.call46 Z Z Z ((BJ n 0 ((ms.length:Int)-1) ).mono fun _ _ ae=>?_));obtain ⟨rfl,rfl⟩:=ae;refine As (.bool (decide (0≤n∧n≤((ms.length:Int)-1)))) Z Z ?_;refine Nl (Rt ?_);refine ⟨.inr Z,Ae Z (v:=.bool (decide (0≤n∧n≤((ms.length:Int)-1)))) Z ?_⟩;exact ⟨(by rfl),aa⟩
theorem JS {W:Wk Tryd.prog} {h:GH} (p:AL) (i:Int) (hi0:0≤i) (hi1:i<6):AY W 50 #[.agg (Ag p),.int .i64 i] h (fun v h'=>v=(.int .i64 (Bp p ((i).toNat)):Value)∧h.Le h'):=by
 refine AN Tryd.func50 Z (Nb Z) ?_;refine Sq (Rg ?_);refine Pl Z (Ar (v:=.agg (Ag p)) (c:=Ag p) Z Z fun _ _ _ aa ad _=>?_);refine As (.int .i64 0) Z Z ?_;refine Nl (Sq (Sq (Rg ?_)));refine Mv (.int .i64 i) Z Z ?_;refine Fa Fx.fld87_2 Z Z ?_;have ae:(0:Int)≤i:=by omega
 have af:i<((6:Nat):Int):=by omega
 refine Pl Z (CV Fx.asz85 Z Z ae af ?_);refine Ld (.bool (p.lies (i.toNat))) Z Z (Rd.one Fx.ty4 ad (IJ (i:=i.toNat) (by omega))) ?_;refine Nl ?_;refine Ce (t:=p.lies (i.toNat)) Z (fun ag=>?_) (fun ag=>?_)
 ·refine Sq (Rg ?_);refine As (.int .i64 0) Z Z ?_;refine Nl (Rt ?_);refine ⟨.inr Z,Ae Z (v:=.int .i64 0) Z ?_⟩;exact ⟨(by simp_all [Bp]),aa⟩
 ·refine Sk (Sq (Rg ?_));refine Mv (.int .i64 i) Z Z ?_;refine Fa Fx.fld87_1 Z Z ?_;have ab:(0:Int)≤i:=by omega
  have ac:i<((6:Nat):Int):=by omega
  refine Pl Z (CV Fx.asz84 Z Z ab ac ?_);refine Ld (.int .i64 (p.many (i.toNat))) Z Z (Rd.one Fx.ty3 ad (PZ (i:=i.toNat) (by omega))) ?_;refine As (.int .i64 (p.many (i.toNat))) Z Z ?_;refine Nl (Rt ?_);refine ⟨.inr Z,Ae Z (v:=.int .i64 (p.many (i.toNat))) Z ?_⟩;exact ⟨(by simp_all [Bp]),aa⟩
theorem QW {W:Wk Tryd.prog} {h:GH} (p:AL):AY W 82 #[.agg (Ag p)] h (fun v h'=>v=(.int .i64 (Am p 6:Int):Value)∧h.Le h'):=by
 refine AN Tryd.func82 Z (Nb Z) ?_;refine Sq (Rg ?_);refine Pl Z (Ar (v:=.agg (Ag p)) (c:=Ag p) Z Z fun _ h2 _ ab al _=>?_);refine As (.int .i64 0) Z Z ?_;refine Nl (Sq (Rg ?_));refine As (.int .i64 0) Z Z ?_;refine Nl (Sq (Sq (Rg ?_)));refine Fa Fx.fld87_2 Z Z ?_;refine Ld (.agg #[.bool (p.lies 0),.bool (p.lies 1),.bool (p.lies 2),.bool (p.lies 3),.bool (p.lies 4),.bool (p.lies 5)]) Z Z (F1 (o:=9) (ws:=#[.bool (p.lies 0),.bool (p.lies 1),.bool (p.lies 2),.bool (p.lies 3),.bool (p.lies 4),.bool (p.lies 5)]) Fx.ty85 (Bx al Z) (Nb Z) Z) ?_;refine Mv (.int .i64 0) Z Z ?_;refine Nl (Bk ?_);refine Ap (fun nn σ' ds' h'=>∃(k:Nat),nn=6-k∧(k≤6)∧ds'=[]∧GH.Le h2 h'∧σ' 2=.int .i64 0∧σ' 7=.agg #[.bool (p.lies 0),.bool (p.lies 1),.bool (p.lies 2),.bool (p.lies 3),.bool (p.lies 4),.bool (p.lies 5)]∧σ' 3=.int .i64 (Am p k:Int)∧σ' 8=.int .i64 (k:Int)) ⟨0,Z,(by omega),Z,Lr,Z,Z,Z,Z⟩ (fun nn _ _ _ ac=>?_);obtain ⟨k,rfl,hk,am,ad,ak,ae,af,aa⟩:=ac;subst am;have hly:=Kc p k;refine Sq (Rg ?_);refine Pl Z (Az (a:=(k:Int)) (b:=6) aa Z ?_);refine Nl (Sq ?_);refine AX (p:=(k:Int)<6) Z (fun ag=>?_) (fun ag=>?_)
 ·refine Sk (Sq (Bk (Sq (Rg ?_))));have ah:(0:Int)≤(k:Int):=by omega
  have ai:(k:Int)<((6:Nat):Int):=by omega
  refine Pl Z (L7 Fx.arr85 ae aa ah ai (N7 (by omega)) ?_);refine As (.bool (p.lies k)) Z Z ?_;refine Nl (Sq (Rg ?_));refine Mv (.bool (p.lies k)) Z Z ?_;refine Nl ?_;refine Ce (t:=p.lies k) Z (fun aj=>?_) (fun aj=>?_)
  ·refine Rg ?_;refine Mv (.int .i64 (Am p k:Int)) Z af ?_;refine Ad (Am p k:Int) 1 Z Z Z (by omega) ?_;refine As (.int .i64 ((Am p k:Int)+1)) Z Z ?_;refine Nl (Rg ?_);refine Ad (k:Int) 1 Z aa Z (by omega) ?_;refine Mv (.int .i64 ((k:Int)+1)) Z Z ?_;refine Nl ?_;exact ⟨_,by omega,k+1,Z,(by omega),Z,ad,ak,ae,(Et (b:=(.int .i64 ((Am p k:Int)+1):Value)) Z (by congr 1;simp_all [Am])),Z⟩
  ·refine Sk (Rg ?_);refine Ad (k:Int) 1 Z aa Z (by omega) ?_;refine Mv (.int .i64 ((k:Int)+1)) Z Z ?_;refine Nl ?_;exact ⟨_,by omega,k+1,Z,(by omega),Z,ad,ak,ae,(Et (b:=(.int .i64 (Am p k:Int):Value)) af (by congr 1;simp_all [Am])),Z⟩
 ·refine Xt (Sq (Rg ?_));refine Mv (.int .i64 (Am p k:Int)) Z af ?_;refine As (.int .i64 (Am p k:Int)) Z Z ?_;refine Nl (Rt ?_);refine ⟨.inr Z,Ae Z (v:=.int .i64 (Am p k:Int)) Z ?_⟩;exact ⟨(by obtain rfl:k=6:=(by omega);rfl),(ab.trans ad)⟩
theorem Lo {W:Wk Tryd.prog} {h:GH} (a:List Int) (av:Value) (b:List Int) (bv:Value) (ha:AO h av 1 eI a) (hb:AO h bv 1 eI b):AY W 41 #[av,bv] h (fun v h'=>v=(.bool (decide (a=b)):Value)∧h.Le h'):=by
 have ad:=ha.len;have ae:=hb.len;refine AN Tryd.func41 Z (Nb Z) ?_;refine Sq (Rg ?_);refine As (.bool false) Z Z ?_;refine Nl (Sq (Sq (Rg ?_)));refine Mv av Z Z ?_;refine Pl Z (Aa Fx.sl30 ha Z ?_);refine Mv bv Z Z ?_;refine Pl Z (Aa Fx.sl30 hb Z ?_);refine Pl Z (A8 (a:=(a.length:Int)) (b:=(b.length:Int)) Z Z ?_);refine Nl ?_;refine AX (p:=¬(a.length:Int)=(b.length:Int)) Z (fun ar=>?_) (fun ar=>?_)
 ·refine Sq (Rg ?_);refine As (.bool false) Z Z ?_;refine Nl (Rt ?_);refine ⟨.inr Z,Ae Z (v:=.bool false) Z ?_⟩;exact ⟨(by (rw [decide_eq_false (Uo (by omega))];done)),Lr⟩
 ·refine Sk (Sq (Sq (Rg ?_)));refine As (.int .i64 0) Z Z ?_;refine Nl (Bk ?_);refine Ap (fun nn σ' ds' h'=>∃(k:Nat),nn=a.length-k∧(k≤a.length)∧(a.take k=b.take k)∧ds'=[]∧GH.Le h h'∧σ' 0=av∧σ' 1=bv∧σ' 5=.int .i64 (k:Int)) ⟨0,Z,(by omega),(by rfl),Z,Lr,Z,Z,Z⟩ (fun nn _ _ _ au=>?_);obtain ⟨k,rfl,hk,hs,x8,x9,af,aq,ac⟩:=au;subst x8;refine Sq (Sq (Rg ?_));refine Mv (.int .i64 (k:Int)) Z ac ?_;refine Mv av Z af ?_;refine Pl Z (Aa Fx.sl30 (ha.le x9) Z ?_);refine Pl Z (Az (a:=(k:Int)) (b:=(a.length:Int)) Z Z ?_);refine Nl ?_;refine AX (p:=(k:Int)<(a.length:Int)) Z (fun ag=>?_) (fun ag=>?_)
  ·refine Sk (Sq (Bk (Sq ?_)));refine BS 8 false [1,6,10,16,21,26,30,36] Fx.mixed (by kernel_rfl) ?_;refine tR Z Z (AA (v:=av) af vz) ?_;refine tR Z Z (AA (v:=.int .i64 (k:Int)) ac vz) ?_;have ah:(0:Int)≤(k:Int):=by omega
   have ai:(k:Int)<((a.length:Nat):Int):=by omega
   refine tI Z Z Fx.esz30 ha Z Z ah ai fun aw aa aj=>?_;have ak:Ab _ aw aa 1 (eI (a.getD k 0)):=Ab.getD 0 aj;refine tR Z Z (AI (v:=.int .i64 (a.getD k 0)) Z (CT Fx.ty3 (ak.le x9) Z) vz) ?_;refine tR Z Z (AA (v:=bv) aq vz) ?_;refine tR Z Z (AA (v:=.int .i64 (k:Int)) ac vz) ?_;have al:(0:Int)≤(k:Int):=by omega
   have am:(k:Int)<((b.length:Nat):Int):=by omega
   refine tI Z Z Fx.esz30 hb Z Z al am fun ax ab an=>?_;have ao:Ab _ ax ab 1 (eI (b.getD k 0)):=Ab.getD 0 an;refine tR Z Z (AI (v:=.int .i64 (b.getD k 0)) Z (CT Fx.ty3 (ao.le x9) Z) vz) ?_;refine tN ?_;refine Pl Z (A8 (a:=a.getD k 0) (b:=b.getD k 0) Z Z ?_);refine Nl ?_;refine AX (p:=¬(a.getD k 0)=(b.getD k 0)) Z (fun ap=>?_) (fun ap=>?_)
   ·refine Sq (Rg ?_);refine As (.bool false) Z Z ?_;refine Nl (Rt ?_);refine ⟨.inr Z,Ae Z (v:=.bool false) Z ?_⟩;exact ⟨(by (rw [decide_eq_false (T3 (k:=k) (d:=0) ‹_›)])),x9⟩
   ·refine Sk (Rg ?_);refine Mv (.int .i64 (k:Int)) Z ac ?_;refine Ad (k:Int) 1 Z Z Z (by omega) ?_;refine As (.int .i64 ((k:Int)+1)) Z Z ?_;refine Nl ?_;exact ⟨_,by omega,k+1,Z,(by omega),(by exact Ke 0 hs (by omega) (by omega) (by simp_all)),Z,x9,af,aq,Z⟩
  ·refine Xt (Sq (Rg ?_));refine As (.bool true) Z Z ?_;refine Nl (Rt ?_);refine ⟨.inr Z,Ae Z (v:=.bool true) Z ?_⟩;exact ⟨(by (rw [decide_eq_true (Mz hs hk ‹_› (by omega))];done)),x9⟩
theorem FF {W:Wk Tryd.prog} {h:GH} (n:Int) (lo:Int) (hi:Int):AY W 20 #[.int .i64 n,.int .i64 lo,.int .i64 hi] h (fun v h'=>v=(.bool (decide (lo≤n∧n≤hi)):Value)∧h=h'):=by
 refine AN Tryd.func20 Z (Nb Z) ?_;refine Sq (Rg ?_);refine As (.bool false) Z Z ?_;refine Nl ?_;refine A5 (fun σ' ds' h'=>ds'=[]∧h=h'∧σ' 6=.bool (decide ((lo≤n)∧(n≤hi)))) ?_ ?_
 ·refine Rg ?_;refine Mv (.int .i64 n) Z Z ?_;refine Mv (.int .i64 lo) Z Z ?_;refine Pl Z (CD (a:=n) (b:=lo) Z Z ?_);refine Mv (.bool (decide (lo≤n))) Z Z ?_;refine BK (p:=lo≤n) ?_ ?_
  ·intro aa;refine Gg 3 10 (AD Z aa) Z (AA (v:=.int .i64 n) Z ?_);refine Gg 3 10 (AD Z aa) Z (AA (v:=.int .i64 hi) Z ?_);refine Gg 3 10 (AD Z aa) Z (C9 (a:=n) (b:=hi) Z Z ?_);refine Pk true (.bool (decide (n≤hi))) Z (AD Z aa) Z ?_;refine As (.bool (decide (n≤hi))) Z Z ?_;refine Nl ?_;exact ⟨Z,Z,Et (b:=(.bool (decide (n≤hi)):Value)) Z (congrArg Value.bool (by (simp [aa];done):decide (n≤hi)=(decide ((lo≤n)∧(n≤hi)))))⟩
  ·intro aa;refine Gs 3 10 (AC Z aa) Z ?_;refine Gs 3 10 (AC Z aa) Z ?_;refine Gs 3 10 (AC Z aa) Z ?_;refine Pk false (.bool false) Z (AC Z aa) Z ?_;refine As (.bool false) Z Z ?_;refine Nl ?_;exact ⟨Z,Z,Et (b:=(.bool false:Value)) Z (congrArg Value.bool (by (simp [aa];done):false=(decide ((lo≤n)∧(n≤hi)))))⟩
 ·rintro _ _ _ ⟨ac,ab,ad⟩;subst ac;subst ab;refine Rt ?_;refine ⟨.inr Z,Ae Z (v:=.bool (decide ((lo≤n)∧(n≤hi)))) ad ?_⟩;exact ⟨(by rfl),Z⟩
theorem Jv {W:Wk Tryd.prog} {h:GH} (xl:Int) (xh:Int) (lo:Int) (hi:Int):AY W 86 #[.agg #[.int .i64 xl,.int .i64 xh],.int .i64 lo,.int .i64 hi] h (fun v h'=>v=(.bool (decide ((lo≤xl∧xl≤xh)∧xh≤hi)):Value)∧h.Le h'):=by
 refine AN Tryd.func86 Z (Nb Z) ?_;refine Sq (Rg ?_);refine Pl Z (Ar (v:=.agg #[.int .i64 xl,.int .i64 xh]) (c:=#[.int .i64 xl,.int .i64 xh]) Z Z fun _ h2 _ ae ad _=>?_);refine As (.bool false) Z Z ?_;refine Nl ?_;refine A5 (fun σ' ds' h'=>ds'=[]∧h2=h'∧σ' 6=.bool (decide (((lo≤xl)∧(xl≤xh))∧(xh≤hi)))) ?_ ?_
 ·refine Rg ?_;refine Fa Fx.fld39_0 Z Z ?_;refine Ld (.int .i64 xl) Z Z (Rd.one Fx.ty3 ad Z) ?_;refine Mv (.int .i64 lo) Z Z ?_;refine Pl Z (CD (a:=xl) (b:=lo) Z Z ?_);refine Mv (.bool (decide (lo≤xl))) Z Z ?_;refine BK (p:=lo≤xl) ?_ ?_
  ·intro aa;refine Gg 4 11 (AD Z aa) Z (AT Fx.fld39_1 Z ?_);refine Gg 4 11 (AD Z aa) Z (AI (v:=.int .i64 xh) Z (Rd.one Fx.ty3 ad Z) ?_);refine Gg 4 11 (AD Z aa) Z (AT Fx.fld39_0 Z ?_);refine Gg 4 11 (AD Z aa) Z (AI (v:=.int .i64 xl) Z (Rd.one Fx.ty3 ad Z) ?_);refine Gg 4 11 (AD Z aa) Z (CD (a:=xh) (b:=xl) Z Z ?_);refine Pk true (.bool (decide (xl≤xh))) Z (AD Z aa) Z ?_;refine Mv (.bool (decide (xl≤xh))) Z Z ?_;refine BK (p:=xl≤xh) ?_ ?_
   ·intro ab;refine Gg 11 18 (AD Z ab) Z (AT Fx.fld39_1 Z ?_);refine Gg 11 18 (AD Z ab) Z (AI (v:=.int .i64 xh) Z (Rd.one Fx.ty3 ad Z) ?_);refine Gg 11 18 (AD Z ab) Z (AA (v:=.int .i64 hi) Z ?_);refine Gg 11 18 (AD Z ab) Z (C9 (a:=xh) (b:=hi) Z Z ?_);refine Pk true (.bool (decide (xh≤hi))) Z (AD Z ab) Z ?_;refine As (.bool (decide (xh≤hi))) Z Z ?_;refine Nl ?_;exact ⟨Z,Z,Et (b:=(.bool (decide (xh≤hi)):Value)) Z (congrArg Value.bool (by (simp [aa,ab];done):decide (xh≤hi)=(decide (((lo≤xl)∧(xl≤xh))∧(xh≤hi)))))⟩
   ·intro ab;refine Gs 11 18 (AC Z ab) Z ?_;refine Gs 11 18 (AC Z ab) Z ?_;refine Gs 11 18 (AC Z ab) Z ?_;refine Gs 11 18 (AC Z ab) Z ?_;refine Pk false (.bool false) Z (AC Z ab) Z ?_;refine As (.bool false) Z Z ?_;refine Nl ?_;exact ⟨Z,Z,Et (b:=(.bool false:Value)) Z (congrArg Value.bool (by (simp [aa,ab];done):false=(decide (((lo≤xl)∧(xl≤xh))∧(xh≤hi)))))⟩
  ·intro aa;refine Gs 4 11 (AC Z aa) Z ?_;refine Gs 4 11 (AC Z aa) Z ?_;refine Gs 4 11 (AC Z aa) Z ?_;refine Gs 4 11 (AC Z aa) Z ?_;refine Gs 4 11 (AC Z aa) Z ?_;refine Pk false (.bool false) Z (AC Z aa) Z ?_;refine Mv (.bool false) Z Z ?_;refine Gs 11 18 Z Z ?_;refine Gs 11 18 Z Z ?_;refine Gs 11 18 Z Z ?_;refine Gs 11 18 Z Z ?_;refine Pk false (.bool false) Z Z Z ?_;refine As (.bool false) Z Z ?_;refine Nl ?_;exact ⟨Z,Z,Et (b:=(.bool false:Value)) Z (congrArg Value.bool (by (simp [aa];done):false=(decide (((lo≤xl)∧(xl≤xh))∧(xh≤hi)))))⟩
 ·rintro _ _ _ ⟨af,ac,ag⟩;subst af;subst ac;refine Rt ?_;refine ⟨.inr Z,Ae Z (v:=.bool (decide (((lo≤xl)∧(xl≤xh))∧(xh≤hi)))) ag ?_⟩;exact ⟨(by rfl),ae⟩
theorem LG {W:Wk Tryd.prog} {h:GH} (xl:Int) (xh:Int):AY W 85 #[.agg #[.int .i64 xl,.int .i64 xh]] h (fun v h'=>v=(.bool (decide (CP xl xh)):Value)∧h.Le h'):=by
 refine AN Tryd.func85 Z (Nb Z) ?_;refine Sq (Rg ?_);refine Pl Z (Ar (v:=.agg #[.int .i64 xl,.int .i64 xh]) (c:=#[.int .i64 xl,.int .i64 xh]) Z Z fun _ h2 _ ae ah _=>?_);refine As (.bool false) Z Z ?_;refine Nl ?_;refine A5 (fun σ' ds' h'=>ds'=[]∧GH.Le h2 h'∧σ' 2=.bool (decide (((0≤xl∧xl≤xh)∧xh≤99)∧((xh-xl)<3)))) ?_ ?_
 ·refine Rg ?_;refine Ld (.agg #[.int .i64 xl,.int .i64 xh]) Z Z (AP Fx.ty39 (Bx ah Z)) ?_;refine Pl Z (Aq Tryd.func86 Fx.call86 Z Z Z ((Jv xl xh 0 99 ).mono fun _ _ ai=>?_));obtain ⟨rfl,ab⟩:=ai;refine Mv (.bool (decide ((0≤xl∧xl≤xh)∧xh≤99))) Z Z ?_;refine BK (p:=(0≤xl∧xl≤xh)∧xh≤99) ?_ ?_
  ·intro aa;refine Gg 2 5 (AD Z aa) Z (AT Fx.fld39_1 Z ?_);have ac:=ab.keep ah Z;refine Gg 2 5 (AD Z aa) Z (AI (v:=.int .i64 xh) Z (Rd.one Fx.ty3 ac Z) ?_);refine Gg 2 5 (AD Z aa) Z (AT Fx.fld39_0 Z ?_);refine Gg 2 5 (AD Z aa) Z (AI (v:=.int .i64 xl) Z (Rd.one Fx.ty3 ac Z) ?_);refine Gg 2 5 (AD Z aa) Z (A2 (a:=xh) (b:=xl) Z Z (by omega) ?_);refine Gg 2 5 (AD Z aa) Z (Az (a:=xh-xl) (b:=3) Z Z ?_);refine Pk true (.bool (decide ((xh-xl)<3))) Z (AD Z aa) Z ?_;refine As (.bool (decide ((xh-xl)<3))) Z Z ?_;refine Nl ?_;exact ⟨Z,ab,Et (b:=(.bool (decide ((xh-xl)<3)):Value)) Z (congrArg Value.bool (by (simp [aa];done):decide ((xh-xl)<3)=(decide (((0≤xl∧xl≤xh)∧xh≤99)∧((xh-xl)<3)))))⟩
  ·intro aa;refine Gs 2 5 (AC Z aa) Z ?_;refine Gs 2 5 (AC Z aa) Z ?_;refine Gs 2 5 (AC Z aa) Z ?_;refine Gs 2 5 (AC Z aa) Z ?_;refine Gs 2 5 (AC Z aa) Z ?_;refine Gs 2 5 (AC Z aa) Z ?_;refine Pk false (.bool false) Z (AC Z aa) Z ?_;refine As (.bool false) Z Z ?_;refine Nl ?_;exact ⟨Z,ab,Et (b:=(.bool false:Value)) Z (congrArg Value.bool (by (simp [aa];done):false=(decide (((0≤xl∧xl≤xh)∧xh≤99)∧((xh-xl)<3)))))⟩
 ·rintro _ _ _ ⟨af,ad,ag⟩;subst af;refine Rt ?_;refine ⟨.inr Z,Ae Z (v:=.bool (decide (((0≤xl∧xl≤xh)∧xh≤99)∧((xh-xl)<3)))) ag ?_⟩;exact ⟨(by rfl),(ae.trans ad)⟩
theorem O1 {W:Wk Tryd.prog} {h:GH} (c:Int):AY W 93 #[.int .u8 c] h (fun v h'=>v=(.bool (decide (DB c)):Value)∧h=h'):=by
 refine AN Tryd.func93 Z (Nb Z) ?_;refine Sq (Rg ?_);refine As (.bool false) Z Z ?_;refine Nl ?_;refine A5 (fun σ' ds' h'=>ds'=[]∧h=h'∧σ' 2=.bool (decide ((97≤c)∧(c≤122)))) ?_ ?_
 ·refine Rg ?_;refine Mv (.int .u8 c) Z Z ?_;refine Pl Z (CD (a:=c) (b:=97) Z Z ?_);refine Mv (.bool (decide (97≤c))) Z Z ?_;refine BK (p:=97≤c) ?_ ?_
  ·intro aa;refine Gg 2 5 (AD Z aa) Z (AA (v:=.int .u8 c) Z ?_);refine Gg 2 5 (AD Z aa) Z (C9 (a:=c) (b:=122) Z Z ?_);refine Pk true (.bool (decide (c≤122))) Z (AD Z aa) Z ?_;refine As (.bool (decide (c≤122))) Z Z ?_;refine Nl ?_;exact ⟨Z,Z,Et (b:=(.bool (decide (c≤122)):Value)) Z (congrArg Value.bool (by (simp [aa];done):decide (c≤122)=(decide ((97≤c)∧(c≤122)))))⟩
  ·intro aa;refine Gs 2 5 (AC Z aa) Z ?_;refine Gs 2 5 (AC Z aa) Z ?_;refine Pk false (.bool false) Z (AC Z aa) Z ?_;refine As (.bool false) Z Z ?_;refine Nl ?_;exact ⟨Z,Z,Et (b:=(.bool false:Value)) Z (congrArg Value.bool (by (simp [aa];done):false=(decide ((97≤c)∧(c≤122)))))⟩
 ·rintro _ _ _ ⟨ac,ab,ad⟩;subst ac;subst ab;refine Rt ?_;refine ⟨.inr Z,Ae Z (v:=.bool (decide ((97≤c)∧(c≤122)))) ad ?_⟩;exact ⟨(by rfl),Z⟩
theorem QX {W:Wk Tryd.prog} {h:GH} (c:Int):AY W 94 #[.int .u8 c] h (fun v h'=>v=(.bool (decide (DP c)):Value)∧h=h'):=by
 refine AN Tryd.func94 Z (Nb Z) ?_;refine Sq (Rg ?_);refine As (.bool false) Z Z ?_;refine Nl ?_;refine A5 (fun σ' ds' h'=>ds'=[]∧h=h'∧σ' 2=.bool (decide ((48≤c)∧(c≤57)))) ?_ ?_
 ·refine Rg ?_;refine Mv (.int .u8 c) Z Z ?_;refine Pl Z (CD (a:=c) (b:=48) Z Z ?_);refine Mv (.bool (decide (48≤c))) Z Z ?_;refine BK (p:=48≤c) ?_ ?_
  ·intro aa;refine Gg 2 5 (AD Z aa) Z (AA (v:=.int .u8 c) Z ?_);refine Gg 2 5 (AD Z aa) Z (C9 (a:=c) (b:=57) Z Z ?_);refine Pk true (.bool (decide (c≤57))) Z (AD Z aa) Z ?_;refine As (.bool (decide (c≤57))) Z Z ?_;refine Nl ?_;exact ⟨Z,Z,Et (b:=(.bool (decide (c≤57)):Value)) Z (congrArg Value.bool (by (simp [aa];done):decide (c≤57)=(decide ((48≤c)∧(c≤57)))))⟩
  ·intro aa;refine Gs 2 5 (AC Z aa) Z ?_;refine Gs 2 5 (AC Z aa) Z ?_;refine Pk false (.bool false) Z (AC Z aa) Z ?_;refine As (.bool false) Z Z ?_;refine Nl ?_;exact ⟨Z,Z,Et (b:=(.bool false:Value)) Z (congrArg Value.bool (by (simp [aa];done):false=(decide ((48≤c)∧(c≤57)))))⟩
 ·rintro _ _ _ ⟨ac,ab,ad⟩;subst ac;subst ab;refine Rt ?_;refine ⟨.inr Z,Ae Z (v:=.bool (decide ((48≤c)∧(c≤57)))) ad ?_⟩;exact ⟨(by rfl),Z⟩
theorem ET {W:Wk Tryd.prog} {h:GH} (a:Int) (b:Int):AY W 17 #[.int .i64 a,.int .i64 b] h (fun v h'=>v=(.agg #[.int .i64 a,.int .i64 b]:Value)∧h.Le h'):=by
 refine AN Tryd.func17 Z (Nb Z) ?_;refine Sq (Rg ?_);refine Pl Z (Ah Fx.zero39 fun _ _ ab aa ac _=>?_);refine Nl (Sq (Rg ?_));refine Mv (.int .i64 a) Z Z ?_;refine Mv (.int .i64 b) Z Z ?_;refine Pl Z (Ax (cells:=#[.int .i64 a,.int .i64 b]) Fx.pl39 Fx.zero39 (by kernel_rfl) ?_);refine Pl Z (AH (v:=.agg #[.int .i64 a,.int .i64 b]) (c':=#[.int .i64 a,.int .i64 b]) Fx.ty39 Z Z ac Z Z (by simp) Z fun _ ad ae=>?_);refine Nl (Rt ?_);refine ⟨.inr Z,JG Z (v:=.agg #[.int .i64 a,.int .i64 b]) Z (AP Fx.ty39 (Bx ad Z)) ?_⟩;exact ⟨Z,(aa.upd (Ln Lr ab) ae)⟩
theorem Fw {W:Wk Tryd.prog} {h:GH} (d:Int) (m:Int) (gs:List Good) (gsv:Value) (ms:List AB) (msv:Value) (cs:List AE) (csv:Value) (n:Int) (hgs:AO h gsv 5 BA gs) (hms:AO h msv 5 A4 ms) (hcs:AO h csv 4 Av cs):AY W 57 #[.agg #[.int .i64 d,.int .i64 m,gsv,msv,csv],.int .i64 n] h (fun v h'=>v=(.bool (decide ((0≤n∧n≤(ms.length:Int)-1)∧(ms.getD (n).toNat AB.z).kind=0)):Value)∧h.Le h'):=by
 have af:=hgs.len;have ag:=hms.len;have ah:=hcs.len;refine AN Tryd.func57 Z (Nb Z) ?_;refine Sq (Rg ?_);refine Pl Z (Ar (v:=.agg #[.int .i64 d,.int .i64 m,gsv,msv,csv]) (c:=#[.int .i64 d,.int .i64 m,gsv,msv,csv]) Z Z fun _ h5 _ ac ap _=>?_);refine As (.bool false) Z Z ?_;refine Nl ?_;refine A5 (fun σ' ds' h'=>ds'=[]∧GH.Le h5 h'∧σ' 4=.bool (decide ((0≤n∧n≤(ms.length:Int)-1)∧(((ms.getD (n.toNat) AB.z).kind)=0)))) ?_ ?_
 ·refine Rg ?_;refine Ld (.agg #[.int .i64 d,.int .i64 m,gsv,msv,csv]) Z Z (AP Fx.ty92 (Bx ap Z)) ?_;refine Mv (.int .i64 n) Z Z ?_;refine Pl Z (AW Tryd.func71 Fx.call71 Z Z ((Ju d m gs gsv ms msv cs csv n (hgs.le ac) (hms.le ac) (hcs.le ac) ).mono fun _ _ ai=>?_));obtain ⟨rfl,ab⟩:=ai;refine Mv (.bool (decide (0≤n∧n≤(ms.length:Int)-1))) Z Z ?_;refine BK (p:=0≤n∧n≤(ms.length:Int)-1) ?_ ?_
  ·intro aa;refine Gg 3 8 (AD Z aa) Z (AT Fx.fld92_0 Z ?_);refine Gg 3 8 (AD Z aa) Z (AT Fx.fld26_3 Z ?_);refine Gg 3 8 (AD Z aa) Z (AI (v:=msv) Z (Rd.one Fx.ty23 (ab.keep ap Z) Z) ?_);refine Gg 3 8 (AD Z aa) Z (AA (v:=.int .i64 n) Z ?_);have aj:(0:Int)≤n:=by omega
   have ak:n<((ms.length:Nat):Int):=by omega
   refine Gg 3 8 (AD Z aa) Z (Aw Fx.esz23 hms Z Z aj ak fun aq ad al=>?_);have am:Ab _ aq ad 5 (A4 (ms.getD (n.toNat) AB.z)):=Ab.getD AB.z al;refine Gg 3 8 (AD Z aa) Z (AT Fx.fld41_0 Z ?_);refine Gg 3 8 (AD Z aa) Z (AI (v:=.int .i64 ((ms.getD (n.toNat) AB.z).kind)) Z (CT Fx.ty37 (am.le (ac.trans ab)) Z) ?_);refine Gg 3 8 (AD Z aa) Z (Bs (a:=(ms.getD (n.toNat) AB.z).kind) (b:=0) Z Z ?_);refine Pk true (.bool (decide (((ms.getD (n.toNat) AB.z).kind)=0))) Z (AD Z aa) Z ?_;refine As (.bool (decide (((ms.getD (n.toNat) AB.z).kind)=0))) Z Z ?_;refine Nl ?_;exact ⟨Z,ab,Et (b:=(.bool (decide (((ms.getD (n.toNat) AB.z).kind)=0)):Value)) Z (congrArg Value.bool (by (simp [aa];done):decide (((ms.getD (n.toNat) AB.z).kind)=0)=(decide ((0≤n∧n≤(ms.length:Int)-1)∧(((ms.getD (n.toNat) AB.z).kind)=0)))))⟩
  ·intro aa;refine Gs 3 8 (AC Z aa) Z ?_;refine Gs 3 8 (AC Z aa) Z ?_;refine Gs 3 8 (AC Z aa) Z ?_;refine Gs 3 8 (AC Z aa) Z ?_;refine Gs 3 8 (AC Z aa) Z ?_;refine Gs 3 8 (AC Z aa) Z ?_;refine Gs 3 8 (AC Z aa) Z ?_;refine Gs 3 8 (AC Z aa) Z ?_;refine Pk false (.bool false) Z (AC Z aa) Z ?_;refine As (.bool false) Z Z ?_;refine Nl ?_;exact ⟨Z,ab,Et (b:=(.bool false:Value)) Z (congrArg Value.bool (by (simp [aa];done):false=(decide ((0≤n∧n≤(ms.length:Int)-1)∧(((ms.getD (n.toNat) AB.z).kind)=0)))))⟩
 ·rintro _ _ _ ⟨an,ae,ao⟩;subst an;refine Rt ?_;refine ⟨.inr Z,Ae Z (v:=.bool (decide ((0≤n∧n≤(ms.length:Int)-1)∧(((ms.getD (n.toNat) AB.z).kind)=0)))) ao ?_⟩;exact ⟨(by rfl),(ac.trans ae)⟩
theorem R7 {W:Wk Tryd.prog} {h:GH} (d:Int) (m:Int) (gs:List Good) (gsv:Value) (ms:List AB) (msv:Value) (cs:List AE) (csv:Value) (hgs:AO h gsv 5 BA gs) (hms:AO h msv 5 A4 ms) (hcs:AO h csv 4 Av cs):AY W 132 #[.agg #[.int .i64 d,.int .i64 m,gsv,msv,csv]] h (fun v h'=>v=(.int .i64 (DS d m):Value)∧h.Le h'):=by
 have ad:=hgs.len;have ae:=hms.len;have af:=hcs.len;refine AN Tryd.func132 Z (Nb Z) ?_;refine Sq (Rg ?_);refine Pl Z (Ar (v:=.agg #[.int .i64 d,.int .i64 m,gsv,msv,csv]) (c:=#[.int .i64 d,.int .i64 m,gsv,msv,csv]) Z Z fun _ h5 _ ab al _=>?_);refine As (.int .i64 0) Z Z ?_;refine Nl (Sq ?_);refine A5 (fun σ' ds' h'=>ds'=[]∧h5=h'∧σ' 2=.int .i64 0∧σ' 14=.bool (decide ((¬(1≤d∧d≤99))∨(¬(0≤m∧m≤2))))) ?_ ?_
 ·refine Rg ?_;refine Fa Fx.fld92_0 Z Z ?_;refine Fa Fx.fld26_0 Z Z ?_;refine Ld (.int .i64 d) Z Z (Rd.one Fx.ty3 al Z) ?_;refine Pl Z (Aq Tryd.func46 Fx.call46 Z Z Z ((BJ d 1 99 ).mono fun _ _ ag=>?_));obtain ⟨rfl,rfl⟩:=ag;refine Pl Z (BD (p:=1≤d∧d≤99) Z ?_);refine Mv (.bool (decide (¬(1≤d∧d≤99)))) Z Z ?_;refine BK (p:=¬(1≤d∧d≤99)) ?_ ?_
  ·intro aa;refine Gs 5 8 (AD Z aa) Z ?_;refine Gs 5 8 (AD Z aa) Z ?_;refine Gs 5 8 (AD Z aa) Z ?_;refine Gs 5 8 (AD Z aa) Z ?_;refine Gs 5 8 (AD Z aa) Z ?_;refine Pk true (.bool true) Z (AD Z aa) Z ?_;refine Nl ?_;exact ⟨Z,Z,Z,Et (b:=(.bool true:Value)) Z (congrArg Value.bool (by (simp [aa];done):true=(decide ((¬(1≤d∧d≤99))∨(¬(0≤m∧m≤2))))))⟩
  ·intro aa;refine Gg 5 8 (AC Z aa) Z (AT Fx.fld92_0 Z ?_);refine Gg 5 8 (AC Z aa) Z (AT Fx.fld26_1 Z ?_);refine Gg 5 8 (AC Z aa) Z (AI (v:=.int .i64 m) Z (Rd.one Fx.ty3 al Z) ?_);refine Gg 5 8 (AC Z aa) Z (Aq Tryd.func46 Fx.call46 Z Z Z ((BJ m 0 2 ).mono fun _ _ ah=>?_));obtain ⟨rfl,rfl⟩:=ah;refine Gg 5 8 (AC Z aa) Z (BD (p:=0≤m∧m≤2) Z ?_);refine Pk false (.bool (decide (¬(0≤m∧m≤2)))) Z (AC Z aa) Z ?_;refine Nl ?_;exact ⟨Z,Z,Z,Et (b:=(.bool (decide (¬(0≤m∧m≤2))):Value)) Z (congrArg Value.bool (by (simp [aa];done):decide (¬(0≤m∧m≤2))=(decide ((¬(1≤d∧d≤99))∨(¬(0≤m∧m≤2))))))⟩
 ·rintro _ _ _ ⟨ai,ac,am,aj⟩;subst ai;subst ac;refine AX (p:=(¬(1≤d∧d≤99))∨(¬(0≤m∧m≤2))) aj (fun ak=>?_) (fun ak=>?_)
  ·refine Sq (Rg ?_);refine As (.int .i64 1) Z Z ?_;refine Nl (Rt ?_);refine ⟨.inr Z,Ae Z (v:=.int .i64 1) Z ?_⟩;exact ⟨(by simp_all [DS]),ab⟩
  ·refine Sk (Sq (Rg ?_));refine As (.int .i64 0) Z Z ?_;refine Nl (Rt ?_);refine ⟨.inr Z,Ae Z (v:=.int .i64 0) Z ?_⟩;exact ⟨(by simp_all [DS]),ab⟩
theorem Lp {W:Wk Tryd.prog} {h:GH} (xs:List Int) (xsv:Value) (fv:Value) (p:Int→Bool) (hxs:AO h xsv 1 eI xs) (hf:∀x ∈ xs,∀h1,h.Le h1→CI W fv #[.int .i64 x] h1 fun v h2=>v=.bool (p x)∧h1.Le h2):AY W 76 #[xsv,fv] h (fun v h'=>v=(.int .i64 (idxOf p xs):Value)∧h.Le h'):=by
 have ac:=hxs.len;refine AN Tryd.func76 Z (Nb Z) ?_;refine Sq (Rg ?_);refine As (.int .i64 0) Z Z ?_;refine Nl (Sq (Sq (Rg ?_)));refine Mv xsv Z Z ?_;refine Pl Z (Aa Fx.sl30 hxs Z ?_);refine Mv (.int .i64 0) Z Z ?_;refine Nl (Bk ?_);refine Ap (fun nn σ' ds' h'=>∃(k:Nat),nn=xs.length-k∧(k≤xs.length)∧((xs.take k).any p=false)∧ds'=[]∧GH.Le h h'∧σ' 0=xsv∧σ' 1=fv∧σ' 7=.int .i64 (xs.length:Int)∧σ' 8=.int .i64 (k:Int)) ⟨0,Z,(by omega),(by simp),Z,Lr,Z,Z,Z,Z⟩ (fun nn _ _ _ am=>?_);obtain ⟨k,rfl,hk,hs,x6,x7,x8,x9,al,ad⟩:=am;subst x6;refine Sq (Rg ?_);refine Pl Z (Az (a:=(k:Int)) (b:=(xs.length:Int)) ad al ?_);refine Nl (Sq ?_);refine AX (p:=(k:Int)<(xs.length:Int)) Z (fun ae=>?_) (fun ae=>?_)
 ·refine Sk (Sq (Bk (Sq (Rg ?_))));refine Mv (.int .i64 (k:Int)) Z ad ?_;refine As (.int .i64 (k:Int)) Z Z ?_;refine Nl (Sq (Rg ?_));refine Mv fv Z x9 ?_;refine Mv xsv Z x8 ?_;refine Mv (.int .i64 (k:Int)) Z Z ?_;have af:(0:Int)≤(k:Int):=by omega
  have ag:(k:Int)<((xs.length:Nat):Int):=by omega
  refine Pl Z (Aw Fx.esz30 hxs Z Z af ag fun an ab ah=>?_);have ai:Ab _ an ab 1 (eI (xs.getD k 0)):=Ab.getD 0 ah;refine Ld (.int .i64 (xs.getD k 0)) Z Z (CT Fx.ty3 (ai.le x7) Z) ?_;refine Pl Z (Gh Z (vs:=#[.int .i64 (xs.getD k 0)]) (by simp only [List.map_toArray,List.map_cons,List.map_nil,AQ] <;> rfl) ((hf (xs.getD k 0) (Co (by omega)) _ x7).mono fun _ _ aj=>?_));obtain ⟨rfl,aa⟩:=aj;refine Nl ?_;refine Ce (t:=p (xs.getD k 0)) Z (fun ak=>?_) (fun ak=>?_)
  ·refine Sq (Rg ?_);refine Mv (.int .i64 (k:Int)) Z Z ?_;refine As (.int .i64 (k:Int)) Z Z ?_;refine Nl (Rt ?_);refine ⟨.inr Z,Ae Z (v:=.int .i64 (k:Int)) Z ?_⟩;exact ⟨(by (rw [JJ (k:=k) (by omega) hs ‹_›];done)),(x7.trans aa)⟩
  ·refine Sk (Rg ?_);refine Ad (k:Int) 1 Z ad Z (by omega) ?_;refine Mv (.int .i64 ((k:Int)+1)) Z Z ?_;refine Nl ?_;exact ⟨_,by omega,k+1,Z,(by omega),(by exact Ik (d:=0) (by omega) hs ‹_›),Z,(x7.trans aa),x8,x9,al,Z⟩
 ·refine Xt (Sq (Rg ?_));refine As (.int .i64 (-1)) Z Z ?_;refine Nl (Rt ?_);refine ⟨.inr Z,Ae Z (v:=.int .i64 (-1)) Z ?_⟩;exact ⟨(by (rw [IK (k:=k) (by omega) hs])),x7⟩
theorem GV {W:Wk Tryd.prog} {h:GH} (xs:List Int) (xsv:Value) (fv:Value) (p:Int→Bool) (hxs:AO h xsv 1 eI xs) (hf:∀x ∈ xs,∀h1,h.Le h1→CI W fv #[.int .i64 x] h1 fun v h2=>v=.bool (p x)∧h1.Le h2):AY W 51 #[xsv,fv] h (fun v h'=>v=(.bool (xs.any p):Value)∧h.Le h'):=by
 have aa:=hxs.len;refine AN Tryd.func51 Z (Nb Z) ?_;refine Sq (Rg ?_);refine As (.bool false) Z Z ?_;refine Nl (Sq (Rg ?_));refine Mv xsv Z Z ?_;refine Mv fv Z Z ?_;refine Pl Z (AW Tryd.func76 Fx.call76 Z Z ((Lp xs xsv fv p hxs (fun x hx h1 l1=>hf x hx h1 (GH.Le.trans Lr l1))).mono fun _ _ ac=>?_));obtain ⟨rfl,ab⟩:=ac;refine Pl Z (CD (a:=idxOf p xs) (b:=0) Z Z ?_);refine As (.bool (decide (0≤(idxOf p xs)))) Z Z ?_;refine Nl (Rt ?_);refine ⟨.inr Z,Ae Z (v:=.bool (decide (0≤(idxOf p xs)))) Z ?_⟩;exact ⟨(by rw [show decide (0≤idxOf p xs)=xs.any p from by rw [Bool.eq_iff_iff];simp [GL]]),ab⟩
theorem J4 {W:Wk Tryd.prog} {h:GH} (xs:List AE) (xsv:Value) (fv:Value) (p:AE→Bool) (hxs:AO h xsv 4 Av xs) (hf:∀x ∈ xs,∀h1,h.Le h1→CI W fv #[.agg #[.int .i64 x.good,.int .i64 x.day,.int .i64 x.low,.int .i64 x.high]] h1 fun v h2=>v=.bool (p x)∧h1.Le h2):AY W 106 #[xsv,fv] h (fun v h'=>v=(.int .i64 (idxOf p xs):Value)∧h.Le h'):=by
 have ac:=hxs.len;refine AN Tryd.func106 Z (Nb Z) ?_;refine Sq (Rg ?_);refine As (.int .i64 0) Z Z ?_;refine Nl (Sq (Sq (Rg ?_)));refine Mv xsv Z Z ?_;refine Pl Z (Aa Fx.sl24 hxs Z ?_);refine Mv (.int .i64 0) Z Z ?_;refine Nl (Bk ?_);refine Ap (fun nn σ' ds' h'=>∃(k:Nat),nn=xs.length-k∧(k≤xs.length)∧((xs.take k).any p=false)∧ds'=[]∧GH.Le h h'∧σ' 0=xsv∧σ' 1=fv∧σ' 7=.int .i64 (xs.length:Int)∧σ' 8=.int .i64 (k:Int)) ⟨0,Z,(by omega),(by simp),Z,Lr,Z,Z,Z,Z⟩ (fun nn _ _ _ am=>?_);obtain ⟨k,rfl,hk,hs,x6,x7,x8,x9,al,ad⟩:=am;subst x6;refine Sq (Rg ?_);refine Pl Z (Az (a:=(k:Int)) (b:=(xs.length:Int)) ad al ?_);refine Nl (Sq ?_);refine AX (p:=(k:Int)<(xs.length:Int)) Z (fun ae=>?_) (fun ae=>?_)
 ·refine Sk (Sq (Bk (Sq (Rg ?_))));refine Mv (.int .i64 (k:Int)) Z ad ?_;refine As (.int .i64 (k:Int)) Z Z ?_;refine Nl (Sq (Rg ?_));refine Mv fv Z x9 ?_;refine Mv xsv Z x8 ?_;refine Mv (.int .i64 (k:Int)) Z Z ?_;have af:(0:Int)≤(k:Int):=by omega
  have ag:(k:Int)<((xs.length:Nat):Int):=by omega
  refine Pl Z (Aw Fx.esz24 hxs Z Z af ag fun an ab ah=>?_);have ai:Ab _ an ab 4 (Av (xs.getD k AE.z)):=Ab.getD AE.z ah;refine Ld (.agg #[.int .i64 ((xs.getD k AE.z).good),.int .i64 ((xs.getD k AE.z).day),.int .i64 ((xs.getD k AE.z).low),.int .i64 ((xs.getD k AE.z).high)]) Z Z (AP Fx.ty71 (ai.le x7)) ?_;refine Pl Z (Gh Z (vs:=#[.agg #[.int .i64 ((xs.getD k AE.z).good),.int .i64 ((xs.getD k AE.z).day),.int .i64 ((xs.getD k AE.z).low),.int .i64 ((xs.getD k AE.z).high)]]) (by simp only [List.map_toArray,List.map_cons,List.map_nil,AQ] <;> rfl) ((hf (xs.getD k AE.z) (Co (by omega)) _ x7).mono fun _ _ aj=>?_));obtain ⟨rfl,aa⟩:=aj;refine Nl ?_;refine Ce (t:=p (xs.getD k AE.z)) Z (fun ak=>?_) (fun ak=>?_)
  ·refine Sq (Rg ?_);refine Mv (.int .i64 (k:Int)) Z Z ?_;refine As (.int .i64 (k:Int)) Z Z ?_;refine Nl (Rt ?_);refine ⟨.inr Z,Ae Z (v:=.int .i64 (k:Int)) Z ?_⟩;exact ⟨(by (rw [JJ (k:=k) (by omega) hs ‹_›];done)),(x7.trans aa)⟩
  ·refine Sk (Rg ?_);refine Ad (k:Int) 1 Z ad Z (by omega) ?_;refine Mv (.int .i64 ((k:Int)+1)) Z Z ?_;refine Nl ?_;exact ⟨_,by omega,k+1,Z,(by omega),(by exact Ik (d:=AE.z) (by omega) hs ‹_›),Z,(x7.trans aa),x8,x9,al,Z⟩
 ·refine Xt (Sq (Rg ?_));refine As (.int .i64 (-1)) Z Z ?_;refine Nl (Rt ?_);refine ⟨.inr Z,Ae Z (v:=.int .i64 (-1)) Z ?_⟩;exact ⟨(by (rw [IK (k:=k) (by omega) hs])),x7⟩
theorem IT {W:Wk Tryd.prog} {h:GH} (xs:List AE) (xsv:Value) (fv:Value) (p:AE→Bool) (hxs:AO h xsv 4 Av xs) (hf:∀x ∈ xs,∀h1,h.Le h1→CI W fv #[.agg #[.int .i64 x.good,.int .i64 x.day,.int .i64 x.low,.int .i64 x.high]] h1 fun v h2=>v=.bool (p x)∧h1.Le h2):AY W 90 #[xsv,fv] h (fun v h'=>v=(.bool (xs.any p):Value)∧h.Le h'):=by
 have aa:=hxs.len;refine AN Tryd.func90 Z (Nb Z) ?_;refine Sq (Rg ?_);refine As (.bool false) Z Z ?_;refine Nl (Sq (Rg ?_));refine Mv xsv Z Z ?_;refine Mv fv Z Z ?_;refine Pl Z (AW Tryd.func106 Fx.call106 Z Z ((J4 xs xsv fv p hxs (fun x hx h1 l1=>hf x hx h1 (GH.Le.trans Lr l1))).mono fun _ _ ac=>?_));obtain ⟨rfl,ab⟩:=ac;refine Pl Z (CD (a:=idxOf p xs) (b:=0) Z Z ?_);refine As (.bool (decide (0≤(idxOf p xs)))) Z Z ?_;refine Nl (Rt ?_);refine ⟨.inr Z,Ae Z (v:=.bool (decide (0≤(idxOf p xs)))) Z ?_⟩;exact ⟨(by rw [show decide (0≤idxOf p xs)=xs.any p from by rw [Bool.eq_iff_iff];simp [GL]]),ab⟩
theorem LH {W:Wk Tryd.prog} {h:GH} (xs:List Good) (xsv:Value) (fv:Value) (p:Good→Bool) (hxs:AO h xsv 5 BA xs) (hf:∀x ∈ xs,∀h1,h.Le h1→CI W fv #[.agg #[.string x.name,.int .i64 x.cost,.int .i64 x.pack,.int .i64 x.low,.int .i64 x.high]] h1 fun v h2=>v=.bool (p x)∧h1.Le h2):AY W 141 #[xsv,fv] h (fun v h'=>v=(.int .i64 (idxOf p xs):Value)∧h.Le h'):=by
 have ac:=hxs.len;refine AN Tryd.func141 Z (Nb Z) ?_;refine Sq (Rg ?_);refine As (.int .i64 0) Z Z ?_;refine Nl (Sq (Sq (Rg ?_)));refine Mv xsv Z Z ?_;refine Pl Z (Aa Fx.sl22 hxs Z ?_);refine Mv (.int .i64 0) Z Z ?_;refine Nl (Bk ?_);refine Ap (fun nn σ' ds' h'=>∃(k:Nat),nn=xs.length-k∧(k≤xs.length)∧((xs.take k).any p=false)∧ds'=[]∧GH.Le h h'∧σ' 0=xsv∧σ' 1=fv∧σ' 7=.int .i64 (xs.length:Int)∧σ' 8=.int .i64 (k:Int)) ⟨0,Z,(by omega),(by simp),Z,Lr,Z,Z,Z,Z⟩ (fun nn _ _ _ am=>?_);obtain ⟨k,rfl,hk,hs,x6,x7,x8,x9,al,ad⟩:=am;subst x6;refine Sq (Rg ?_);refine Pl Z (Az (a:=(k:Int)) (b:=(xs.length:Int)) ad al ?_);refine Nl (Sq ?_);refine AX (p:=(k:Int)<(xs.length:Int)) Z (fun ae=>?_) (fun ae=>?_)
 ·refine Sk (Sq (Bk (Sq (Rg ?_))));refine Mv (.int .i64 (k:Int)) Z ad ?_;refine As (.int .i64 (k:Int)) Z Z ?_;refine Nl (Sq (Rg ?_));refine Mv fv Z x9 ?_;refine Mv xsv Z x8 ?_;refine Mv (.int .i64 (k:Int)) Z Z ?_;have af:(0:Int)≤(k:Int):=by omega
  have ag:(k:Int)<((xs.length:Nat):Int):=by omega
  refine Pl Z (Aw Fx.esz22 hxs Z Z af ag fun an ab ah=>?_);have ai:Ab _ an ab 5 (BA (xs.getD k Good.z)):=Ab.getD Good.z ah;refine Ld (.agg #[.string ((xs.getD k Good.z).name),.int .i64 ((xs.getD k Good.z).cost),.int .i64 ((xs.getD k Good.z).pack),.int .i64 ((xs.getD k Good.z).low),.int .i64 ((xs.getD k Good.z).high)]) Z Z (AP Fx.ty57 (ai.le x7)) ?_;refine Pl Z (Gh Z (vs:=#[.agg #[.string ((xs.getD k Good.z).name),.int .i64 ((xs.getD k Good.z).cost),.int .i64 ((xs.getD k Good.z).pack),.int .i64 ((xs.getD k Good.z).low),.int .i64 ((xs.getD k Good.z).high)]]) (by simp only [List.map_toArray,List.map_cons,List.map_nil,AQ] <;> rfl) ((hf (xs.getD k Good.z) (Co (by omega)) _ x7).mono fun _ _ aj=>?_));obtain ⟨rfl,aa⟩:=aj;refine Nl ?_;refine Ce (t:=p (xs.getD k Good.z)) Z (fun ak=>?_) (fun ak=>?_)
  ·refine Sq (Rg ?_);refine Mv (.int .i64 (k:Int)) Z Z ?_;refine As (.int .i64 (k:Int)) Z Z ?_;refine Nl (Rt ?_);refine ⟨.inr Z,Ae Z (v:=.int .i64 (k:Int)) Z ?_⟩;exact ⟨(by (rw [JJ (k:=k) (by omega) hs ‹_›];done)),(x7.trans aa)⟩
  ·refine Sk (Rg ?_);refine Ad (k:Int) 1 Z ad Z (by omega) ?_;refine Mv (.int .i64 ((k:Int)+1)) Z Z ?_;refine Nl ?_;exact ⟨_,by omega,k+1,Z,(by omega),(by exact Ik (d:=Good.z) (by omega) hs ‹_›),Z,(x7.trans aa),x8,x9,al,Z⟩
 ·refine Xt (Sq (Rg ?_));refine As (.int .i64 (-1)) Z Z ?_;refine Nl (Rt ?_);refine ⟨.inr Z,Ae Z (v:=.int .i64 (-1)) Z ?_⟩;exact ⟨(by (rw [IK (k:=k) (by omega) hs])),x7⟩
theorem I8 {W:Wk Tryd.prog} {h:GH} (xs:List Good) (xsv:Value) (fv:Value) (p:Good→Bool) (hxs:AO h xsv 5 BA xs) (hf:∀x ∈ xs,∀h1,h.Le h1→CI W fv #[.agg #[.string x.name,.int .i64 x.cost,.int .i64 x.pack,.int .i64 x.low,.int .i64 x.high]] h1 fun v h2=>v=.bool (p x)∧h1.Le h2):AY W 137 #[xsv,fv] h (fun v h'=>v=(.bool (xs.any p):Value)∧h.Le h'):=by
 have aa:=hxs.len;refine AN Tryd.func137 Z (Nb Z) ?_;refine Sq (Rg ?_);refine As (.bool false) Z Z ?_;refine Nl (Sq (Rg ?_));refine Mv xsv Z Z ?_;refine Mv fv Z Z ?_;refine Pl Z (AW Tryd.func141 Fx.call141 Z Z ((LH xs xsv fv p hxs (fun x hx h1 l1=>hf x hx h1 (GH.Le.trans Lr l1))).mono fun _ _ ac=>?_));obtain ⟨rfl,ab⟩:=ac;refine Pl Z (CD (a:=idxOf p xs) (b:=0) Z Z ?_);refine As (.bool (decide (0≤(idxOf p xs)))) Z Z ?_;refine Nl (Rt ?_);refine ⟨.inr Z,Ae Z (v:=.bool (decide (0≤(idxOf p xs)))) Z ?_⟩;exact ⟨(by rw [show decide (0≤idxOf p xs)=xs.any p from by rw [Bool.eq_iff_iff];simp [GL]]),ab⟩
theorem Lq {W:Wk Tryd.prog} {h:GH} (n:Int):AY W 87 #[.int .i64 n] h (fun v h'=>v=(.bool (decide (¬(0≤n∧n≤99))):Value)∧h=h'):=by
 refine AN Tryd.func87 Z (Nb Z) ?_;refine Sq (Rg ?_);refine As (.bool false) Z Z ?_;refine Nl (Sq (Rg ?_));refine Mv (.int .i64 n) Z Z ?_;refine Pl Z (Aq Tryd.func46 Fx.call46 Z Z Z ((BJ n 0 99 ).mono fun _ _ aa=>?_));obtain ⟨rfl,rfl⟩:=aa;refine Pl Z (BD (p:=0≤n∧n≤99) Z ?_);refine As (.bool (decide (¬(0≤n∧n≤99)))) Z Z ?_;refine Nl (Rt ?_);refine ⟨.inr Z,Ae Z (v:=.bool (decide (¬(0≤n∧n≤99)))) Z ?_⟩;exact ⟨Z,Z⟩
theorem I9 {W:Wk Tryd.prog} {h:GH} (l:List Int) (lv:Value) (m:Int) (hl:AO h lv 1 eI l):AY W 73 #[lv,.int .i64 m] h (fun v h'=>v=(.int .i64 (Ao l m):Value)∧h.Le h'):=by
 have ab:=hl.len;refine AN Tryd.func73 Z (Nb Z) ?_;refine Sq (Rg ?_);refine As (.int .i64 0) Z Z ?_;refine Nl (Sq (Bk (Sq (Rg ?_))));refine Mv lv Z Z ?_;refine Pl Z (Aa Fx.sl30 hl Z ?_);refine Mv (.int .i64 m) Z Z ?_;refine Pl Z (A8 (a:=(l.length:Int)) (b:=m) Z Z ?_);refine As (.bool (decide (¬(l.length:Int)=m))) Z Z ?_;refine Nl ?_;refine AX (p:=¬(l.length:Int)=m) Z (fun ac=>?_) (fun ac=>?_)
 ·refine Sq (Rg ?_);refine As (.int .i64 2) Z Z ?_;refine Nl (Rt ?_);refine ⟨.inr Z,Ae Z (v:=.int .i64 2) Z ?_⟩;exact ⟨(by simp_all [Ao]),Lr⟩
 ·refine Sq (Rg ?_);refine Mv lv Z Z ?_;have ad:∀x ∈ l,∀h1,GH.Le h h1→CI W (.func (.func 87) #[] #[]) #[.int .i64 x] h1 fun v h2=>v=.bool ((fun x=>decide (¬(0≤x∧x≤99))) x)∧h1.Le h2:=by
   intro x hx h1 _;exact Bq Tryd.func87 Fx.call87 Z ((Lq x ).mono fun v h2 hp=>⟨hp.1,by rw [←hp.2];exact GH.Le.refl _⟩)
  refine Pl Z (AW Tryd.func51 Fx.call51 Z Z ((GV l lv (.func (.func 87) #[] #[]) (fun x=>decide (¬(0≤x∧x≤99))) hl ad).mono fun _ _ ae=>?_));obtain ⟨rfl,aa⟩:=ae;refine As (.bool (l.any (fun x=>decide (¬(0≤x∧x≤99))))) Z Z ?_;refine Nl ?_;refine Ce (t:=l.any (fun x=>decide (¬(0≤x∧x≤99)))) Z (fun af=>?_) (fun af=>?_)
  ·refine Sq (Rg ?_);refine As (.int .i64 1) Z Z ?_;refine Nl (Rt ?_);refine ⟨.inr Z,Ae Z (v:=.int .i64 1) Z ?_⟩;exact ⟨(by simp_all [Ao]),aa⟩
  ·refine Sk (Sq (Rg ?_));refine As (.int .i64 0) Z Z ?_;refine Nl (Rt ?_);refine ⟨.inr Z,Ae Z (v:=.int .i64 0) Z ?_⟩;exact ⟨(by simp_all [Ao]),aa⟩
end Go.Ns
namespace Go.Ns
open Go.Conc Go.Proofs
attribute [local irreducible] BW DY Tr AY CI Bu
theorem QY {W:Wk Tryd.prog} {h:GH} (d:Int) (m:Int) (gs:List Good) (gsv:Value) (ms:List AB) (msv:Value) (cs:List AE) (csv:Value) (hgs:AO h gsv 5 BA gs) (hms:AO h msv 5 A4 ms) (hcs:AO h csv 4 Av cs):AY W 134 #[.agg #[.int .i64 d,.int .i64 m,gsv,msv,csv]] h (fun v h'=>v=(.int .i64 (A7 d gs ms):Value)∧h.Le h'):=by
 have av:=hgs.len;have aw:=hms.len;have ax:=hcs.len;refine AN Tryd.func134 Z (Nb Z) ?_;refine Sq (Rg ?_);refine Pl Z (Ar (v:=.agg #[.int .i64 d,.int .i64 m,gsv,msv,csv]) (c:=#[.int .i64 d,.int .i64 m,gsv,msv,csv]) Z Z fun r4 h5 _ af ay _=>?_);refine As (.int .i64 0) Z Z ?_;refine Nl (Sq (Sq (Rg ?_)));refine Fa Fx.fld92_0 Z Z ?_;refine Fa Fx.fld26_3 Z Z ?_;refine Ld msv Z Z (Rd.one Fx.ty23 ay Z) ?_;have ak:=hms.le af;refine Pl Z (Aa Fx.sl23 ak Z ?_);refine Pl Z (DA (a:=(ms.length:Int)) (b:=6) Z Z ?_);refine Nl ?_;refine AX (p:=6<(ms.length:Int)) Z (fun az=>?_) (fun az=>?_)
 ·refine Sq (Rg ?_);refine As (.int .i64 2) Z Z ?_;refine Nl (Rt ?_);refine ⟨.inr Z,Ae Z (v:=.int .i64 2) Z ?_⟩;exact ⟨(by (symm;congr 1;rw [A7,if_pos ‹_›];done)),af⟩
 ·refine Sk (Sq (Rg ?_));refine As (.int .i64 0) Z Z ?_;refine Nl (Sq (Sq (Rg ?_)));refine Fa Fx.fld92_0 Z Z ?_;refine Fa Fx.fld26_3 Z Z ?_;refine Ld msv Z Z (Rd.one Fx.ty23 ay Z) ?_;refine Pl Z (Aa Fx.sl23 ak Z ?_);refine Mv (.int .i64 0) Z Z ?_;refine Nl (Bk ?_);refine Ap (fun nn σ' ds' h'=>∃(k:Nat),nn=ms.length-k∧(k≤ms.length)∧(∀j,j<k→CX d gs ms j=0)∧ds'=[]∧GH.Le h5 h'∧σ' 1=.pointer (some ⟨r4,0,none⟩)∧σ' 13=msv∧σ' 14=.int .i64 (ms.length:Int)∧σ' 3=.int .i64 (Cj ms k)∧σ' 15=.int .i64 (k:Int)) ⟨0,Z,(by omega),(by (intro j hj;omega)),Z,Lr,Z,Z,Z,Z,Z⟩ (fun nn _ _ _ a0=>?_);obtain ⟨k,rfl,hk,hs,bi,al,a1,bg,bh,bj,a2⟩:=a0;subst bi;refine Sq (Rg ?_);refine Pl Z (Az (a:=(k:Int)) (b:=(ms.length:Int)) a2 bh ?_);refine Nl (Sq ?_);refine AX (p:=(k:Int)<(ms.length:Int)) Z (fun a3=>?_) (fun a3=>?_)
  ·refine Sk (Sq (Bk (Sq (Rg ?_))));have a4:(0:Int)≤(k:Int):=by omega
   have a5:(k:Int)<((ms.length:Nat):Int):=by omega
   refine Pl Z (Aw Fx.esz23 hms bg a2 a4 a5 fun bk am a6=>?_);have a7:Ab _ bk am 5 (A4 (ms.getD k AB.z)):=Ab.getD AB.z a6;have ad:=af.trans al;refine Ld (.agg #[.int .i64 ((ms.getD k AB.z).kind),.int .i64 ((ms.getD k AB.z).good),.int .i64 ((ms.getD k AB.z).day),.int .i64 ((ms.getD k AB.z).low),.int .i64 ((ms.getD k AB.z).high)]) Z Z (AP Fx.ty41 (a7.le ad)) ?_;have an:=al.keep ay Z;refine Pl Z (Ah Fx.zero41 fun bl _ ag ac a8 _=>?_);have a9:r4≠bl:=CS an ag;refine Pl Z (AH (v:=.agg #[.int .i64 ((ms.getD k AB.z).kind),.int .i64 ((ms.getD k AB.z).good),.int .i64 ((ms.getD k AB.z).day),.int .i64 ((ms.getD k AB.z).low),.int .i64 ((ms.getD k AB.z).high)]) (c':=#[.int .i64 ((ms.getD k AB.z).kind),.int .i64 ((ms.getD k AB.z).good),.int .i64 ((ms.getD k AB.z).day),.int .i64 ((ms.getD k AB.z).low),.int .i64 ((ms.getD k AB.z).high)]) Fx.ty41 Z Z a8 Z Z (by simp) Z fun _ aj ah=>?_);refine Nl (Sq (Bk (Sq (Rg ?_))));refine Fa Fx.fld41_0 Z Z ?_;refine Ld (.int .i64 ((ms.getD k AB.z).kind)) Z Z (Rd.one Fx.ty37 aj Z) ?_;refine Pl Z (Aq Tryd.func46 Fx.call46 Z Z Z ((BJ ((ms.getD k AB.z).kind) 0 4 ).mono fun _ _ ba=>?_));obtain ⟨rfl,rfl⟩:=ba;refine Pl Z (BD (p:=0≤((ms.getD k AB.z).kind)∧((ms.getD k AB.z).kind)≤4) Z ?_);refine As (.bool (decide (¬(0≤((ms.getD k AB.z).kind)∧((ms.getD k AB.z).kind)≤4)))) Z Z ?_;refine Nl ?_;refine AX (p:=¬(0≤((ms.getD k AB.z).kind)∧((ms.getD k AB.z).kind)≤4)) Z (fun ao=>?_) (fun ao=>?_)
   ·refine Sq (Rg ?_);refine As (.int .i64 1) Z Z ?_;refine Nl (Rt ?_);refine ⟨.inr Z,Ae Z (v:=.int .i64 1) Z ?_⟩;exact ⟨(by (symm;congr 1;rw [A7,if_neg ‹_›];exact BE (k:=k) hs (by omega) (by unfold CX;(simp only [*,not_true_eq_false,not_false_eq_true,if_true,if_false,true_or,or_true,reduceCtorEq,Bool.false_eq_true];done)) (by decide))),((ad.trans ac).upd (Ln ad ag) ah)⟩
   ·have hc48_:=Dn ao;refine Sq (Rg ?_);have ap:=(ah _ a9).trans (ac.keep an Z);refine Ld (.agg #[.int .i64 d,.int .i64 m,gsv,msv,csv]) Z a1 (AP Fx.ty92 (Bx ap Z)) ?_;refine Fa Fx.fld41_1 Z Z ?_;refine Ld (.int .i64 ((ms.getD k AB.z).good)) Z Z (Rd.one Fx.ty3 aj Z) ?_;have ab:=(ad.trans ac).upd (Ln ad ag) ah;refine Pl Z (AW Tryd.func44 Fx.call44 Z Z ((Eu d m gs gsv ms msv cs csv ((ms.getD k AB.z).good) (hgs.le ab) (hms.le ab) (hcs.le ab) ).mono fun _ _ bb=>?_));obtain ⟨rfl,aa⟩:=bb;refine Pl Z (BD (p:=0≤((ms.getD k AB.z).good)∧((ms.getD k AB.z).good)≤(gs.length:Int)-1) Z ?_);refine As (.bool (decide (¬(0≤((ms.getD k AB.z).good)∧((ms.getD k AB.z).good)≤(gs.length:Int)-1)))) Z Z ?_;refine Nl ?_;refine AX (p:=¬(0≤((ms.getD k AB.z).good)∧((ms.getD k AB.z).good)≤(gs.length:Int)-1)) Z (fun aq=>?_) (fun aq=>?_)
    ·refine Sq (Rg ?_);refine As (.int .i64 6) Z Z ?_;refine Nl (Rt ?_);refine ⟨.inr Z,Ae Z (v:=.int .i64 6) Z ?_⟩;exact ⟨(by (symm;congr 1;rw [A7,if_neg ‹_›];exact BE (k:=k) hs (by omega) (by unfold CX;(clear hs;simp_all;done)) (by decide))),(ab.trans aa)⟩
    ·have hc59_:=Dn aq;refine Sq (Rg ?_);refine Fa Fx.fld41_2 Z Z ?_;have ai:=aa.keep aj Z;refine Ld (.int .i64 ((ms.getD k AB.z).day)) Z Z (Rd.one Fx.ty3 ai Z) ?_;refine Fa Fx.fld92_0 Z a1 ?_;refine Fa Fx.fld26_0 Z Z ?_;refine Ld (.int .i64 d) Z Z (Rd.one Fx.ty3 (aa.keep ap Z) Z) ?_;refine Pl Z (Aq Tryd.func46 Fx.call46 Z Z Z ((BJ ((ms.getD k AB.z).day) 1 d ).mono fun _ _ bc=>?_));obtain ⟨rfl,rfl⟩:=bc;refine Pl Z (BD (p:=1≤((ms.getD k AB.z).day)∧((ms.getD k AB.z).day)≤d) Z ?_);refine As (.bool (decide (¬(1≤((ms.getD k AB.z).day)∧((ms.getD k AB.z).day)≤d)))) Z Z ?_;refine Nl ?_;refine AX (p:=¬(1≤((ms.getD k AB.z).day)∧((ms.getD k AB.z).day)≤d)) Z (fun ar=>?_) (fun ar=>?_)
     ·refine Sq (Rg ?_);refine As (.int .i64 1) Z Z ?_;refine Nl (Rt ?_);refine ⟨.inr Z,Ae Z (v:=.int .i64 1) Z ?_⟩;exact ⟨(by (symm;congr 1;rw [A7,if_neg ‹_›];exact BE (k:=k) hs (by omega) (by unfold CX;(clear hs;simp_all;done)) (by decide))),(ab.trans aa)⟩
     ·have hc67_:=Dn ar;refine Sq (Rg ?_);refine Fa Fx.fld41_2 Z Z ?_;refine Ld (.int .i64 ((ms.getD k AB.z).day)) Z Z (Rd.one Fx.ty3 ai Z) ?_;refine Mv (.int .i64 (Cj ms k)) Z bj ?_;refine Pl Z (Az (a:=(ms.getD k AB.z).day) (b:=Cj ms k) Z Z ?_);refine As (.bool (decide (((ms.getD k AB.z).day)<(Cj ms k)))) Z Z ?_;refine Nl ?_;refine AX (p:=((ms.getD k AB.z).day)<(Cj ms k)) Z (fun bd=>?_) (fun bd=>?_)
      ·refine Sq (Rg ?_);refine As (.int .i64 7) Z Z ?_;refine Nl (Rt ?_);refine ⟨.inr Z,Ae Z (v:=.int .i64 7) Z ?_⟩;exact ⟨(by (symm;congr 1;rw [A7,if_neg ‹_›];exact BE (k:=k) hs (by omega) (by unfold CX;(clear hs;simp_all;done)) (by decide))),(ab.trans aa)⟩
      ·refine Sq (Rg ?_);refine Fa Fx.fld41_3 Z Z ?_;refine Ld (.agg #[.int .i64 ((ms.getD k AB.z).low),.int .i64 ((ms.getD k AB.z).high)]) Z Z (F1 (o:=3) (ws:=#[.int .i64 ((ms.getD k AB.z).low),.int .i64 ((ms.getD k AB.z).high)]) Fx.ty39 (Bx ai Z) (Nb Z) Z) ?_;refine Pl Z (Al Tryd.func139 Fx.call139 Z ((O0 ((ms.getD k AB.z).low) ((ms.getD k AB.z).high) ).mono fun _ _ be=>?_));obtain ⟨rfl,ae⟩:=be;refine Pl Z (BD (p:=CP ((ms.getD k AB.z).low) ((ms.getD k AB.z).high)) Z ?_);refine As (.bool (decide (¬(CP ((ms.getD k AB.z).low) ((ms.getD k AB.z).high))))) Z Z ?_;refine Nl ?_;refine AX (p:=¬(CP ((ms.getD k AB.z).low) ((ms.getD k AB.z).high))) Z (fun au=>?_) (fun au=>?_)
       ·refine Sq (Rg ?_);refine As (.int .i64 1) Z Z ?_;refine Nl (Rt ?_);refine ⟨.inr Z,Ae Z (v:=.int .i64 1) Z ?_⟩;exact ⟨(by (symm;congr 1;rw [A7,if_neg ‹_›];exact BE (k:=k) hs (by omega) (by unfold CX;(clear hs;simp_all;done)) (by decide))),((ab.trans aa).trans ae)⟩
       ·have hc75_:=Dn au;refine Sk (Rg ?_);refine Fa Fx.fld41_2 Z Z ?_;refine Ld (.int .i64 ((ms.getD k AB.z).day)) Z Z (Rd.one Fx.ty3 (ae.keep ai Z) Z) ?_;refine As (.int .i64 ((ms.getD k AB.z).day)) Z Z ?_;refine Nl (Rg ?_);refine Ad (k:Int) 1 Z a2 Z (by omega) ?_;refine Mv (.int .i64 ((k:Int)+1)) Z Z ?_;refine Nl ?_;have bf:=(((al.trans ac).upd (Ln al ag) ah).trans aa).trans ae;exact ⟨_,by omega,k+1,Z,(by omega),(by exact Cw hs (by unfold CX;(clear hs;simp_all;done))),Z,bf,a1,bg,bh,(Et (b:=(.int .i64 ((ms.getD k AB.z).day):Value)) Z (by simp [Cj])),Z⟩
  ·refine Xt (Sq (Rg ?_));refine As (.int .i64 0) Z Z ?_;refine Nl (Rt ?_);refine ⟨.inr Z,Ae Z (v:=.int .i64 0) Z ?_⟩;exact ⟨(by (symm;congr 1;rw [A7,if_neg ‹_›];exact B5 (k:=k) hs (by omega))),(af.trans al)⟩
theorem O2 {W:Wk Tryd.prog} {h:GH} (d:Int) (m:Int) (gs:List Good) (gsv:Value) (ms:List AB) (msv:Value) (cs:List AE) (csv:Value) (hgs:AO h gsv 5 BA gs) (hms:AO h msv 5 A4 ms) (hcs:AO h csv 4 Av cs):AY W 135 #[.agg #[.int .i64 d,.int .i64 m,gsv,msv,csv]] h (fun v h'=>v=(.int .i64 (Bt d gs cs):Value)∧h.Le h'):=by
 have aw:=hgs.len;have ax:=hms.len;have ay:=hcs.len;refine AN Tryd.func135 Z (Nb Z) ?_;refine Sq (Rg ?_);refine Pl Z (Ar (v:=.agg #[.int .i64 d,.int .i64 m,gsv,msv,csv]) (c:=#[.int .i64 d,.int .i64 m,gsv,msv,csv]) Z Z fun r4 h5 _ ae az _=>?_);refine As (.int .i64 0) Z Z ?_;refine Nl (Sq (Sq (Rg ?_)));refine Fa Fx.fld92_0 Z Z ?_;refine Fa Fx.fld26_4 Z Z ?_;refine Ld csv Z Z (Rd.one Fx.ty24 az Z) ?_;have aj:=hcs.le ae;refine Pl Z (Aa Fx.sl24 aj Z ?_);refine Pl Z (DA (a:=(cs.length:Int)) (b:=4) Z Z ?_);refine Nl ?_;refine AX (p:=4<(cs.length:Int)) Z (fun a0=>?_) (fun a0=>?_)
 ·refine Sq (Rg ?_);refine As (.int .i64 2) Z Z ?_;refine Nl (Rt ?_);refine ⟨.inr Z,Ae Z (v:=.int .i64 2) Z ?_⟩;exact ⟨(by (symm;congr 1;rw [Bt,if_pos ‹_›];done)),ae⟩
 ·refine Sk (Sq (Sq (Rg ?_)));refine Fa Fx.fld92_0 Z Z ?_;refine Fa Fx.fld26_4 Z Z ?_;refine Ld csv Z Z (Rd.one Fx.ty24 az Z) ?_;refine Pl Z (Aa Fx.sl24 aj Z ?_);refine Mv (.int .i64 0) Z Z ?_;refine Nl (Bk ?_);refine Ap (fun nn σ' ds' h'=>∃(k:Nat),nn=cs.length-k∧(k≤cs.length)∧(∀j,j<k→DQ d gs cs j=0)∧ds'=[]∧GH.Le h5 h'∧σ' 1=.pointer (some ⟨r4,0,none⟩)∧σ' 12=csv∧σ' 13=.int .i64 (cs.length:Int)∧σ' 14=.int .i64 (k:Int)) ⟨0,Z,(by omega),(by (intro j hj;omega)),Z,Lr,Z,Z,Z,Z⟩ (fun nn _ _ _ a1=>?_);obtain ⟨k,rfl,hk,hs,bm,ak,au,a2,a3,av⟩:=a1;subst bm;refine Sq (Rg ?_);refine Pl Z (Az (a:=(k:Int)) (b:=(cs.length:Int)) av a3 ?_);refine Nl (Sq ?_);refine AX (p:=(k:Int)<(cs.length:Int)) Z (fun a4=>?_) (fun a4=>?_)
  ·refine Sk (Sq (Bk (Sq (Rg ?_))));have a5:(0:Int)≤(k:Int):=by omega
   have a6:(k:Int)<((cs.length:Nat):Int):=by omega
   refine Pl Z (Aw Fx.esz24 hcs a2 av a5 a6 fun bn al a7=>?_);have a8:Ab _ bn al 4 (Av (cs.getD k AE.z)):=Ab.getD AE.z a7;have ag:=ae.trans ak;refine Ld (.agg #[.int .i64 ((cs.getD k AE.z).good),.int .i64 ((cs.getD k AE.z).day),.int .i64 ((cs.getD k AE.z).low),.int .i64 ((cs.getD k AE.z).high)]) Z Z (AP Fx.ty71 (a8.le ag)) ?_;have am:=ak.keep az Z;refine Pl Z (Ah Fx.zero71 fun bo _ ah ac a9 _=>?_);have ba:r4≠bo:=CS am ah;refine Pl Z (AH (v:=.agg #[.int .i64 ((cs.getD k AE.z).good),.int .i64 ((cs.getD k AE.z).day),.int .i64 ((cs.getD k AE.z).low),.int .i64 ((cs.getD k AE.z).high)]) (c':=#[.int .i64 ((cs.getD k AE.z).good),.int .i64 ((cs.getD k AE.z).day),.int .i64 ((cs.getD k AE.z).low),.int .i64 ((cs.getD k AE.z).high)]) Fx.ty71 Z Z a9 Z Z (by simp) Z fun _ an ai=>?_);refine Nl (Bk (Sq (Rg ?_)));have ao:=(ai _ ba).trans (ac.keep am Z);refine Ld (.agg #[.int .i64 d,.int .i64 m,gsv,msv,csv]) Z au (AP Fx.ty92 (Bx ao Z)) ?_;refine Fa Fx.fld71_0 Z Z ?_;refine Ld (.int .i64 ((cs.getD k AE.z).good)) Z Z (Rd.one Fx.ty3 an Z) ?_;have ad:=(ag.trans ac).upd (Ln ag ah) ai;refine Pl Z (AW Tryd.func44 Fx.call44 Z Z ((Eu d m gs gsv ms msv cs csv ((cs.getD k AE.z).good) (hgs.le ad) (hms.le ad) (hcs.le ad) ).mono fun _ bp bb=>?_));obtain ⟨rfl,ab⟩:=bb;refine Pl Z (BD (p:=0≤((cs.getD k AE.z).good)∧((cs.getD k AE.z).good)≤(gs.length:Int)-1) Z ?_);refine As (.bool (decide (¬(0≤((cs.getD k AE.z).good)∧((cs.getD k AE.z).good)≤(gs.length:Int)-1)))) Z Z ?_;refine Nl ?_;refine AX (p:=¬(0≤((cs.getD k AE.z).good)∧((cs.getD k AE.z).good)≤(gs.length:Int)-1)) Z (fun ap=>?_) (fun ap=>?_)
   ·refine Sq (Rg ?_);refine As (.int .i64 6) Z Z ?_;refine Nl (Rt ?_);refine ⟨.inr Z,Ae Z (v:=.int .i64 6) Z ?_⟩;exact ⟨(by (symm;congr 1;rw [Bt,if_neg ‹_›];exact BE (k:=k) hs (by omega) (by unfold DQ;(simp only [*,not_true_eq_false,not_false_eq_true,if_true,if_false,true_or,or_true,reduceCtorEq,Bool.false_eq_true];done)) (by decide))),(ad.trans ab)⟩
   ·have hc52_:=Dn ap;refine A5 (fun σ' ds' h'=>ds'=[]∧GH.Le bp h'∧σ' 1=.pointer (some ⟨r4,0,none⟩)∧σ' 12=csv∧σ' 13=.int .i64 (cs.length:Int)∧σ' 14=.int .i64 (k:Int)∧σ' 24=.bool (decide ((¬(0≤((cs.getD k AE.z).day)∧((cs.getD k AE.z).day)≤d))∨(¬((0≤((cs.getD k AE.z).low)∧((cs.getD k AE.z).low)≤((cs.getD k AE.z).high))∧((cs.getD k AE.z).high)≤999))))) ?_ ?_
    ·refine Rg ?_;refine Fa Fx.fld71_1 Z Z ?_;have aq:=ab.keep an Z;refine Ld (.int .i64 ((cs.getD k AE.z).day)) Z Z (Rd.one Fx.ty3 aq Z) ?_;refine Fa Fx.fld92_0 Z au ?_;refine Fa Fx.fld26_0 Z Z ?_;refine Ld (.int .i64 d) Z Z (Rd.one Fx.ty3 (ab.keep ao Z) Z) ?_;refine Pl Z (Aq Tryd.func46 Fx.call46 Z Z Z ((BJ ((cs.getD k AE.z).day) 0 d ).mono fun _ _ bc=>?_));obtain ⟨rfl,rfl⟩:=bc;refine Pl Z (BD (p:=0≤((cs.getD k AE.z).day)∧((cs.getD k AE.z).day)≤d) Z ?_);refine Mv (.bool (decide (¬(0≤((cs.getD k AE.z).day)∧((cs.getD k AE.z).day)≤d)))) Z Z ?_;refine BK (p:=¬(0≤((cs.getD k AE.z).day)∧((cs.getD k AE.z).day)≤d)) ?_ ?_
     ·intro aa;refine Gs 7 32 (AD Z aa) Z ?_;refine Gs 7 32 (AD Z aa) Z ?_;refine Gs 7 32 (AD Z aa) Z ?_;refine Gs 7 32 (AD Z aa) Z ?_;refine Pk true (.bool true) Z (AD Z aa) Z ?_;refine As (.bool true) Z Z ?_;refine Nl ?_;exact ⟨Z,Lr,au,a2,a3,av,Et (b:=(.bool true:Value)) Z (congrArg Value.bool (by grind:true=(decide ((¬(0≤((cs.getD k AE.z).day)∧((cs.getD k AE.z).day)≤d))∨(¬((0≤((cs.getD k AE.z).low)∧((cs.getD k AE.z).low)≤((cs.getD k AE.z).high))∧((cs.getD k AE.z).high)≤999))))))⟩
     ·intro aa;refine Gg 7 32 (AC Z aa) Z (AT Fx.fld71_2 Z ?_);refine Gg 7 32 (AC Z aa) Z (AI (v:=.agg #[.int .i64 ((cs.getD k AE.z).low),.int .i64 ((cs.getD k AE.z).high)]) Z (F1 (o:=2) (ws:=#[.int .i64 ((cs.getD k AE.z).low),.int .i64 ((cs.getD k AE.z).high)]) Fx.ty39 (Bx aq Z) (Nb Z) Z) ?_);refine Gg 7 32 (AC Z aa) Z (Aq Tryd.func140 Fx.call140 Z Z Z ((LF ((cs.getD k AE.z).low) ((cs.getD k AE.z).high) 0 999 ).mono fun _ _ bd=>?_));obtain ⟨rfl,ar⟩:=bd;refine Gg 7 32 (AC Z aa) Z (BD (p:=(0≤((cs.getD k AE.z).low)∧((cs.getD k AE.z).low)≤((cs.getD k AE.z).high))∧((cs.getD k AE.z).high)≤999) Z ?_);refine Pk false (.bool (decide (¬((0≤((cs.getD k AE.z).low)∧((cs.getD k AE.z).low)≤((cs.getD k AE.z).high))∧((cs.getD k AE.z).high)≤999)))) Z (AC Z aa) Z ?_;refine As (.bool (decide (¬((0≤((cs.getD k AE.z).low)∧((cs.getD k AE.z).low)≤((cs.getD k AE.z).high))∧((cs.getD k AE.z).high)≤999)))) Z Z ?_;refine Nl ?_;exact ⟨Z,ar,au,a2,a3,av,Et (b:=(.bool (decide (¬((0≤((cs.getD k AE.z).low)∧((cs.getD k AE.z).low)≤((cs.getD k AE.z).high))∧((cs.getD k AE.z).high)≤999))):Value)) Z (congrArg Value.bool (by grind:decide (¬((0≤((cs.getD k AE.z).low)∧((cs.getD k AE.z).low)≤((cs.getD k AE.z).high))∧((cs.getD k AE.z).high)≤999))=(decide ((¬(0≤((cs.getD k AE.z).day)∧((cs.getD k AE.z).day)≤d))∨(¬((0≤((cs.getD k AE.z).low)∧((cs.getD k AE.z).low)≤((cs.getD k AE.z).high))∧((cs.getD k AE.z).high)≤999))))))⟩
    ·rintro _ _ _ ⟨be,af,bf,bg,bh,bi,bj⟩;subst be;refine AX (p:=(¬(0≤((cs.getD k AE.z).day)∧((cs.getD k AE.z).day)≤d))∨(¬((0≤((cs.getD k AE.z).low)∧((cs.getD k AE.z).low)≤((cs.getD k AE.z).high))∧((cs.getD k AE.z).high)≤999))) bj (fun bk=>?_) (fun bk=>?_)
     ·refine Sq (Rg ?_);refine As (.int .i64 1) Z Z ?_;refine Nl (Rt ?_);refine ⟨.inr Z,Ae Z (v:=.int .i64 1) Z ?_⟩;exact ⟨(by (symm;congr 1;rw [Bt,if_neg ‹_›];exact BE (k:=k) hs (by omega) (by unfold DQ;(clear hs;simp_all;done)) (by decide))),((ad.trans ab).trans af)⟩
     ·refine Sk (Rg ?_);refine Ad (k:Int) 1 Z bi Z (by omega) ?_;refine Mv (.int .i64 ((k:Int)+1)) Z Z ?_;refine Nl ?_;have bl:=(((ak.trans ac).upd (Ln ak ah) ai).trans ab).trans af;exact ⟨_,by omega,k+1,Z,(by omega),(by exact Cw hs (by unfold DQ;(clear hs;simp_all;done))),Z,bl,bf,bg,bh,Z⟩
  ·refine Xt (Sq (Rg ?_));refine As (.int .i64 0) Z Z ?_;refine Nl (Rt ?_);refine ⟨.inr Z,Ae Z (v:=.int .i64 0) Z ?_⟩;exact ⟨(by (symm;congr 1;rw [Bt,if_neg ‹_›];exact B5 (k:=k) hs (by omega))),(ae.trans ak)⟩
theorem O3 {W:Wk Tryd.prog} {h:GH} (s:ByteArray) (hsz:s.size≤1000):AY W 136 #[.string s] h (fun v h'=>v=(.bool (C2 s):Value)∧h.Le h'):=by
 have hbl:=CE s;refine AN Tryd.func136 Z (Nb Z) ?_;refine Sq (Rg ?_);refine As (.bool false) Z Z ?_;refine Nl (Sq (Sq (Rg ?_)));refine Mv (.string s) Z Z ?_;refine Pl Z (Sj Fx.s2b9_50 Z (by omega) fun a1 h2 ad a2=>?_);refine Pl Z (Aa Fx.sl50 a2 Z ?_);refine Mv (.int .i64 0) Z Z ?_;refine Nl (Bk ?_);refine Ap (fun nn σ' ds' h'=>∃(k:Nat),nn=(bytesOf s).length-k∧(k≤(bytesOf s).length)∧(∀j,j<k→F5 s j=0)∧ds'=[]∧GH.Le h2 h'∧σ' 0=.string s∧σ' 6=a1∧σ' 7=.int .i64 ((bytesOf s).length:Int)∧σ' 8=.int .i64 (k:Int)) ⟨0,Z,(by omega),(by (intro j hj;omega)),Z,Lr,Z,Z,Z,Z⟩ (fun nn _ _ h7 a3=>?_);obtain ⟨k,rfl,hk,hs,x9,ag,ah,ai,aj,ac⟩:=a3;subst x9;have hby:=Hy s k;refine Sq (Rg ?_);refine Pl Z (Az (a:=(k:Int)) (b:=((bytesOf s).length:Int)) ac aj ?_);refine Nl (Sq ?_);refine AX (p:=(k:Int)<((bytesOf s).length:Int)) Z (fun ak=>?_) (fun ak=>?_)
 ·refine Sk (Sq (Bk (Sq (Rg ?_))));refine Mv (.int .i64 (k:Int)) Z ac ?_;have al:(0:Int)≤(k:Int):=by omega
  have am:(k:Int)<(((bytesOf s).length:Nat):Int):=by omega
  refine Pl Z (Aw Fx.esz50 a2 ai ac al am fun a4 ae an=>?_);have ao:Ab _ a4 ae 1 (eB ((bytesOf s).getD k 0)):=Ab.getD 0 an;refine Ld (.int .u8 ((bytesOf s).getD k 0)) Z Z (CT Fx.ty5 (ao.le ag) Z) ?_;refine As (.int .i64 (k:Int)) Z Z ?_;refine As (.int .u8 ((bytesOf s).getD k 0)) Z Z ?_;refine Nl ?_;refine A5 (fun σ' ds' h'=>ds'=[]∧h7=h'∧σ' 0=.string s∧σ' 6=a1∧σ' 7=.int .i64 ((bytesOf s).length:Int)∧σ' 8=.int .i64 (k:Int)∧σ' 26=.bool (decide ((¬(97≤((bytesOf s).getD k 0)∧((bytesOf s).getD k 0)≤122))∧(((k:Int)=0)∨(¬(48≤((bytesOf s).getD k 0)∧((bytesOf s).getD k 0)≤57)))))) ?_ ?_
  ·refine Rg ?_;refine Mv (.int .u8 ((bytesOf s).getD k 0)) Z Z ?_;refine Pl Z (BL (r:=(bytesOf s).getD k 0) Fx.und5 Fx.kind3 Z (by rw [IntWalk.i64_in _ (by omega)]) ?_);refine Pl Z (Aq Tryd.func46 Fx.call46 Z Z Z ((BJ ((bytesOf s).getD k 0) 97 122 ).mono fun _ _ ap=>?_));obtain ⟨rfl,rfl⟩:=ap;refine Pl Z (BD (p:=97≤((bytesOf s).getD k 0)∧((bytesOf s).getD k 0)≤122) Z ?_);refine Mv (.bool (decide (¬(97≤((bytesOf s).getD k 0)∧((bytesOf s).getD k 0)≤122)))) Z Z ?_;refine BK (p:=¬(97≤((bytesOf s).getD k 0)∧((bytesOf s).getD k 0)≤122)) ?_ ?_
   ·intro aa;refine Gg 4 17 (AD Z aa) Z (AA (v:=.int .i64 (k:Int)) Z ?_);refine Gg 4 17 (AD Z aa) Z (Bs (a:=(k:Int)) (b:=0) Z Z ?_);refine Gg 4 17 (AD Z aa) Z (AA (v:=.bool (decide ((k:Int)=0))) Z ?_);refine BK (p:=(k:Int)=0) ?_ ?_
    ·intro ab;refine Gs 7 20 (AD Z ab) Z ?_;refine Gs 7 20 (AD Z ab) Z ?_;refine Gs 7 20 (AD Z ab) Z ?_;refine Gs 7 20 (AD Z ab) Z ?_;refine Gg 4 17 (AD Z aa) Z (BZ (t:=true) (v:=.bool true) (AD Z ab) Z ?_);refine Pk true (.bool true) Z (AD Z aa) Z ?_;refine Nl ?_;exact ⟨Z,Z,ah,ai,aj,ac,Et (b:=(.bool true:Value)) Z (congrArg Value.bool (by grind:true=(decide ((¬(97≤((bytesOf s).getD k 0)∧((bytesOf s).getD k 0)≤122))∧(((k:Int)=0)∨(¬(48≤((bytesOf s).getD k 0)∧((bytesOf s).getD k 0)≤57)))))))⟩
    ·intro ab;refine Gg 7 20 (AC Z ab) Z (AA (v:=.int .u8 ((bytesOf s).getD k 0)) Z ?_);refine Gg 7 20 (AC Z ab) Z (BL (r:=(bytesOf s).getD k 0) Fx.und5 Fx.kind3 Z (by rw [IntWalk.i64_in _ (by omega)]) ?_);refine Gg 7 20 (AC Z ab) Z (Aq Tryd.func46 Fx.call46 Z Z Z ((BJ ((bytesOf s).getD k 0) 48 57 ).mono fun _ _ aq=>?_));obtain ⟨rfl,rfl⟩:=aq;refine Gg 7 20 (AC Z ab) Z (BD (p:=48≤((bytesOf s).getD k 0)∧((bytesOf s).getD k 0)≤57) Z ?_);refine Gg 4 17 (AD Z aa) Z (BZ (t:=false) (v:=.bool (decide (¬(48≤((bytesOf s).getD k 0)∧((bytesOf s).getD k 0)≤57)))) (AC Z ab) Z ?_);refine Pk true (.bool (decide (¬(48≤((bytesOf s).getD k 0)∧((bytesOf s).getD k 0)≤57)))) Z (AD Z aa) Z ?_;refine Nl ?_;exact ⟨Z,Z,ah,ai,aj,ac,Et (b:=(.bool (decide (¬(48≤((bytesOf s).getD k 0)∧((bytesOf s).getD k 0)≤57))):Value)) Z (congrArg Value.bool (by grind:decide (¬(48≤((bytesOf s).getD k 0)∧((bytesOf s).getD k 0)≤57))=(decide ((¬(97≤((bytesOf s).getD k 0)∧((bytesOf s).getD k 0)≤122))∧(((k:Int)=0)∨(¬(48≤((bytesOf s).getD k 0)∧((bytesOf s).getD k 0)≤57)))))))⟩
   ·intro aa;refine Gs 4 17 (AC Z aa) Z ?_;refine Gs 4 17 (AC Z aa) Z ?_;refine Gs 4 17 (AC Z aa) Z ?_;refine Bg (j:=7) (d:=20) Z Z Z Z Z Z ?_;refine Bg (j:=7) (d:=20) Z Z Z Z Z Z ?_;refine Bg (j:=7) (d:=20) Z Z Z Z Z Z ?_;refine Bg (j:=7) (d:=20) Z Z Z Z Z Z ?_;refine Gs 4 17 (AC Z aa) Z ?_;refine Pk false (.bool false) Z (AC Z aa) Z ?_;refine Nl ?_;exact ⟨Z,Z,ah,ai,aj,ac,Et (b:=(.bool false:Value)) Z (congrArg Value.bool (by grind:false=(decide ((¬(97≤((bytesOf s).getD k 0)∧((bytesOf s).getD k 0)≤122))∧(((k:Int)=0)∨(¬(48≤((bytesOf s).getD k 0)∧((bytesOf s).getD k 0)≤57)))))))⟩
  ·rintro _ _ _ ⟨ar,af,au,av,aw,ax,ay⟩;subst ar;subst af;refine AX (p:=(¬(97≤((bytesOf s).getD k 0)∧((bytesOf s).getD k 0)≤122))∧(((k:Int)=0)∨(¬(48≤((bytesOf s).getD k 0)∧((bytesOf s).getD k 0)≤57)))) ay (fun az=>?_) (fun az=>?_)
   ·refine Sq (Rg ?_);refine As (.bool false) Z Z ?_;refine Nl (Rt ?_);refine ⟨.inr Z,Ae Z (v:=.bool false) Z ?_⟩;exact ⟨(by (symm;congr 1;exact Kh hs (by omega) (by unfold F5;simp only [DB,DP, *,not_true_eq_false,not_false_eq_true,if_true,if_false,or_self,or_true,true_or,and_self,and_true,true_and];simp_all;done))),(ad.trans ag)⟩
   ·refine Sk (Rg ?_);refine Ad (k:Int) 1 Z ax Z (by omega) ?_;refine Mv (.int .i64 ((k:Int)+1)) Z Z ?_;refine Nl ?_;exact ⟨_,by omega,k+1,Z,(by omega),(by exact Cw hs (by unfold F5;simp only [DB,DP];simp_all;done)),Z,ag,au,av,aw,Z⟩
 ·refine Xt (Sq (Rg ?_));refine Mv (.string s) Z ah ?_;refine Pl Z (Ie Fx.str9 Z ?_);refine Pl Z (Aq Tryd.func46 Fx.call46 Z Z Z ((BJ (s.size:Int) 1 10 ).mono fun _ _ a0=>?_));obtain ⟨rfl,rfl⟩:=a0;refine As (.bool (decide (1≤(s.size:Int)∧(s.size:Int)≤10))) Z Z ?_;refine Nl (Rt ?_);refine ⟨.inr Z,Ae Z (v:=.bool (decide (1≤(s.size:Int)∧(s.size:Int)≤10))) Z ?_⟩;exact ⟨(by (symm;congr 1;exact Ki hs (by omega))),(ad.trans ag)⟩
theorem O4 {W:Wk Tryd.prog} {h:GH} (o:Good) (x:Good) (rx:Nat) (hrx:Ab h rx 0 5 #[.string x.name,.int .i64 x.cost,.int .i64 x.pack,.int .i64 x.low,.int .i64 x.high]):AY W 138 #[.agg #[.string o.name,.int .i64 o.cost,.int .i64 o.pack,.int .i64 o.low,.int .i64 o.high],.pointer (some ⟨rx,0,none⟩)] h (fun v h'=>v=(.bool ((o.name).toList==(x.name).toList):Value)∧h.Le h'):=by
 refine AN Tryd.func138 Z (Nb Z) ?_;refine Sq (Rg ?_);refine Pl Z (Ar (v:=.agg #[.string o.name,.int .i64 o.cost,.int .i64 o.pack,.int .i64 o.low,.int .i64 o.high]) (c:=#[.string o.name,.int .i64 o.cost,.int .i64 o.pack,.int .i64 o.low,.int .i64 o.high]) Z Z fun _ _ _ aa ab _=>?_);refine As (.bool false) Z Z ?_;refine Nl (Sq (Rg ?_));refine Fa Fx.fld57_0 Z Z ?_;refine Ld (.string o.name) Z Z (Rd.one Fx.ty9 ab Z) ?_;refine Fa Fx.fld57_0 Z Z ?_;refine Ld (.string x.name) Z Z (Bv (o:=0) Fx.ty9 (hrx.le aa) Z) ?_;refine Pl Z (Qx (a:=o.name) (b:=x.name) Z Z ?_);refine As (.bool ((o.name).toList==(x.name).toList)) Z Z ?_;refine Nl (Rt ?_);refine ⟨.inr Z,Ae Z (v:=.bool ((o.name).toList==(x.name).toList)) Z ?_⟩;exact ⟨Z,aa⟩
theorem QZ {W:Wk Tryd.prog} {h:GH} (d:Int) (m:Int) (gs:List Good) (gsv:Value) (ms:List AB) (msv:Value) (cs:List AE) (csv:Value) (hgs:AO h gsv 5 BA gs) (hms:AO h msv 5 A4 ms) (hcs:AO h csv 4 Av cs) (hnm:∀k,(gs.getD k Good.z).name.size≤1000):AY W 133 #[.agg #[.int .i64 d,.int .i64 m,gsv,msv,csv]] h (fun v h'=>v=(.int .i64 (BF gs):Value)∧h.Le h'):=by
 have a2:=hgs.len;have a3:=hms.len;have a4:=hcs.len;refine AN Tryd.func133 Z (Nb Z) ?_;refine Sq (Rg ?_);refine Pl Z (Ar (v:=.agg #[.int .i64 d,.int .i64 m,gsv,msv,csv]) (c:=#[.int .i64 d,.int .i64 m,gsv,msv,csv]) Z Z fun r4 h5 _ ag a5 _=>?_);refine As (.int .i64 0) Z Z ?_;refine Nl (Sq (Sq (Rg ?_)));refine Fa Fx.fld92_0 Z Z ?_;refine Fa Fx.fld26_2 Z Z ?_;refine Ld gsv Z Z (Rd.one Fx.ty22 a5 Z) ?_;have ap:=hgs.le ag;refine Pl Z (Aa Fx.sl22 ap Z ?_);refine Pl Z (Aq Tryd.func46 Fx.call46 Z Z Z ((BJ (gs.length:Int) 1 3 ).mono fun _ _ a6=>?_));obtain ⟨rfl,rfl⟩:=a6;refine Pl Z (BD (p:=1≤(gs.length:Int)∧(gs.length:Int)≤3) Z ?_);refine Nl ?_;refine AX (p:=¬(1≤(gs.length:Int)∧(gs.length:Int)≤3)) Z (fun aq=>?_) (fun aq=>?_)
 ·refine Sq (Rg ?_);refine As (.int .i64 2) Z Z ?_;refine Nl (Rt ?_);refine ⟨.inr Z,Ae Z (v:=.int .i64 2) Z ?_⟩;exact ⟨(by (symm;congr 1;rw [BF,if_pos ‹_›];done)),ag⟩
 ·have hc16_:=Dn aq;refine Sk (Sq (Sq (Rg ?_)));refine Fa Fx.fld92_0 Z Z ?_;refine Fa Fx.fld26_2 Z Z ?_;refine Ld gsv Z Z (Rd.one Fx.ty22 a5 Z) ?_;refine Pl Z (Aa Fx.sl22 ap Z ?_);refine Mv (.int .i64 0) Z Z ?_;refine Nl (Bk ?_);refine Ap (fun nn σ' ds' h'=>∃(k:Nat),nn=gs.length-k∧(k≤gs.length)∧(∀j,j<k→C3 gs j=0)∧ds'=[]∧GH.Le h5 h'∧σ' 1=.pointer (some ⟨r4,0,none⟩)∧σ' 13=gsv∧σ' 14=.int .i64 (gs.length:Int)∧σ' 15=.int .i64 (k:Int)) ⟨0,Z,(by omega),(by (intro j hj;omega)),Z,Lr,Z,Z,Z,Z⟩ (fun nn _ _ _ a7=>?_);obtain ⟨k,rfl,hk,hs,bx,ar,ay,az,a0,ao⟩:=a7;subst bx;have hnk:=hnm k;refine Sq (Rg ?_);refine Pl Z (Az (a:=(k:Int)) (b:=(gs.length:Int)) ao a0 ?_);refine Nl (Sq ?_);refine AX (p:=(k:Int)<(gs.length:Int)) Z (fun a8=>?_) (fun a8=>?_)
  ·refine Sk (Sq (Bk (Sq (Rg ?_))));refine Mv (.int .i64 (k:Int)) Z ao ?_;have a9:(0:Int)≤(k:Int):=by omega
   have ba:(k:Int)<((gs.length:Nat):Int):=by omega
   refine Pl Z (Aw Fx.esz22 hgs az ao a9 ba fun bz au bb=>?_);have bc:Ab _ bz au 5 (BA (gs.getD k Good.z)):=Ab.getD Good.z bb;have af:=ag.trans ar;refine Ld (.agg #[.string ((gs.getD k Good.z).name),.int .i64 ((gs.getD k Good.z).cost),.int .i64 ((gs.getD k Good.z).pack),.int .i64 ((gs.getD k Good.z).low),.int .i64 ((gs.getD k Good.z).high)]) Z Z (AP Fx.ty57 (bc.le af)) ?_;have av:=ar.keep a5 Z;refine Pl Z (Ah Fx.zero57 fun a1 _ ah ad bd _=>?_);have be:r4≠a1:=CS av ah;refine As (.int .i64 (k:Int)) Z Z ?_;refine Pl Z (AH (v:=.agg #[.string ((gs.getD k Good.z).name),.int .i64 ((gs.getD k Good.z).cost),.int .i64 ((gs.getD k Good.z).pack),.int .i64 ((gs.getD k Good.z).low),.int .i64 ((gs.getD k Good.z).high)]) (c':=#[.string ((gs.getD k Good.z).name),.int .i64 ((gs.getD k Good.z).cost),.int .i64 ((gs.getD k Good.z).pack),.int .i64 ((gs.getD k Good.z).low),.int .i64 ((gs.getD k Good.z).high)]) Fx.ty57 Z Z bd Z Z (by simp) Z fun _ ak ai=>?_);refine Nl (Bk (Sq (Rg ?_)));refine Fa Fx.fld57_0 Z Z ?_;refine Ld (.string ((gs.getD k Good.z).name)) Z Z (Rd.one Fx.ty9 ak Z) ?_;refine Pl Z (Al Tryd.func136 Fx.call136 Z ((O3 ((gs.getD k Good.z).name) (by omega)).mono fun _ bw bf=>?_));obtain ⟨rfl,ac⟩:=bf;refine Pl Z (Dj (b:=C2 ((gs.getD k Good.z).name)) Z ?_);refine As (.bool (!(C2 ((gs.getD k Good.z).name)))) Z Z ?_;refine Nl ?_;refine Ce (t:= !(C2 ((gs.getD k Good.z).name))) Z (fun al=>?_) (fun al=>?_)
   ·have hc51_:(C2 ((gs.getD k Good.z).name))=false:=by simpa using al
    refine Sq (Rg ?_);refine As (.int .i64 4) Z Z ?_;refine Nl (Rt ?_);refine ⟨.inr Z,Ae Z (v:=.int .i64 4) Z ?_⟩;exact ⟨(by (symm;congr 1;rw [BF,if_neg ‹_›];exact BE (k:=k) hs (by omega) (by unfold C3;(simp only [*,not_true_eq_false,not_false_eq_true,if_true,if_false,true_or,or_true,reduceCtorEq,Bool.false_eq_true];done)) (by decide))),(((af.trans ad).upd (Ln af ah) ai).trans ac)⟩
   ·have hc51_:(C2 ((gs.getD k Good.z).name))=true:=by simpa using al
    refine Sq (Rg ?_);refine Fa Fx.fld92_0 Z ay ?_;refine Fa Fx.fld26_2 Z Z ?_;refine Ld gsv Z Z (Rd.one Fx.ty22 (ac.keep ((ai _ be).trans (ad.keep av Z)) Z) Z) ?_;refine Mv (.int .i64 (k:Int)) Z Z ?_;have am:=((af.trans ad).upd (Ln af ah) ai).trans ac;refine Pl Z (Sh (0) k Fx.esz22 (hgs.le am) Z Z (⟨_,Z⟩) (by omega) (by omega) fun aw bg=>?_);have bh:AO bw aw 5 BA (gs.take k):=by simpa using bg
    refine Pl Z (Mq Z ?_);have bi:∀x ∈ (gs.take k),∀h1,GH.Le bw h1→CI W (.func (.func 138) #[] #[.pointer (some ⟨a1,0,none⟩)]) #[.agg #[.string x.name,.int .i64 x.cost,.int .i64 x.pack,.int .i64 x.low,.int .i64 x.high]] h1 fun v h2=>v=.bool ((fun x=>(x.name).toList==((gs.getD k Good.z).name).toList) x)∧h1.Le h2:=by
     intro x hx h1 l1;exact Bq Tryd.func138 Fx.call138 Z ((O4 x (gs.getD k Good.z) a1 (Bx (l1.keep (ac.keep ak Z) Z) Z) ).mono fun v h2 hp=>⟨hp.1,hp.2⟩)
    refine Pl Z (AW Tryd.func137 Fx.call137 Z Z ((I8 (gs.take k) aw (.func (.func 138) #[] #[.pointer (some ⟨a1,0,none⟩)]) (fun x=>(x.name).toList==((gs.getD k Good.z).name).toList) bh bi).mono fun _ b0 bj=>?_));obtain ⟨rfl,ae⟩:=bj;refine As (.bool ((gs.take k).any (fun x=>(x.name).toList==((gs.getD k Good.z).name).toList))) Z Z ?_;refine Nl ?_;refine Ce (t:=(gs.take k).any (fun x=>(x.name).toList==((gs.getD k Good.z).name).toList)) Z (fun bk=>?_) (fun bk=>?_)
    ·refine Sq (Rg ?_);refine As (.int .i64 5) Z Z ?_;refine Nl (Rt ?_);refine ⟨.inr Z,Ae Z (v:=.int .i64 5) Z ?_⟩;exact ⟨(by (symm;congr 1;rw [BF,if_neg ‹_›];exact BE (k:=k) hs (by omega) (by unfold C3;(simp only [*,not_true_eq_false,not_false_eq_true,if_true,if_false,true_or,or_true,reduceCtorEq,Bool.false_eq_true];done)) (by decide))),(am.trans ae)⟩
    ·refine A5 (fun σ' ds' h'=>ds'=[]∧GH.Le b0 h'∧σ' 1=.pointer (some ⟨r4,0,none⟩)∧σ' 13=gsv∧σ' 14=.int .i64 (gs.length:Int)∧σ' 15=.int .i64 (k:Int)∧σ' 33=.bool (decide (((¬(0≤((gs.getD k Good.z).cost)∧((gs.getD k Good.z).cost)≤999))∨(¬(1≤((gs.getD k Good.z).pack)∧((gs.getD k Good.z).pack)≤20)))∨(¬(CP ((gs.getD k Good.z).low) ((gs.getD k Good.z).high)))))) ?_ ?_
     ·refine Rg ?_;refine Fa Fx.fld57_1 Z Z ?_;have an:=ae.keep (ac.keep ak Z) Z;refine Ld (.int .i64 ((gs.getD k Good.z).cost)) Z Z (Rd.one Fx.ty3 an Z) ?_;refine Pl Z (Aq Tryd.func46 Fx.call46 Z Z Z ((BJ ((gs.getD k Good.z).cost) 0 999 ).mono fun _ _ bl=>?_));obtain ⟨rfl,rfl⟩:=bl;refine Pl Z (BD (p:=0≤((gs.getD k Good.z).cost)∧((gs.getD k Good.z).cost)≤999) Z ?_);refine Mv (.bool (decide (¬(0≤((gs.getD k Good.z).cost)∧((gs.getD k Good.z).cost)≤999)))) Z Z ?_;refine BK (p:=¬(0≤((gs.getD k Good.z).cost)∧((gs.getD k Good.z).cost)≤999)) ?_ ?_
      ·intro aa;refine Gs 4 38 (AD Z aa) Z ?_;refine Gs 4 38 (AD Z aa) Z ?_;refine Gs 4 38 (AD Z aa) Z ?_;refine Gs 4 38 (AD Z aa) Z ?_;refine Pk true (.bool true) Z (AD Z aa) Z ?_;refine Mv (.bool true) Z Z ?_;refine Gs 10 44 Z Z ?_;refine Gs 10 44 Z Z ?_;refine Gs 10 44 Z Z ?_;refine Gs 10 44 Z Z ?_;refine Pk true (.bool true) Z Z Z ?_;refine As (.bool true) Z Z ?_;refine Nl ?_;exact ⟨Z,Lr,ay,az,a0,ao,Et (b:=(.bool true:Value)) Z (congrArg Value.bool (by grind:true=(decide (((¬(0≤((gs.getD k Good.z).cost)∧((gs.getD k Good.z).cost)≤999))∨(¬(1≤((gs.getD k Good.z).pack)∧((gs.getD k Good.z).pack)≤20)))∨(¬(CP ((gs.getD k Good.z).low) ((gs.getD k Good.z).high)))))))⟩
      ·intro aa;refine Gg 4 38 (AC Z aa) Z (AT Fx.fld57_2 Z ?_);refine Gg 4 38 (AC Z aa) Z (AI (v:=.int .i64 ((gs.getD k Good.z).pack)) Z (Rd.one Fx.ty3 an Z) ?_);refine Gg 4 38 (AC Z aa) Z (Aq Tryd.func46 Fx.call46 Z Z Z ((BJ ((gs.getD k Good.z).pack) 1 20 ).mono fun _ _ bm=>?_));obtain ⟨rfl,rfl⟩:=bm;refine Gg 4 38 (AC Z aa) Z (BD (p:=1≤((gs.getD k Good.z).pack)∧((gs.getD k Good.z).pack)≤20) Z ?_);refine Pk false (.bool (decide (¬(1≤((gs.getD k Good.z).pack)∧((gs.getD k Good.z).pack)≤20)))) Z (AC Z aa) Z ?_;refine Mv (.bool (decide (¬(1≤((gs.getD k Good.z).pack)∧((gs.getD k Good.z).pack)≤20)))) Z Z ?_;refine BK (p:=¬(1≤((gs.getD k Good.z).pack)∧((gs.getD k Good.z).pack)≤20)) ?_ ?_
       ·intro ab;refine Gs 10 44 (AD Z ab) Z ?_;refine Gs 10 44 (AD Z ab) Z ?_;refine Gs 10 44 (AD Z ab) Z ?_;refine Gs 10 44 (AD Z ab) Z ?_;refine Pk true (.bool true) Z (AD Z ab) Z ?_;refine As (.bool true) Z Z ?_;refine Nl ?_;exact ⟨Z,Lr,ay,az,a0,ao,Et (b:=(.bool true:Value)) Z (congrArg Value.bool (by grind:true=(decide (((¬(0≤((gs.getD k Good.z).cost)∧((gs.getD k Good.z).cost)≤999))∨(¬(1≤((gs.getD k Good.z).pack)∧((gs.getD k Good.z).pack)≤20)))∨(¬(CP ((gs.getD k Good.z).low) ((gs.getD k Good.z).high)))))))⟩
       ·intro ab;refine Gg 10 44 (AC Z ab) Z (AT Fx.fld57_3 Z ?_);refine Gg 10 44 (AC Z ab) Z (AI (v:=.agg #[.int .i64 ((gs.getD k Good.z).low),.int .i64 ((gs.getD k Good.z).high)]) Z (F1 (o:=3) (ws:=#[.int .i64 ((gs.getD k Good.z).low),.int .i64 ((gs.getD k Good.z).high)]) Fx.ty39 (Bx an Z) (Nb Z) Z) ?_);refine Gg 10 44 (AC Z ab) Z (Al Tryd.func139 Fx.call139 Z ((O0 ((gs.getD k Good.z).low) ((gs.getD k Good.z).high) ).mono fun _ _ bn=>?_));obtain ⟨rfl,ax⟩:=bn;refine Gg 10 44 (AC Z ab) Z (BD (p:=CP ((gs.getD k Good.z).low) ((gs.getD k Good.z).high)) Z ?_);refine Pk false (.bool (decide (¬(CP ((gs.getD k Good.z).low) ((gs.getD k Good.z).high))))) Z (AC Z ab) Z ?_;refine As (.bool (decide (¬(CP ((gs.getD k Good.z).low) ((gs.getD k Good.z).high))))) Z Z ?_;refine Nl ?_;exact ⟨Z,ax,ay,az,a0,ao,Et (b:=(.bool (decide (¬(CP ((gs.getD k Good.z).low) ((gs.getD k Good.z).high)))):Value)) Z (congrArg Value.bool (by grind:decide (¬(CP ((gs.getD k Good.z).low) ((gs.getD k Good.z).high)))=(decide (((¬(0≤((gs.getD k Good.z).cost)∧((gs.getD k Good.z).cost)≤999))∨(¬(1≤((gs.getD k Good.z).pack)∧((gs.getD k Good.z).pack)≤20)))∨(¬(CP ((gs.getD k Good.z).low) ((gs.getD k Good.z).high)))))))⟩
     ·rintro _ _ _ ⟨bo,aj,bp,bq,br,bs,bt⟩;subst bo;refine AX (p:=((¬(0≤((gs.getD k Good.z).cost)∧((gs.getD k Good.z).cost)≤999))∨(¬(1≤((gs.getD k Good.z).pack)∧((gs.getD k Good.z).pack)≤20)))∨(¬(CP ((gs.getD k Good.z).low) ((gs.getD k Good.z).high)))) bt (fun bu=>?_) (fun bu=>?_)
      ·refine Sq (Rg ?_);refine As (.int .i64 1) Z Z ?_;refine Nl (Rt ?_);refine ⟨.inr Z,Ae Z (v:=.int .i64 1) Z ?_⟩;exact ⟨(by (symm;congr 1;rw [BF,if_neg ‹_›];exact BE (k:=k) hs (by omega) (by unfold C3;(simp only [*,not_true_eq_false,not_false_eq_true,if_true,if_false,true_or,or_true,reduceCtorEq,Bool.false_eq_true];done)) (by decide))),((am.trans ae).trans aj)⟩
      ·refine Sk (Rg ?_);refine Ad (k:Int) 1 Z bs Z (by omega) ?_;refine Mv (.int .i64 ((k:Int)+1)) Z Z ?_;refine Nl ?_;have bv:=((((ar.trans ad).upd (Ln ar ah) ai).trans ac).trans ae).trans aj;exact ⟨_,by omega,k+1,Z,(by omega),(by exact Cw hs (by unfold C3;(simp only [*,not_true_eq_false,not_false_eq_true,if_true,if_false,or_self,reduceCtorEq,Bool.false_eq_true];done))),Z,bv,bp,bq,br,Z⟩
  ·refine Xt (Sq (Rg ?_));refine As (.int .i64 0) Z Z ?_;refine Nl (Rt ?_);refine ⟨.inr Z,Ae Z (v:=.int .i64 0) Z ?_⟩;exact ⟨(by (symm;congr 1;rw [BF,if_neg ‹_›];exact B5 (k:=k) hs (by omega))),(ag.trans ar)⟩
end Go.Ns
namespace Go.Ns
open Go.Conc Go.Proofs
attribute [local irreducible] BW DY Tr AY CI Bu
def NZ:Array Value:=#[.func (.func 132) #[] #[],.func (.func 133) #[] #[],.func (.func 134) #[] #[],.func (.func 135) #[] #[]]
def Na:Array Value:=#[.string ⟨#[99,97,109,101]⟩,.func (.func 130) #[] #[],.string ⟨#[115,111,108,100]⟩,.func (.func 131) #[] #[],.string ⟨#[108,111,115,116]⟩,.func (.func 131) #[] #[],.string ⟨#[103,105,118,101,110]⟩,.func (.func 131) #[] #[],.string ⟨#[98,97,99,107]⟩,.func (.func 130) #[] #[]]
def C1 (h:GH):Prop:=Ab h 1 0 4 NZ∧Ab h 0 0 10 Na
theorem C1.le {h h':GH} (g:C1 h) (l:h.Le h'):C1 h':=⟨g.1.le l,g.2.le l⟩
def KD (k:Nat):Value:=NZ.getD k undef
def Qa (k:Nat):Value:=Na.getD (k*2+1) undef
theorem Qb {k:Nat} (h:k<4):(if false=true then some (Value.agg ((#[.func (.func 132) #[] #[],.func (.func 133) #[] #[],.func (.func 134) #[] #[],.func (.func 135) #[] #[]]:Array Value).extract (k*1) (k*1+1))) else (#[.func (.func 132) #[] #[],.func (.func 133) #[] #[],.func (.func 134) #[] #[],.func (.func 135) #[] #[]]:Array Value)[k*1]?)=some (KD k):=by
 match k,h with
 | 0,_=>rfl
 | 1,_=>rfl
 | 2,_=>rfl
 | 3,_=>rfl
theorem R8 {k:Nat} (h:k<5):Na[0+k*2+1]? =some (Qa k):=by
 match k,h with
 | 0,_=>rfl
 | 1,_=>rfl
 | 2,_=>rfl
 | 3,_=>rfl
 | 4,_=>rfl
theorem Nc {W:Wk Tryd.prog} {h:GH} (d m:Int) (gs:List Good) (gsv:Value) (ms:List AB) (msv:Value) (cs:List AE) (csv:Value) (hgs:AO h gsv 5 BA gs) (hms:AO h msv 5 A4 ms) (hcs:AO h csv 4 Av cs) (hnm:∀k,(gs.getD k Good.z).name.size≤1000) {k:Nat} (hk:k<4) :
  CI W (KD k) #[.agg #[.int .i64 d,.int .i64 m,gsv,msv,csv]] h fun v h'=>v=.int .i64 (DD d m gs ms cs k)∧h.Le h':=by
 match k,hk with
 | 0,_=>exact Bq (first:=#[]) (cap:=#[]) Tryd.func132 Fx.call132 rfl (R7 (W:=W) (h:=h) d m gs gsv ms msv cs csv hgs hms hcs)
 | 1,_=>exact Bq (first:=#[]) (cap:=#[]) Tryd.func133 Fx.call133 rfl (QZ (W:=W) (h:=h) d m gs gsv ms msv cs csv hgs hms hcs hnm)
 | 2,_=>exact Bq (first:=#[]) (cap:=#[]) Tryd.func134 Fx.call134 rfl (QY (W:=W) (h:=h) d m gs gsv ms msv cs csv hgs hms hcs)
 | 3,_=>exact Bq (first:=#[]) (cap:=#[]) Tryd.func135 Fx.call135 rfl (O2 (W:=W) (h:=h) d m gs gsv ms msv cs csv hgs hms hcs)
theorem Mc {W:Wk Tryd.prog} {h:GH} (n:Int):AY W 130 #[.int .i64 n] h (fun v h'=>v=(.int .i64 n:Value)∧h=h'):=by
 refine AN Tryd.func130 Z (Nb Z) ?_;refine Sq (Rg ?_);refine As (.int .i64 0) Z Z ?_;refine Nl (Sq (Rg ?_));refine Mv (.int .i64 n) Z Z ?_;refine As (.int .i64 n) Z Z ?_;refine Nl (Rt ?_);refine ⟨.inr Z,Ae Z (v:=.int .i64 n) Z ?_⟩;exact ⟨Z,Z⟩
theorem JT {W:Wk Tryd.prog} {h:GH} (n:Int) (hn:0≤n∧n≤99):AY W 131 #[.int .i64 n] h (fun v h'=>v=(.int .i64 (-n):Value)∧h=h'):=by
 refine AN Tryd.func131 Z (Nb Z) ?_;refine Sq (Rg ?_);refine As (.int .i64 0) Z Z ?_;refine Nl (Sq (Rg ?_));refine Mv (.int .i64 n) Z Z ?_;refine Pl Z (Uj (a:=n) Z (by omega) ?_);refine As (.int .i64 (-n)) Z Z ?_;refine Nl (Rt ?_);refine ⟨.inr Z,Ae Z (v:=.int .i64 (-n)) Z ?_⟩;exact ⟨Z,Z⟩
theorem DJ {W:Wk Tryd.prog} {h:GH} (d:Int) (m:Int) (gs:List Good) (gsv:Value) (ms:List AB) (msv:Value) (cs:List AE) (csv:Value) (hgs:AO h gsv 5 BA gs) (hms:AO h msv 5 A4 ms) (hcs:AO h csv 4 Av cs) (hG:C1 h) (hnm:∀k,(gs.getD k Good.z).name.size≤1000):AY W 56 #[.agg #[.int .i64 d,.int .i64 m,gsv,msv,csv]] h (fun v h'=>v=(.int .i64 (AV d m gs ms cs):Value)∧h.Le h'):=by
 have ae:=hgs.len;have af:=hms.len;have ag:=hcs.len;refine AN Tryd.func56 Z (Nb Z) ?_;refine Sq (Rg ?_);refine Pl Z (Ar (v:=.agg #[.int .i64 d,.int .i64 m,gsv,msv,csv]) (c:=#[.int .i64 d,.int .i64 m,gsv,msv,csv]) Z Z fun r4 h5 _ ac aq _=>?_);refine As (.int .i64 0) Z Z ?_;refine Nl (Sq (Sq (Rg ?_)));refine Ld (.agg #[.func (.func 132) #[] #[],.func (.func 133) #[] #[],.func (.func 134) #[] #[],.func (.func 135) #[] #[]]) Z Z (AP Fx.ty130 (hG.le ac).1) ?_;refine Mv (.int .i64 0) Z Z ?_;refine Nl (Bk ?_);refine Ap (fun nn σ' ds' h'=>∃(k:Nat),nn=4-k∧(k≤4)∧(∀j,j<k→DD d m gs ms cs j=0)∧ds'=[]∧GH.Le h5 h'∧σ' 1=.pointer (some ⟨r4,0,none⟩)∧σ' 6=.agg #[.func (.func 132) #[] #[],.func (.func 133) #[] #[],.func (.func 134) #[] #[],.func (.func 135) #[] #[]]∧σ' 7=.int .i64 (k:Int)) ⟨0,Z,(by omega),(by (intro j hj;omega)),Z,Lr,Z,Z,Z⟩ (fun nn _ _ _ ah=>?_);obtain ⟨k,rfl,hk,hs,ar,ad,ao,ap,ai⟩:=ah;subst ar;refine Sq (Rg ?_);refine Pl Z (Az (a:=(k:Int)) (b:=4) ai Z ?_);refine Nl (Sq ?_);refine AX (p:=(k:Int)<4) Z (fun aj=>?_) (fun aj=>?_)
 ·refine Sk (Sq (Bk (Sq (Rg ?_))));have ak:(0:Int)≤(k:Int):=by omega
  have al:(k:Int)<((4:Nat):Int):=by omega
  refine Pl Z (L7 Fx.arr130 ap ai ak al (Qb (by omega)) ?_);refine As (KD k) Z Z ?_;refine Nl (Sq (Rg ?_));refine Mv (KD k) Z Z ?_;refine Ld (.agg #[.int .i64 d,.int .i64 m,gsv,msv,csv]) Z ao (AP Fx.ty26 (Bx (ad.keep aq Z) Z)) ?_;refine Pl Z (Ax (cells:=#[.int .i64 d,.int .i64 m,gsv,msv,csv]) Fx.pl92 Fx.zero92 (by kernel_rfl) ?_);have aa:=ac.trans ad;refine Pl Z (Fl Z Z ((Nc d m gs gsv ms msv cs csv (hgs.le aa) (hms.le aa) (hcs.le aa) hnm (k:=k) (by omega)).mono fun _ _ am=>?_));obtain ⟨rfl,ab⟩:=am;refine As (.int .i64 (DD d m gs ms cs k)) Z Z ?_;refine Nl (Sq (Rg ?_));refine Mv (.int .i64 (DD d m gs ms cs k)) Z Z ?_;refine Pl Z (A8 (a:=DD d m gs ms cs k) (b:=0) Z Z ?_);refine Nl ?_;refine AX (p:=¬(DD d m gs ms cs k)=0) Z (fun an=>?_) (fun an=>?_)
  ·refine Sq (Rg ?_);refine Mv (.int .i64 (DD d m gs ms cs k)) Z Z ?_;refine As (.int .i64 (DD d m gs ms cs k)) Z Z ?_;refine Nl (Rt ?_);refine ⟨.inr Z,Ae Z (v:=.int .i64 (DD d m gs ms cs k)) Z ?_⟩;exact ⟨(by (symm;congr 1;exact BE (k:=k) hs (by omega) Z ‹_›)),(aa.trans ab)⟩
  ·refine Sk (Rg ?_);refine Ad (k:Int) 1 Z ai Z (by omega) ?_;refine Mv (.int .i64 ((k:Int)+1)) Z Z ?_;refine Nl ?_;exact ⟨_,by omega,k+1,Z,(by omega),(by exact Cw hs (Dn ‹_›)),Z,(ad.trans ab),ao,ap,Z⟩
 ·refine Xt (Sq (Rg ?_));refine As (.int .i64 0) Z Z ?_;refine Nl (Rt ?_);refine ⟨.inr Z,Ae Z (v:=.int .i64 0) Z ?_⟩;exact ⟨(by (symm;congr 1;exact B5 (k:=k) hs (by omega))),(ac.trans ad)⟩
end Go.Ns
namespace Go.Ns
open Go.Conc Go.Proofs
attribute [local irreducible] BW DY Tr AY CI Bu
theorem O5 {W:Wk Tryd.prog} {h:GH} (n:Int) (hn:0≤n∧n≤99) {k:Nat} (hk:k<5):CI W (Qa k) #[.int .i64 n] h fun v h'=>v=.int .i64 (signed k n)∧h.Le h':=by
 match k,hk with
 | 0,_=>exact Bq (first:=#[]) (cap:=#[]) Tryd.func130 Fx.call130 rfl ((Mc (W:=W) (h:=h) n).mono fun v h' hp=>⟨hp.1,by rw [←hp.2];exact GH.Le.refl _⟩)
 | 1,_=>exact Bq (first:=#[]) (cap:=#[]) Tryd.func131 Fx.call131 rfl ((JT (W:=W) (h:=h) n hn).mono fun v h' hp=>⟨hp.1,by rw [←hp.2];exact GH.Le.refl _⟩)
 | 2,_=>exact Bq (first:=#[]) (cap:=#[]) Tryd.func131 Fx.call131 rfl ((JT (W:=W) (h:=h) n hn).mono fun v h' hp=>⟨hp.1,by rw [←hp.2];exact GH.Le.refl _⟩)
 | 3,_=>exact Bq (first:=#[]) (cap:=#[]) Tryd.func131 Fx.call131 rfl ((JT (W:=W) (h:=h) n hn).mono fun v h' hp=>⟨hp.1,by rw [←hp.2];exact GH.Le.refl _⟩)
 | 4,_=>exact Bq (first:=#[]) (cap:=#[]) Tryd.func130 Fx.call130 rfl ((Mc (W:=W) (h:=h) n).mono fun v h' hp=>⟨hp.1,by rw [←hp.2];exact GH.Le.refl _⟩)
theorem G2 {W:Wk Tryd.prog} {h:GH} (d:Int) (m:Int) (gs:List Good) (gsv:Value) (ms:List AB) (msv:Value) (cs:List AE) (csv:Value) (p:AL) (g:Int) (dy:Int) (hgs:AO h gsv 5 BA gs) (hms:AO h msv 5 A4 ms) (hcs:AO h csv 4 Av cs) (hG:C1 h) (hg0:0≤g) (hg1:g<3) (hp:BX p) (hml:ms.length≤6) (hkind:∀k,0≤(ms.getD k AB.z).kind∧(ms.getD k AB.z).kind≤4):AY W 40 #[.agg #[.int .i64 d,.int .i64 m,gsv,msv,csv],.agg (Ag p),.int .i64 g,.int .i64 dy] h (fun v h'=>v=(.tuple #[.int .i64 ((AJ ms p g dy).1),.int .i64 ((AJ ms p g dy).2)]:Value)∧h.Le h'):=by
 have hpf:=hp.1 g.toNat;have ez:=hgs.len;have e0:=hms.len;have e1:=hcs.len;refine AN Tryd.func40 Z (Nb Z) ?_;refine Sq (Rg ?_);refine Pl Z (Ar (v:=.agg #[.int .i64 d,.int .i64 m,gsv,msv,csv]) (c:=#[.int .i64 d,.int .i64 m,gsv,msv,csv]) Z Z fun r4 _ _ e2 hu _=>?_);refine Pl Z (Ar (v:=.agg (Ag p)) (c:=Ag p) Z Z fun hl hv _ a2 bs _=>?_);refine As (.int .i64 0) Z Z ?_;refine As (.int .i64 0) Z Z ?_;refine Nl (Sq (Rg ?_));refine Mv (.int .i64 g) Z Z ?_;refine Fa Fx.fld87_0 Z Z ?_;have e3:(0:Int)≤g:=by omega
 have e4:g<((3:Nat):Int):=by omega
 refine Pl Z (CV Fx.asz83 Z Z e3 e4 ?_);refine Ld (.int .i64 (p.first (g.toNat))) Z Z (Rd.one Fx.ty3 bs (My (i:=g.toNat) (by omega))) ?_;refine As (.int .i64 (p.first (g.toNat))) Z Z ?_;refine Nl (Sq (Rg ?_));refine Mv (.int .i64 (p.first (g.toNat))) Z Z ?_;refine As (.int .i64 (p.first (g.toNat))) Z Z ?_;refine Nl (Sq (Sq (Rg ?_)));refine Fa Fx.fld92_0 Z Z ?_;refine Fa Fx.fld26_3 Z Z ?_;have bt:=a2.keep hu Z;refine Ld msv Z Z (Rd.one Fx.ty23 bt Z) ?_;have a7:=e2.trans a2;refine Pl Z (Aa Fx.sl23 (hms.le a7) Z ?_);refine Mv (.int .i64 0) Z Z ?_;refine Nl (Bk ?_);refine Ap (fun nn σ' ds' h'=>∃(k:Nat) (n:Int) (low:Int),nn=ms.length-k∧(k≤ms.length)∧(-99*((k:Int)+1)≤n∧n≤99*((k:Int)+1))∧(CY ms p g dy (ms.length-k) k n low=CY ms p g dy ms.length 0 (p.first g.toNat) (p.first g.toNat))∧ds'=[]∧GH.Le hv h'∧σ' 2=.int .i64 g∧σ' 3=.int .i64 dy∧σ' 4=.pointer (some ⟨r4,0,none⟩)∧σ' 5=.pointer (some ⟨hl,0,none⟩)∧σ' 19=msv∧σ' 20=.int .i64 (ms.length:Int)∧σ' 8=.int .i64 n∧σ' 9=.int .i64 low∧σ' 21=.int .i64 (k:Int)) ⟨0,p.first g.toNat,p.first g.toNat,Z,(by omega),(by omega),(by rfl),Z,Lr,Z,Z,Z,Z,Z,Z,Z,Z,Z⟩ (fun nn _ _ _ e5=>?_);obtain ⟨k,n,low,rfl,hk,hn,hrun,hw,an,a8,a9,ay,ba,bb,bc,a3,a4,az⟩:=e5;subst hw;have hkd:=hkind k;have hre:=FB hp k;have hsg:=Il (k:=(ms.getD k AB.z).kind.toNat) hre;refine Sq (Rg ?_);refine Pl Z (Az (a:=(k:Int)) (b:=(ms.length:Int)) az bc ?_);refine Nl (Sq ?_);refine AX (p:=(k:Int)<(ms.length:Int)) Z (fun e6=>?_) (fun e6=>?_)
 ·refine Sk (Sq (Bk (Sq (Rg ?_))));refine Mv (.int .i64 (k:Int)) Z az ?_;have e7:(0:Int)≤(k:Int):=by omega
  have e8:(k:Int)<((ms.length:Nat):Int):=by omega
  refine Pl Z (Aw Fx.esz23 hms bb az e7 e8 fun hx bu e9=>?_);have fa:Ab _ hx bu 5 (A4 (ms.getD k AB.z)):=Ab.getD AB.z e9;have al:=a7.trans an;refine Ld (.agg #[.int .i64 ((ms.getD k AB.z).kind),.int .i64 ((ms.getD k AB.z).good),.int .i64 ((ms.getD k AB.z).day),.int .i64 ((ms.getD k AB.z).low),.int .i64 ((ms.getD k AB.z).high)]) Z Z (AP Fx.ty41 (fa.le al)) ?_;have au:=an.keep bt Z;have bv:=an.keep bs Z;refine Pl Z (Ah Fx.zero41 fun ey _ ai ac fb _=>?_);have a0:r4≠ey:=CS au ai;have fc:hl≠ey:=CS bv ai;refine As (.int .i64 (k:Int)) Z Z ?_;refine Pl Z (AH (v:=.agg #[.int .i64 ((ms.getD k AB.z).kind),.int .i64 ((ms.getD k AB.z).good),.int .i64 ((ms.getD k AB.z).day),.int .i64 ((ms.getD k AB.z).low),.int .i64 ((ms.getD k AB.z).high)]) (c':=#[.int .i64 ((ms.getD k AB.z).kind),.int .i64 ((ms.getD k AB.z).good),.int .i64 ((ms.getD k AB.z).day),.int .i64 ((ms.getD k AB.z).low),.int .i64 ((ms.getD k AB.z).high)]) Fx.ty41 Z Z fb Z Z (by simp) Z fun _ av ae=>?_);refine Nl (Sq (Sq (Rg ?_)));refine Fa Fx.fld41_2 Z Z ?_;refine Ld (.int .i64 ((ms.getD k AB.z).day)) Z Z (Rd.one Fx.ty3 av Z) ?_;refine Mv (.int .i64 dy) Z a9 ?_;refine Pl Z (DA (a:=(ms.getD k AB.z).day) (b:=dy) Z Z ?_);refine Nl ?_;refine AX (p:=dy<((ms.getD k AB.z).day)) Z (fun fd=>?_) (fun fd=>?_)
  ·refine Xt (Sq (Rg ?_));refine Mv (.int .i64 n) Z a3 ?_;refine Mv (.int .i64 low) Z a4 ?_;refine As (.int .i64 n) Z Z ?_;refine As (.int .i64 low) Z Z ?_;refine Nl (Rt ?_);have fe:=(al.trans ac).upd (Ln al ai) ae;refine ⟨.inr Z,Ct Z (v:=.int .i64 n) (v':=.int .i64 low) Z Z ?_⟩;exact ⟨(by (rw [AJ,←hrun,LV (ms:=ms) (k:=k) (dy:=dy) (by omega) ‹_›])),fe⟩
  ·refine Sk (Sq (Sq (Rg ?_)));refine Fa Fx.fld41_1 Z Z ?_;refine Ld (.int .i64 ((ms.getD k AB.z).good)) Z Z (Rd.one Fx.ty3 av Z) ?_;refine Mv (.int .i64 g) Z a8 ?_;refine Pl Z (Bs (a:=(ms.getD k AB.z).good) (b:=g) Z Z ?_);refine Nl ?_;refine AX (p:=((ms.getD k AB.z).good)=g) Z (fun ff=>?_) (fun ff=>?_)
   ·refine BS 10 false [0,5,11,15,20,26,31,36,42,47] Fx.mixed (by kernel_rfl) ?_;refine tP Z Z (fun _=>AA (v:=.int .i64 n) a3 vz) ?_;refine tP Z Z (fun _=>AT Fx.fld41_0 Z vz) ?_;refine tR Z Z (AI (v:=.int .i64 ((ms.getD k AB.z).kind)) Z (Rd.one Fx.ty37 av Z) vz) ?_;have fg:(0:Int)≤(ms.getD k AB.z).kind:=by omega
    have fh:(ms.getD k AB.z).kind<((5:Nat):Int):=by omega
    refine tP Z Z (fun _=>CV Fx.asz121 Z Z fg fh vz) ?_;refine tP Z Z (fun _=>AT Fx.fld120_1 Z vz) ?_;have bd:=(al.trans ac).upd (Ln al ai) ae;refine tR Z Z (AI (v:=Qa (((ms.getD k AB.z).kind).toNat)) Z (Up Fx.ty104 (hG.le bd).2 (R8 (by omega))) vz) ?_;refine tR Z Z (AI (v:=.agg (Ag p)) ba (AP Fx.ty87 (Bx ((ae _ fc).trans (ac.keep bv Z)) Z)) vz) ?_;refine tR Z Z (AA (v:=.int .i64 (k:Int)) Z vz) ?_;refine tE Z Z (AW Tryd.func50 Fx.call50 Z Z ((JS p (k:Int) (by omega) (by omega)).mono fun _ _ fi=>?_));obtain ⟨rfl,af⟩:=fi;refine eT af ?_;refine tE Z Z (Fl Z Z ((O5 (Bp p k) (by omega) (k:=(((ms.getD k AB.z).kind).toNat)) (by omega)).mono fun _ _ fj=>?_));obtain ⟨rfl,ag⟩:=fj;refine eT ag ?_;refine tN ?_;refine Ad n (signed (((ms.getD k AB.z).kind).toNat) (Bp p k)) Z Z Z (by omega) ?_;refine As (.int .i64 (n+(signed (((ms.getD k AB.z).kind).toNat) (Bp p k)))) Z Z ?_;refine Nl (Sq ?_);refine KX 18 [[],[0],[],[2],[2,3],[2,3,4],[0,1,2,3,4,5],[0,1,2,3,4,5,6],[0,1,2,3,4,5,6,7],[0,1,2,3,4,5,6,7,8],[0,1,2,3,4,5,6,7,8,9],[0,1,2,3,4,5,6,7],[0,1,2,3,4,5,6,7,11],[0,1,2,3,4,5,6,7,8,9,10,11,12],[0,1,2,3,4,5,6,7,8,9,10,11,12,13],[0,1,2,3,4,5,6,7,8,9,10,11,12,13,14],[0,1,2,3,4,5,6,7],[0,1,2,3,4,5,6,7,16]] [(lF (.int .i64 (k:Int))),(lF (.int .i64 ((k:Int)+1))),(lF (.pointer (some ⟨r4,0,none⟩))),(lF (.pointer (some ⟨r4,3,none⟩))),(lF msv),(lF (.int .i64 (ms.length:Int))),(lF (.bool (decide (((k:Int)+1)=(ms.length:Int))))),(lF (.bool (decide (((k:Int)+1)=(ms.length:Int))))),(lF (.pointer (some ⟨r4,0,none⟩))),(lF (.pointer (some ⟨r4,3,none⟩))),(lF msv),(lF (.int .i64 (k:Int))),(lF (.int .i64 ((k:Int)+1))),(fun v h=>∃(a1:Nat) (ah:Nat),v=(.pointer (some ⟨a1,ah,none⟩):Value)∧Ab h a1 ah 5 #[.int .i64 ((ms.getD (k+1) AB.z).kind),.int .i64 ((ms.getD (k+1) AB.z).good),.int .i64 ((ms.getD (k+1) AB.z).day),.int .i64 ((ms.getD (k+1) AB.z).low),.int .i64 ((ms.getD (k+1) AB.z).high)]),(fun v h=>∃(a1:Nat) (ah:Nat),v=(.pointer (some ⟨a1,ah+2,none⟩):Value)∧Ab h a1 ah 5 #[.int .i64 ((ms.getD (k+1) AB.z).kind),.int .i64 ((ms.getD (k+1) AB.z).good),.int .i64 ((ms.getD (k+1) AB.z).day),.int .i64 ((ms.getD (k+1) AB.z).low),.int .i64 ((ms.getD (k+1) AB.z).high)]),(lF (.int .i64 ((ms.getD (k+1) AB.z).day))),(lF (.pointer (some ⟨ey,2,none⟩))),(lF (.int .i64 ((ms.getD k AB.z).day)))] Fx.mixed (by kernel_rfl) (K8 (K4 (K1 ⟨(fun _ _ _ l ⟨a1,ah,e,f0⟩=>⟨a1,ah,e,f0.le l⟩),(fun _ _ _ l ⟨a1,ah,e,f0⟩=>⟨a1,ah,e,f0.le l⟩),K2 (K1 trivial)⟩))) ⟨?_,?_,?_,?_,?_,?_,?_,?_,?_,?_,?_,?_,?_,?_,?_,?_,?_,?_,?_⟩
    ·intro _ _ _ fk _ _;refine (AA (v:=.int .i64 (k:Int)) (Et (fk 10 Z) Z) ?_);exact fL Z
    ·intro _ _ _ _ fl _;obtain ⟨hy,_⟩:=fl;refine (CL (a:=(k:Int)) (b:=1) (hy trivial) Z (by omega) ?_);exact fL Z
    ·intro _ _ _ fm _ _;refine (AT Fx.fld92_0 (Et (fm 4 Z) ay) ?_);exact fL Z
    ·intro _ _ _ _ bw _;obtain ⟨fn,_⟩:=bw;refine (AT Fx.fld26_3 (fn trivial) ?_);exact fL Z
    ·intro _ _ be _ bx _;obtain ⟨_,fo,_⟩:=bx;have bz:=(be.keep (ag.keep (af.keep ((ae _ a0).trans (ac.keep au Z)) Z) Z) Z);refine (AI (v:=msv) (fo trivial) (Rd.one Fx.ty23 bz Z) ?_);exact fL Z
    ·intro _ _ bf _ b0 _;obtain ⟨_,_,fp,_⟩:=b0;refine (Aa Fx.sl23 (hms.le (((bd.trans af).trans ag).trans bf)) (fp trivial) ?_);exact fL Z
    ·intro _ _ _ _ b1 _;obtain ⟨_,fq,_,_,_,fr,_⟩:=b1;refine (Bs (a:=(k:Int)+1) (b:=(ms.length:Int)) (fq trivial) (fr trivial) ?_);exact fL Z
    ·intro _ _ _ _ b2 _;obtain ⟨_,_,_,_,_,_,fs,_⟩:=b2;refine (AA (v:=.bool (decide (((k:Int)+1)=(ms.length:Int)))) (fs trivial) ?_);exact fL Z
    ·intro _ _ _ b3 b4 b5;obtain ⟨_,_,_,_,_,_,_,ft,_⟩:=b4;have hm:=Ca (ft trivial) b5;refine (AT Fx.fld92_0 (Et (b3 4 Z) ay) ?_);exact fL Z
    ·intro _ _ _ _ b6 b7;obtain ⟨_,_,_,_,_,_,_,fu,fv,_⟩:=b6;have b8:=fu trivial;have b9:=Ca b8 b7;refine (AT Fx.fld26_3 (fv (AC b8 b9)) ?_);exact fL Z
    ·intro _ _ bg _ ca cb;obtain ⟨_,_,_,_,_,_,_,fw,_,fx,_⟩:=ca;have cc:=fw trivial;have cd:=Ca cc cb;have ce:=(bg.keep (ag.keep (af.keep ((ae _ a0).trans (ac.keep au Z)) Z) Z) Z);refine (AI (v:=msv) (fx (AC cc cd)) (Rd.one Fx.ty23 ce Z) ?_);exact fL Z
    ·intro _ _ _ cf cg ch;obtain ⟨_,_,_,_,_,_,_,fy,_⟩:=cg;have ho:=Ca (fy trivial) ch;refine (AA (v:=.int .i64 (k:Int)) (Et (cf 10 Z) Z) ?_);exact fL Z
    ·intro _ _ _ _ ci cj;obtain ⟨_,_,_,_,_,_,_,fz,f1,_⟩:=ci;have ck:=fz trivial;have cl:=Ca ck cj;refine (CL (a:=(k:Int)) (b:=1) (f1 (AC ck cl)) Z (by omega) ?_);exact fL Z
    ·intro _ _ bh _ cm cn;obtain ⟨_,_,_,_,_,_,_,f2,_,_,f3,_,f4,_⟩:=cm;have bi:=f2 trivial;have a5:=Ca bi cn;have co:(0:Int)≤(k:Int)+1:=by omega
     have cp:(k:Int)+1<((ms.length:Nat):Int):=by omega
     refine (Aw Fx.esz23 hms (f3 (AC bi a5)) (f4 (AC bi a5)) co cp fun cq aw cr=>?_);have ct:Ab _ cq aw 5 (A4 (ms.getD (k+1) AB.z)):=Ab.getD AB.z cr;exact fL ⟨cq,aw,Z,(ct.le (((bd.trans af).trans ag).trans bh))⟩
    ·intro _ _ _ _ cu cv;obtain ⟨_,_,_,_,_,_,_,f5,_,_,_,_,_,f6,_⟩:=cu;have cw:=f5 trivial;have cx:=Ca cw cv;obtain ⟨f7,bj,f8,f9⟩:=f6 (AC cw cx);refine (AT Fx.fld41_2 f8 ?_);exact fL ⟨f7,bj,Z,f9⟩
    ·intro _ _ _ _ cy cz;obtain ⟨_,_,_,_,_,_,_,ga,_,_,_,_,_,_,gb,_⟩:=cy;have c0:=ga trivial;have c1:=Ca c0 cz;obtain ⟨_,_,gc,gd⟩:=gb (AC c0 c1);refine (AI (v:=.int .i64 ((ms.getD (k+1) AB.z).day)) gc (Bv (o:=2) Fx.ty3 gd Z) ?_);exact fL Z
    ·intro _ _ _ c2 c3 c4;obtain ⟨_,_,_,_,_,_,_,ge,_⟩:=c3;have hq:=Ca (ge trivial) c4;refine (AT Fx.fld41_2 (Et (c2 11 Z) Z) ?_);exact fL Z
    ·intro _ _ bk _ c5 c6;obtain ⟨_,_,_,_,_,_,_,gf,gg,_⟩:=c5;have c7:=gf trivial;have c8:=Ca c7 c6;refine (AI (v:=.int .i64 ((ms.getD k AB.z).day)) (gg (AC c7 c8)) (Rd.one Fx.ty3 (bk.keep (ag.keep (af.keep av Z) Z) Z) Z) ?_);exact fL Z
    ·intro _ _ ao aa c9;obtain ⟨_,_,_,_,_,_,_,gi,_,_,_,_,_,_,_,gj,_,gk,_⟩:=c9;have aq:=gi trivial;refine BK (p:=((k:Int)+1)=(ms.length:Int)) ?_ ?_
     ·intro aj;refine Gs 7 52 (AD aq aj) Z ?_;refine Pk true (.bool true) Z (AD aq aj) Z ?_;refine Nl ?_;refine Db Z ?_;refine Rg ?_;refine Mv (.int .i64 low) Z (Et (aa 9 Z) a4) ?_;refine Mv (.int .i64 (n+(signed (((ms.getD k AB.z).kind).toNat) (Bp p k)))) Z (Et (aa 8 Z) Z) ?_;refine Pl Z (Mn (a:=low) (b:=n+(signed (((ms.getD k AB.z).kind).toNat) (Bp p k))) Z Z ?_);refine As (.int .i64 (min low (n+(signed (((ms.getD k AB.z).kind).toNat) (Bp p k))))) Z Z ?_;refine Nl (Rg ?_);refine Ad (k:Int) 1 Z (Et (aa 21 Z) az) Z (by omega) ?_;refine Mv (.int .i64 ((k:Int)+1)) Z Z ?_;refine Nl ?_;have da:=((((an.trans ac).upd (Ln an ai) ae).trans af).trans ag).trans ao;exact ⟨_,by omega,k+1,n+(signed (((ms.getD k AB.z).kind).toNat) (Bp p k)),min low (n+(signed (((ms.getD k AB.z).kind).toNat) (Bp p k))),Z,(by omega),(by omega),(by rw [←hrun,DV (ms:=ms) (k:=k) (dy:=dy) (by omega) ‹_›];unfold E2 D4;repeat (first | rw [if_pos ‹_›] | rw [if_pos (.inl ‹_›)])),Z,da,(Et (aa 2 Z) a8),(Et (aa 3 Z) a9),(Et (aa 4 Z) ay),(Et (aa 5 Z) ba),(Et (aa 19 Z) bb),(Et (aa 20 Z) bc),(Et (aa 8 Z) Z),Z,Z⟩
     ·intro aj;refine Gg 7 52 (AC aq aj) Z (DA (a:=(ms.getD (k+1) AB.z).day) (b:=(ms.getD k AB.z).day) (gj (AC aq aj)) (gk (AC aq aj)) ?_);refine Pk false (.bool (decide (((ms.getD k AB.z).day)<((ms.getD (k+1) AB.z).day)))) Z (AC aq aj) Z ?_;refine Nl ?_;refine AX (p:=((ms.getD k AB.z).day)<((ms.getD (k+1) AB.z).day)) Z (fun db=>?_) (fun db=>?_)
      ·refine Rg ?_;refine Mv (.int .i64 low) Z (Et (aa 9 Z) a4) ?_;refine Mv (.int .i64 (n+(signed (((ms.getD k AB.z).kind).toNat) (Bp p k)))) Z (Et (aa 8 Z) Z) ?_;refine Pl Z (Mn (a:=low) (b:=n+(signed (((ms.getD k AB.z).kind).toNat) (Bp p k))) Z Z ?_);refine As (.int .i64 (min low (n+(signed (((ms.getD k AB.z).kind).toNat) (Bp p k))))) Z Z ?_;refine Nl (Rg ?_);refine Ad (k:Int) 1 Z (Et (aa 21 Z) az) Z (by omega) ?_;refine Mv (.int .i64 ((k:Int)+1)) Z Z ?_;refine Nl ?_;have dc:=((((an.trans ac).upd (Ln an ai) ae).trans af).trans ag).trans ao;exact ⟨_,by omega,k+1,n+(signed (((ms.getD k AB.z).kind).toNat) (Bp p k)),min low (n+(signed (((ms.getD k AB.z).kind).toNat) (Bp p k))),Z,(by omega),(by omega),(by rw [←hrun,DV (ms:=ms) (k:=k) (dy:=dy) (by omega) ‹_›];unfold E2 D4;repeat (first | rw [if_pos ‹_›] | rw [if_pos (.inr ‹_›)])),Z,dc,(Et (aa 2 Z) a8),(Et (aa 3 Z) a9),(Et (aa 4 Z) ay),(Et (aa 5 Z) ba),(Et (aa 19 Z) bb),(Et (aa 20 Z) bc),(Et (aa 8 Z) Z),Z,Z⟩
      ·refine Sk (Rg ?_);refine Ad (k:Int) 1 Z (Et (aa 21 Z) az) Z (by omega) ?_;refine Mv (.int .i64 ((k:Int)+1)) Z Z ?_;refine Nl ?_;have dd:=((((an.trans ac).upd (Ln an ai) ae).trans af).trans ag).trans ao;exact ⟨_,by omega,k+1,n+(signed (((ms.getD k AB.z).kind).toNat) (Bp p k)),low,rfl,(by omega),(by omega),(by rw [←hrun,DV (ms:=ms) (k:=k) (dy:=dy) (by omega) ‹_›];unfold E2 D4;repeat (first | rw [if_pos ‹_›] | rw [if_neg (by rintro (q | q) <;> contradiction)])),rfl,dd,(Et (aa 2 rfl) a8),(Et (aa 3 rfl) a9),(Et (aa 4 rfl) ay),(Et (aa 5 rfl) ba),(Et (aa 19 rfl) bb),(Et (aa 20 rfl) bc),(Et (aa 8 rfl) rfl),(Et (aa 9 rfl) a4),(Et (b:=(.int .i64 ((k:Int)+1):Value)) rfl (by rfl))⟩
   ·refine Sk (Sq ?_);refine KX 18 [[],[0],[],[2],[2,3],[2,3,4],[0,1,2,3,4,5],[0,1,2,3,4,5,6],[0,1,2,3,4,5,6,7],[0,1,2,3,4,5,6,7,8],[0,1,2,3,4,5,6,7,8,9],[0,1,2,3,4,5,6,7],[0,1,2,3,4,5,6,7,11],[0,1,2,3,4,5,6,7,8,9,10,11,12],[0,1,2,3,4,5,6,7,8,9,10,11,12,13],[0,1,2,3,4,5,6,7,8,9,10,11,12,13,14],[0,1,2,3,4,5,6,7],[0,1,2,3,4,5,6,7,16]] [(lF (.int .i64 (k:Int))),(lF (.int .i64 ((k:Int)+1))),(lF (.pointer (some ⟨r4,0,none⟩))),(lF (.pointer (some ⟨r4,3,none⟩))),(lF msv),(lF (.int .i64 (ms.length:Int))),(lF (.bool (decide (((k:Int)+1)=(ms.length:Int))))),(lF (.bool (decide (((k:Int)+1)=(ms.length:Int))))),(lF (.pointer (some ⟨r4,0,none⟩))),(lF (.pointer (some ⟨r4,3,none⟩))),(lF msv),(lF (.int .i64 (k:Int))),(lF (.int .i64 ((k:Int)+1))),(fun v h=>∃(am:Nat) (ad:Nat),v=(.pointer (some ⟨am,ad,none⟩):Value)∧Ab h am ad 5 #[.int .i64 ((ms.getD (k+1) AB.z).kind),.int .i64 ((ms.getD (k+1) AB.z).good),.int .i64 ((ms.getD (k+1) AB.z).day),.int .i64 ((ms.getD (k+1) AB.z).low),.int .i64 ((ms.getD (k+1) AB.z).high)]),(fun v h=>∃(am:Nat) (ad:Nat),v=(.pointer (some ⟨am,ad+2,none⟩):Value)∧Ab h am ad 5 #[.int .i64 ((ms.getD (k+1) AB.z).kind),.int .i64 ((ms.getD (k+1) AB.z).good),.int .i64 ((ms.getD (k+1) AB.z).day),.int .i64 ((ms.getD (k+1) AB.z).low),.int .i64 ((ms.getD (k+1) AB.z).high)]),(lF (.int .i64 ((ms.getD (k+1) AB.z).day))),(lF (.pointer (some ⟨ey,2,none⟩))),(lF (.int .i64 ((ms.getD k AB.z).day)))] Fx.mixed (by kernel_rfl) (K8 (K4 (K1 ⟨(fun _ _ _ l ⟨am,ad,e,f0⟩=>⟨am,ad,e,f0.le l⟩),(fun _ _ _ l ⟨am,ad,e,f0⟩=>⟨am,ad,e,f0.le l⟩),K2 (K1 trivial)⟩))) ⟨?_,?_,?_,?_,?_,?_,?_,?_,?_,?_,?_,?_,?_,?_,?_,?_,?_,?_,?_⟩
    ·intro _ _ _ de _ _;refine (AA (v:=.int .i64 (k:Int)) (Et (de 10 Z) Z) ?_);exact fL Z
    ·intro _ _ _ _ df _;obtain ⟨gl,_⟩:=df;refine (CL (a:=(k:Int)) (b:=1) (gl trivial) Z (by omega) ?_);exact fL Z
    ·intro _ _ _ dg _ _;refine (AT Fx.fld92_0 (Et (dg 4 Z) ay) ?_);exact fL Z
    ·intro _ _ _ _ dh _;obtain ⟨gm,_⟩:=dh;refine (AT Fx.fld26_3 (gm trivial) ?_);exact fL Z
    ·intro _ _ bl _ di _;obtain ⟨_,gn,_⟩:=di;refine (AI (v:=msv) (gn trivial) (Rd.one Fx.ty23 (bl.keep ((ae _ a0).trans (ac.keep au Z)) Z) Z) ?_);exact fL Z
    ·intro _ _ bm _ dj _;obtain ⟨_,_,gp,_⟩:=dj;have dk:=hms.le (((al.trans ac).upd (Ln al ai) ae).trans bm);refine (Aa Fx.sl23 dk (gp trivial) ?_);exact fL Z
    ·intro _ _ _ _ dl _;obtain ⟨_,gq,_,_,_,gr,_⟩:=dl;refine (Bs (a:=(k:Int)+1) (b:=(ms.length:Int)) (gq trivial) (gr trivial) ?_);exact fL Z
    ·intro _ _ _ _ dm _;obtain ⟨_,_,_,_,_,_,gt,_⟩:=dm;refine (AA (v:=.bool (decide (((k:Int)+1)=(ms.length:Int)))) (gt trivial) ?_);exact fL Z
    ·intro _ _ _ dn dp dq;obtain ⟨_,_,_,_,_,_,_,gu,_⟩:=dp;have hr:=Ca (gu trivial) dq;refine (AT Fx.fld92_0 (Et (dn 4 Z) ay) ?_);exact fL Z
    ·intro _ _ _ _ dr ds;obtain ⟨_,_,_,_,_,_,_,gv,gw,_⟩:=dr;have dt:=gv trivial;have du:=Ca dt ds;refine (AT Fx.fld26_3 (gw (AC dt du)) ?_);exact fL Z
    ·intro _ _ bn _ dv dw;obtain ⟨_,_,_,_,_,_,_,gx,_,gy,_⟩:=dv;have dx:=gx trivial;have dz:=Ca dx dw;refine (AI (v:=msv) (gy (AC dx dz)) (Rd.one Fx.ty23 (bn.keep ((ae _ a0).trans (ac.keep au Z)) Z) Z) ?_);exact fL Z
    ·intro _ _ _ d0 d1 d2;obtain ⟨_,_,_,_,_,_,_,gz,_⟩:=d1;have hs:=Ca (gz trivial) d2;refine (AA (v:=.int .i64 (k:Int)) (Et (d0 10 Z) Z) ?_);exact fL Z
    ·intro _ _ _ _ d3 d4;obtain ⟨_,_,_,_,_,_,_,g0,g1,_⟩:=d3;have d5:=g0 trivial;have d6:=Ca d5 d4;refine (CL (a:=(k:Int)) (b:=1) (g1 (AC d5 d6)) Z (by omega) ?_);exact fL Z
    ·intro _ _ bo _ d7 d8;obtain ⟨_,_,_,_,_,_,_,g2,_,_,g3,_,g4,_⟩:=d7;have bp:=g2 trivial;have a6:=Ca bp d8;have d9:(0:Int)≤(k:Int)+1:=by omega
     have ea:(k:Int)+1<((ms.length:Nat):Int):=by omega
     refine (Aw Fx.esz23 hms (g3 (AC bp a6)) (g4 (AC bp a6)) d9 ea fun eb ax ec=>?_);have ed:Ab _ eb ax 5 (A4 (ms.getD (k+1) AB.z)):=Ab.getD AB.z ec;have ee:=ed.le (((al.trans ac).upd (Ln al ai) ae).trans bo);exact fL ⟨eb,ax,Z,ee⟩
    ·intro _ _ _ _ ef eg;obtain ⟨_,_,_,_,_,_,_,g5,_,_,_,_,_,g6,_⟩:=ef;have eh:=g5 trivial;have ei:=Ca eh eg;obtain ⟨g7,bq,g8,g9⟩:=g6 (AC eh ei);refine (AT Fx.fld41_2 g8 ?_);exact fL ⟨g7,bq,Z,g9⟩
    ·intro _ _ _ _ ej ek;obtain ⟨_,_,_,_,_,_,_,ha,_,_,_,_,_,_,hb,_⟩:=ej;have el:=ha trivial;have em:=Ca el ek;obtain ⟨_,_,hc,hd⟩:=hb (AC el em);refine (AI (v:=.int .i64 ((ms.getD (k+1) AB.z).day)) hc (Bv (o:=2) Fx.ty3 hd Z) ?_);exact fL Z
    ·intro _ _ _ en eo ep;obtain ⟨_,_,_,_,_,_,_,he,_⟩:=eo;have ht:=Ca (he trivial) ep;refine (AT Fx.fld41_2 (Et (en 11 Z) Z) ?_);exact fL Z
    ·intro _ _ br _ eq er;obtain ⟨_,_,_,_,_,_,_,hf,hg,_⟩:=eq;have es:=hf trivial;have et:=Ca es er;refine (AI (v:=.int .i64 ((ms.getD k AB.z).day)) (hg (AC es et)) (Rd.one Fx.ty3 (br.keep av Z) Z) ?_);exact fL Z
    ·intro _ _ ap ab eu;obtain ⟨_,_,_,_,_,_,_,hh,_,_,_,_,_,_,_,hi,_,hj,_⟩:=eu;have ar:=hh trivial;refine BK (p:=((k:Int)+1)=(ms.length:Int)) ?_ ?_
     ·intro ak;refine Gs 7 52 (AD ar ak) Z ?_;refine Pk true (.bool true) Z (AD ar ak) Z ?_;refine Nl ?_;refine Db Z ?_;refine Rg ?_;refine Mv (.int .i64 low) Z (Et (ab 9 Z) a4) ?_;refine Mv (.int .i64 n) Z (Et (ab 8 Z) a3) ?_;refine Pl Z (Mn (a:=low) (b:=n) Z Z ?_);refine As (.int .i64 (min low n)) Z Z ?_;refine Nl (Rg ?_);refine Ad (k:Int) 1 Z (Et (ab 21 Z) az) Z (by omega) ?_;refine Mv (.int .i64 ((k:Int)+1)) Z Z ?_;refine Nl ?_;have ev:=((an.trans ac).upd (Ln an ai) ae).trans ap;exact ⟨_,by omega,k+1,n,min low n,Z,(by omega),(by omega),(by rw [←hrun,DV (ms:=ms) (k:=k) (dy:=dy) (by omega) ‹_›];unfold E2 D4;repeat (first | rw [if_neg ‹_›] | rw [if_pos (.inl ‹_›)])),Z,ev,(Et (ab 2 Z) a8),(Et (ab 3 Z) a9),(Et (ab 4 Z) ay),(Et (ab 5 Z) ba),(Et (ab 19 Z) bb),(Et (ab 20 Z) bc),(Et (ab 8 Z) a3),Z,Z⟩
     ·intro ak;refine Gg 7 52 (AC ar ak) Z (DA (a:=(ms.getD (k+1) AB.z).day) (b:=(ms.getD k AB.z).day) (hi (AC ar ak)) (hj (AC ar ak)) ?_);refine Pk false (.bool (decide (((ms.getD k AB.z).day)<((ms.getD (k+1) AB.z).day)))) Z (AC ar ak) Z ?_;refine Nl ?_;refine AX (p:=((ms.getD k AB.z).day)<((ms.getD (k+1) AB.z).day)) Z (fun ew=>?_) (fun ew=>?_)
      ·refine Rg ?_;refine Mv (.int .i64 low) Z (Et (ab 9 Z) a4) ?_;refine Mv (.int .i64 n) Z (Et (ab 8 Z) a3) ?_;refine Pl Z (Mn (a:=low) (b:=n) Z Z ?_);refine As (.int .i64 (min low n)) Z Z ?_;refine Nl (Rg ?_);refine Ad (k:Int) 1 Z (Et (ab 21 Z) az) Z (by omega) ?_;refine Mv (.int .i64 ((k:Int)+1)) Z Z ?_;refine Nl ?_;have ex:=((an.trans ac).upd (Ln an ai) ae).trans ap;exact ⟨_,by omega,k+1,n,min low n,Z,(by omega),(by omega),(by rw [←hrun,DV (ms:=ms) (k:=k) (dy:=dy) (by omega) ‹_›];unfold E2 D4;repeat (first | rw [if_neg ‹_›] | rw [if_pos (.inr ‹_›)])),Z,ex,(Et (ab 2 Z) a8),(Et (ab 3 Z) a9),(Et (ab 4 Z) ay),(Et (ab 5 Z) ba),(Et (ab 19 Z) bb),(Et (ab 20 Z) bc),(Et (ab 8 Z) a3),Z,Z⟩
      ·refine Sk (Rg ?_);refine Ad (k:Int) 1 Z (Et (ab 21 Z) az) Z (by omega) ?_;refine Mv (.int .i64 ((k:Int)+1)) Z Z ?_;refine Nl ?_;exact ⟨_,by omega,k+1,n,low,rfl,(by omega),(by omega),(by rw [←hrun,DV (ms:=ms) (k:=k) (dy:=dy) (by omega) ‹_›];unfold E2 D4;repeat (first | rw [if_neg ‹_›] | rw [if_neg (by rintro (q | q) <;> contradiction)])),rfl,(((an.trans ac).upd (Ln an ai) ae).trans ap),(Et (ab 2 rfl) a8),(Et (ab 3 rfl) a9),(Et (ab 4 rfl) ay),(Et (ab 5 rfl) ba),(Et (ab 19 rfl) bb),(Et (ab 20 rfl) bc),(Et (ab 8 rfl) a3),(Et (ab 9 rfl) a4),(Et (b:=(.int .i64 ((k:Int)+1):Value)) rfl (by rfl))⟩
 ·refine Xt (Sq (Rg ?_));refine Mv (.int .i64 n) Z a3 ?_;refine Mv (.int .i64 low) Z a4 ?_;refine As (.int .i64 n) Z Z ?_;refine As (.int .i64 low) Z Z ?_;refine Nl (Rt ?_);refine ⟨.inr Z,Ct Z (v:=.int .i64 n) (v':=.int .i64 low) Z Z ?_⟩;exact ⟨(by (rw [AJ,←hrun,M0 (ms:=ms) (k:=k) ‹_›];done)),(a7.trans an)⟩
end Go.Ns
namespace Go.Ns
open Go.Conc Go.Proofs
attribute [local irreducible] BW DY Tr AY CI Bu
theorem Nd {W:Wk Tryd.prog} {h:GH} (c:AE) (d:Int) (m:Int) (gs:List Good) (gsv:Value) (ms:List AB) (msv:Value) (cs:List AE) (csv:Value) (r:Nat) (p:AL) (rp:Nat) (hgs:AO h gsv 5 BA gs) (hms:AO h msv 5 A4 ms) (hcs:AO h csv 4 Av cs) (hr:Ab h r 0 5 #[.int .i64 d,.int .i64 m,gsv,msv,csv]) (hrp:Ab h rp 0 15 (Ag p)) (hG:C1 h) (hc0:0≤c.good) (hc1:c.good<3) (hp:BX p) (hml:ms.length≤6) (hkind:∀k,0≤(ms.getD k AB.z).kind∧(ms.getD k AB.z).kind≤4):AY W 91 #[.agg #[.int .i64 c.good,.int .i64 c.day,.int .i64 c.low,.int .i64 c.high],.pointer (some ⟨r,0,none⟩),.pointer (some ⟨rp,0,none⟩)] h (fun v h'=>v=(.bool (decide (¬(c.low≤(AJ ms p c.good c.day).1∧(AJ ms p c.good c.day).1≤c.high))):Value)∧h.Le h'):=by
 have ad:=hgs.len;have ae:=hms.len;have af:=hcs.len;refine AN Tryd.func91 Z (Nb Z) ?_;refine Sq (Rg ?_);refine Pl Z (Ar (v:=.agg #[.int .i64 c.good,.int .i64 c.day,.int .i64 c.low,.int .i64 c.high]) (c:=#[.int .i64 c.good,.int .i64 c.day,.int .i64 c.low,.int .i64 c.high]) Z Z fun _ _ _ aa ag _=>?_);refine As (.bool false) Z Z ?_;refine Nl (Sq (Rg ?_));refine Ld (.agg #[.int .i64 d,.int .i64 m,gsv,msv,csv]) Z Z (AP Fx.ty92 (hr.le aa)) ?_;refine Ld (.agg (Ag p)) Z Z (AP Fx.ty87 (hrp.le aa)) ?_;refine Fa Fx.fld71_0 Z Z ?_;refine Ld (.int .i64 c.good) Z Z (Rd.one Fx.ty3 ag Z) ?_;refine Fa Fx.fld71_1 Z Z ?_;refine Ld (.int .i64 c.day) Z Z (Rd.one Fx.ty3 ag Z) ?_;refine Pl Z (Bz Tryd.func40 Fx.call40 Z Z Z Z ((G2 d m gs gsv ms msv cs csv p c.good c.day (hgs.le aa) (hms.le aa) (hcs.le aa) (hG.le aa) (by omega) (by omega) (by omega) (by omega) (by omega)).mono fun _ _ ah=>?_));obtain ⟨rfl,ab⟩:=ah;refine Mv (.tuple #[.int .i64 ((AJ ms p c.good c.day).1),.int .i64 ((AJ ms p c.good c.day).2)]) Z Z ?_;refine Pl Z (AK (vs:=#[.int .i64 ((AJ ms p c.good c.day).1),.int .i64 ((AJ ms p c.good c.day).2)]) (v:=.int .i64 ((AJ ms p c.good c.day).1)) Z Z ?_);refine Pl Z (AK (vs:=#[.int .i64 ((AJ ms p c.good c.day).1),.int .i64 ((AJ ms p c.good c.day).2)]) (v:=.int .i64 ((AJ ms p c.good c.day).2)) Z Z ?_);refine As (.int .i64 ((AJ ms p c.good c.day).1)) Z Z ?_;refine As (.int .i64 ((AJ ms p c.good c.day).2)) Z Z ?_;refine Nl (Sq (Rg ?_));refine Mv (.int .i64 ((AJ ms p c.good c.day).1)) Z Z ?_;refine Fa Fx.fld71_2 Z Z ?_;refine Fa Fx.fld39_0 Z Z ?_;have ac:=ab.keep ag Z;refine Ld (.int .i64 c.low) Z Z (Rd.one Fx.ty3 ac Z) ?_;refine Fa Fx.fld71_2 Z Z ?_;refine Fa Fx.fld39_1 Z Z ?_;refine Ld (.int .i64 c.high) Z Z (Rd.one Fx.ty3 ac Z) ?_;refine Pl Z (Aq Tryd.func46 Fx.call46 Z Z Z ((BJ ((AJ ms p c.good c.day).1) c.low c.high ).mono fun _ _ ai=>?_));obtain ⟨rfl,rfl⟩:=ai;refine Pl Z (BD (p:=c.low≤((AJ ms p c.good c.day).1)∧((AJ ms p c.good c.day).1)≤c.high) Z ?_);refine As (.bool (decide (¬(c.low≤((AJ ms p c.good c.day).1)∧((AJ ms p c.good c.day).1)≤c.high)))) Z Z ?_;refine Nl (Rt ?_);refine ⟨.inr Z,Ae Z (v:=.bool (decide (¬(c.low≤((AJ ms p c.good c.day).1)∧((AJ ms p c.good c.day).1)≤c.high)))) Z ?_⟩;exact ⟨(by rfl),(aa.trans ab)⟩
theorem O6 {W:Wk Tryd.prog} {h:GH} (d:Int) (m:Int) (gs:List Good) (gsv:Value) (ms:List AB) (msv:Value) (cs:List AE) (csv:Value) (p:AL) (hgs:AO h gsv 5 BA gs) (hms:AO h msv 5 A4 ms) (hcs:AO h csv 4 Av cs) (hG:C1 h) (hp:BX p) (hml:ms.length≤6) (hkind:∀k,0≤(ms.getD k AB.z).kind∧(ms.getD k AB.z).kind≤4) (hgl:gs.length≤3) (hcg:∀x ∈ cs,0≤x.good∧x.good<3):AY W 81 #[.agg #[.int .i64 d,.int .i64 m,gsv,msv,csv],.agg (Ag p)] h (fun v h'=>v=(.bool (Ay d gs.length ms cs p):Value)∧h.Le h'):=by
 have ao:=hgs.len;have ap:=hms.len;have aq:=hcs.len;refine AN Tryd.func81 Z (Nb Z) ?_;refine Sq (Rg ?_);refine Pl Z (Ar (v:=.agg #[.int .i64 d,.int .i64 m,gsv,msv,csv]) (c:=#[.int .i64 d,.int .i64 m,gsv,msv,csv]) Z Z fun r4 _ _ ar a3 _=>?_);refine Pl Z (Ar (v:=.agg (Ag p)) (c:=Ag p) Z Z fun an a4 _ ac ai _=>?_);refine As (.bool false) Z Z ?_;refine Nl (Sq (Sq (Rg ?_)));refine Fa Fx.fld92_0 Z Z ?_;refine Fa Fx.fld26_2 Z Z ?_;have ae:=ac.keep a3 Z;refine Ld gsv Z Z (Rd.one Fx.ty22 ae Z) ?_;have af:=ar.trans ac;refine Pl Z (Aa Fx.sl22 (hgs.le af) Z ?_);refine Mv (.int .i64 0) Z Z ?_;refine Nl (Bk ?_);refine Ap (fun nn σ' ds' h'=>∃(k:Nat),nn=gs.length-k∧(k≤gs.length)∧(∀j,j<k→¬(AJ ms p (j:Int) d).2<0)∧ds'=[]∧GH.Le a4 h'∧σ' 2=.pointer (some ⟨r4,0,none⟩)∧σ' 3=.pointer (some ⟨an,0,none⟩)∧σ' 11=.int .i64 (gs.length:Int)∧σ' 12=.int .i64 (k:Int)) ⟨0,Z,(by omega),(by (intro j hj;omega)),Z,Lr,Z,Z,Z,Z⟩ (fun nn _ _ a5 au=>?_);obtain ⟨k,rfl,hk,hs,a6,ag,aj,av,a2,aw⟩:=au;subst a6;refine Sq (Rg ?_);refine Pl Z (Az (a:=(k:Int)) (b:=(gs.length:Int)) aw a2 ?_);refine Nl (Sq ?_);refine AX (p:=(k:Int)<(gs.length:Int)) Z (fun ax=>?_) (fun ax=>?_)
 ·refine Sk (Sq (Bk (Sq (Rg ?_))));refine Mv (.int .i64 (k:Int)) Z aw ?_;refine As (.int .i64 (k:Int)) Z Z ?_;refine Nl (Sq (Rg ?_));have ak:=ag.keep ae Z;refine Ld (.agg #[.int .i64 d,.int .i64 m,gsv,msv,csv]) Z aj (AP Fx.ty92 (Bx ak Z)) ?_;refine Ld (.agg (Ag p)) Z av (AP Fx.ty87 (Bx (ag.keep ai Z) Z)) ?_;refine Mv (.int .i64 (k:Int)) Z Z ?_;refine Fa Fx.fld92_0 Z aj ?_;refine Fa Fx.fld26_0 Z Z ?_;refine Ld (.int .i64 d) Z Z (Rd.one Fx.ty3 ak Z) ?_;have aa:=af.trans ag;refine Pl Z (Bz Tryd.func40 Fx.call40 Z Z Z Z ((G2 d m gs gsv ms msv cs csv p (k:Int) d (hgs.le aa) (hms.le aa) (hcs.le aa) (hG.le aa) (by omega) (by omega) (by omega) (by omega) (by omega)).mono fun _ _ ay=>?_));obtain ⟨rfl,ad⟩:=ay;refine Mv (.tuple #[.int .i64 ((AJ ms p (k:Int) d).1),.int .i64 ((AJ ms p (k:Int) d).2)]) Z Z ?_;refine Pl Z (AK (vs:=#[.int .i64 ((AJ ms p (k:Int) d).1),.int .i64 ((AJ ms p (k:Int) d).2)]) (v:=.int .i64 ((AJ ms p (k:Int) d).1)) Z Z ?_);refine Pl Z (AK (vs:=#[.int .i64 ((AJ ms p (k:Int) d).1),.int .i64 ((AJ ms p (k:Int) d).2)]) (v:=.int .i64 ((AJ ms p (k:Int) d).2)) Z Z ?_);refine As (.int .i64 ((AJ ms p (k:Int) d).1)) Z Z ?_;refine As (.int .i64 ((AJ ms p (k:Int) d).2)) Z Z ?_;refine Nl (Sq (Rg ?_));refine Mv (.int .i64 ((AJ ms p (k:Int) d).2)) Z Z ?_;refine Pl Z (Az (a:=(AJ ms p (k:Int) d).2) (b:=0) Z Z ?_);refine Nl ?_;refine AX (p:=((AJ ms p (k:Int) d).2)<0) Z (fun az=>?_) (fun az=>?_)
  ·refine Sq (Rg ?_);refine As (.bool false) Z Z ?_;refine Nl (Rt ?_);refine ⟨.inr Z,Ae Z (v:=.bool false) Z ?_⟩;exact ⟨(by (symm;congr 1;exact Pa (k:=k) (by omega) ‹_›)),(aa.trans ad)⟩
  ·refine Sk (Rg ?_);refine Ad (k:Int) 1 Z aw Z (by omega) ?_;refine Mv (.int .i64 ((k:Int)+1)) Z Z ?_;refine Nl ?_;exact ⟨_,by omega,k+1,Z,(by omega),(by exact ME hs ‹_›),Z,(ag.trans ad),aj,av,a2,Z⟩
 ·refine Xt (Sq (Rg ?_));refine Fa Fx.fld92_0 Z aj ?_;refine Fa Fx.fld26_4 Z Z ?_;have al:=ag.keep ae Z;refine Ld csv Z Z (Rd.one Fx.ty24 al Z) ?_;refine Pl Z (E7 aj av ?_);have ah:=af.trans ag;have a0:∀x ∈ cs,∀h1,GH.Le a5 h1→CI W (.func (.func 91) #[] #[.pointer (some ⟨r4,0,none⟩),.pointer (some ⟨an,0,none⟩)]) #[.agg #[.int .i64 x.good,.int .i64 x.day,.int .i64 x.low,.int .i64 x.high]] h1 fun v h2=>v=.bool ((fun x=>decide (¬(x.low≤(AJ ms p x.good x.day).1∧(AJ ms p x.good x.day).1≤x.high))) x)∧h1.Le h2:=by
   intro x hx h1 l1;have hcx:=hcg x hx;have ab:=ah.trans l1;exact Bq Tryd.func91 Fx.call91 Z ((Nd x d m gs gsv ms msv cs csv r4 p an (hgs.le ab) (hms.le ab) (hcs.le ab) (Bx (l1.keep al Z) Z) (Bx (l1.keep (ag.keep ai Z) Z) Z) (hG.le ab) (by omega) (by omega) (by omega) (by omega) (by omega)).mono fun v h2 hp=>⟨hp.1,hp.2⟩)
  refine Pl Z (AW Tryd.func90 Fx.call90 Z Z ((IT cs csv (.func (.func 91) #[] #[.pointer (some ⟨r4,0,none⟩),.pointer (some ⟨an,0,none⟩)]) (fun x=>decide (¬(x.low≤(AJ ms p x.good x.day).1∧(AJ ms p x.good x.day).1≤x.high))) (hcs.le ah) a0).mono fun _ _ a1=>?_));obtain ⟨rfl,am⟩:=a1;refine Pl Z (Dj (b:=cs.any (fun x=>decide (¬(x.low≤(AJ ms p x.good x.day).1∧(AJ ms p x.good x.day).1≤x.high)))) Z ?_);refine As (.bool (!(cs.any (fun x=>decide (¬(x.low≤(AJ ms p x.good x.day).1∧(AJ ms p x.good x.day).1≤x.high)))))) Z Z ?_;refine Nl (Rt ?_);refine ⟨.inr Z,Ae Z (v:=.bool (!(cs.any (fun x=>decide (¬(x.low≤(AJ ms p x.good x.day).1∧(AJ ms p x.good x.day).1≤x.high)))))) Z ?_⟩;exact ⟨(by (symm;congr 1;exact N8 (k:=k) (by omega) hs)),(ah.trans am)⟩
end Go.Ns
namespace Go.Ns
open Go.Conc Go.Proofs
attribute [local irreducible] BW DY Tr AY CI Bu
theorem O7 {W:Wk Tryd.prog} {h:GH} (d:Int) (m:Int) (gs:List Good) (gsv:Value) (ms:List AB) (msv:Value) (cs:List AE) (csv:Value) (f:List Int) (fv:Value) (y:List Int) (yv:Value) (l:List Int) (lv:Value) (hgs:AO h gsv 5 BA gs) (hms:AO h msv 5 A4 ms) (hcs:AO h csv 4 Av cs) (hf:AO h fv 1 eI f) (hy:AO h yv 1 eI y) (hl:AO h lv 1 eI l) (hG:C1 h) (hnm:∀k,(gs.getD k Good.z).name.size≤1000):AY W 39 #[.agg #[.int .i64 d,.int .i64 m,gsv,msv,csv],fv,yv,lv] h (fun v h'=>v=(.tuple #[.agg (Ag (A6 d m gs ms cs f y l)),.int .i64 (Au d m gs ms cs f y l)]:Value)∧h.Le h'):=by
 have br:=hgs.len;have bs:=hms.len;have bt:=hcs.len;have bu:=hf.len;have bv:=hy.len;have bw:=hl.len;refine AN Tryd.func39 Z (Nb Z) ?_;refine Sq (Rg ?_);refine Pl Z (Ar (v:=.agg #[.int .i64 d,.int .i64 m,gsv,msv,csv]) (c:=#[.int .i64 d,.int .i64 m,gsv,msv,csv]) Z Z fun r7 _ _ aa bx _=>?_);refine Pl Z (Ah Fx.zero87 fun ck cm ah ag bz _=>?_);have al:cm ck=some (true,.cells (Ag AL.zero) 87 (0,0)):=bz;refine As (.int .i64 0) Z Z ?_;refine Nl (Sq (Sq (Rg ?_)));have aw:=ag.keep bx Z;refine Ld (.agg #[.int .i64 d,.int .i64 m,gsv,msv,csv]) Z Z (AP Fx.ty26 (Bx aw Z)) ?_;have ai:=aa.trans ag;refine Pl Z (Al Tryd.func56 Fx.call56 Z ((DJ d m gs gsv ms msv cs csv (hgs.le ai) (hms.le ai) (hcs.le ai) (hG.le ai) (by omega)).mono fun _ _ b0=>?_));obtain ⟨rfl,ab⟩:=b0;refine As (.int .i64 (AV d m gs ms cs)) Z Z ?_;refine Nl (Sq (Rg ?_));refine Mv (.int .i64 (AV d m gs ms cs)) Z Z ?_;refine Pl Z (A8 (a:=AV d m gs ms cs) (b:=0) Z Z ?_);refine Nl ?_;refine AX (p:=¬(AV d m gs ms cs)=0) Z (fun ax=>?_) (fun ax=>?_)
 ·refine Sq (Rg ?_);refine Pl Z (Ax (cells:=#[.int .i64 0,.int .i64 0,.int .i64 0,.int .i64 0,.int .i64 0,.int .i64 0,.int .i64 0,.int .i64 0,.int .i64 0,.bool false,.bool false,.bool false,.bool false,.bool false,.bool false]) Fx.pl87 Fx.zero87 (by kernel_rfl) ?_);refine Mv (.int .i64 (AV d m gs ms cs)) Z Z ?_;refine Pl Z (AH (v:=.agg #[.int .i64 0,.int .i64 0,.int .i64 0,.int .i64 0,.int .i64 0,.int .i64 0,.int .i64 0,.int .i64 0,.int .i64 0,.bool false,.bool false,.bool false,.bool false,.bool false,.bool false]) (c':=Ag AL.zero) Fx.ty87 Z Z (ab.keep al Z) Z Z (Nb Z) Z fun _ b1 b2=>?_);refine As (.int .i64 (AV d m gs ms cs)) Z Z ?_;refine Nl (Rt ?_);refine ⟨.inr Z,Dm Z (v:=.agg (Ag AL.zero)) (v':=.int .i64 (AV d m gs ms cs)) Z (AP Fx.ty87 (Bx b1 Z)) Z ?_⟩;exact ⟨(by exact FR (M3 ‹_›) ‹_›),((ai.trans ab).upd (Ln aa ah) b2)⟩
 ·have hbk:=Gl (Dn ax);have hgl:=hbk.glen;have hml:=hbk.mlen;have hcl:=hbk.clen;have hdy:=hbk.days;have hmo:=hbk.most;have hkind:=hbk.kind;refine Sk (Sq (Sq (Rg ?_)));refine Mv fv Z Z ?_;refine Fa Fx.fld26_2 Z Z ?_;have ay:=ab.keep aw Z;refine Ld gsv Z Z (Rd.one Fx.ty22 ay Z) ?_;have am:=ai.trans ab;refine Pl Z (Aa Fx.sl22 (hgs.le am) Z ?_);refine Pl Z (AW Tryd.func73 Fx.call73 Z Z ((I9 f fv (gs.length:Int) (hf.le am) ).mono fun _ _ b3=>?_));obtain ⟨rfl,ae⟩:=b3;refine As (.int .i64 (Ao f (gs.length:Int))) Z Z ?_;refine Nl (Sq (Rg ?_));refine Mv (.int .i64 (Ao f (gs.length:Int))) Z Z ?_;refine Pl Z (A8 (a:=Ao f (gs.length:Int)) (b:=0) Z Z ?_);refine Nl ?_;refine AX (p:=¬(Ao f (gs.length:Int))=0) Z (fun az=>?_) (fun az=>?_)
  ·refine Sq (Rg ?_);refine Pl Z (Ax (cells:=#[.int .i64 0,.int .i64 0,.int .i64 0,.int .i64 0,.int .i64 0,.int .i64 0,.int .i64 0,.int .i64 0,.int .i64 0,.bool false,.bool false,.bool false,.bool false,.bool false,.bool false]) Fx.pl87 Fx.zero87 (by kernel_rfl) ?_);refine Mv (.int .i64 (Ao f (gs.length:Int))) Z Z ?_;refine Pl Z (AH (v:=.agg #[.int .i64 0,.int .i64 0,.int .i64 0,.int .i64 0,.int .i64 0,.int .i64 0,.int .i64 0,.int .i64 0,.int .i64 0,.bool false,.bool false,.bool false,.bool false,.bool false,.bool false]) (c':=Ag AL.zero) Fx.ty87 Z Z (ae.keep (ab.keep al Z) Z) Z Z (Nb Z) Z fun _ b4 b5=>?_);refine As (.int .i64 (Ao f (gs.length:Int))) Z Z ?_;refine Nl (Rt ?_);refine ⟨.inr Z,Dm Z (v:=.agg (Ag AL.zero)) (v':=.int .i64 (Ao f (gs.length:Int))) Z (AP Fx.ty87 (Bx b4 Z)) Z ?_⟩;exact ⟨(by exact FR (M4 ‹_› ‹_›) ‹_›),((am.trans ae).upd (Ln aa ah) b5)⟩
  ·obtain ⟨_,hnb51_⟩:=Em (Dn az);refine Sk (Sq (Sq (Rg ?_)));refine Mv yv Z Z ?_;refine Fa Fx.fld26_3 Z Z ?_;have a0:=ae.keep ay Z;refine Ld msv Z Z (Rd.one Fx.ty23 a0 Z) ?_;have aj:=am.trans ae;refine Pl Z (Aa Fx.sl23 (hms.le aj) Z ?_);refine Pl Z (AW Tryd.func73 Fx.call73 Z Z ((I9 y yv (ms.length:Int) (hy.le aj) ).mono fun _ cn b6=>?_));obtain ⟨rfl,ac⟩:=b6;refine As (.int .i64 (Ao y (ms.length:Int))) Z Z ?_;refine Nl (Sq (Rg ?_));refine Mv (.int .i64 (Ao y (ms.length:Int))) Z Z ?_;refine Pl Z (A8 (a:=Ao y (ms.length:Int)) (b:=0) Z Z ?_);refine Nl ?_;refine AX (p:=¬(Ao y (ms.length:Int))=0) Z (fun a1=>?_) (fun a1=>?_)
   ·refine Sq (Rg ?_);refine Pl Z (Ax (cells:=#[.int .i64 0,.int .i64 0,.int .i64 0,.int .i64 0,.int .i64 0,.int .i64 0,.int .i64 0,.int .i64 0,.int .i64 0,.bool false,.bool false,.bool false,.bool false,.bool false,.bool false]) Fx.pl87 Fx.zero87 (by kernel_rfl) ?_);refine Mv (.int .i64 (Ao y (ms.length:Int))) Z Z ?_;refine Pl Z (AH (v:=.agg #[.int .i64 0,.int .i64 0,.int .i64 0,.int .i64 0,.int .i64 0,.int .i64 0,.int .i64 0,.int .i64 0,.int .i64 0,.bool false,.bool false,.bool false,.bool false,.bool false,.bool false]) (c':=Ag AL.zero) Fx.ty87 Z Z (ac.keep (ae.keep (ab.keep al Z) Z) Z) Z Z (Nb Z) Z fun _ b7 b8=>?_);refine As (.int .i64 (Ao y (ms.length:Int))) Z Z ?_;refine Nl (Rt ?_);refine ⟨.inr Z,Dm Z (v:=.agg (Ag AL.zero)) (v':=.int .i64 (Ao y (ms.length:Int))) Z (AP Fx.ty87 (Bx b7 Z)) Z ?_⟩;exact ⟨(by exact FR (M5 ‹_› ‹_› ‹_›) ‹_›),((aj.trans ac).upd (Ln aa ah) b8)⟩
   ·obtain ⟨_,hnb66_⟩:=Em (Dn a1);refine Sk (Sq (Rg ?_));have ap:=(ac.keep (ae.keep (ab.keep al Z) Z) Z);refine Pl Z (Ah Fx.zero87 fun b9 co ak an ca _=>?_);have cb:co b9=some (true,.cells (Ag AL.zero) 87 (0,0)):=ca;refine Nl (Sq (Rg ?_));refine Fa Fx.fld87_0 Z Z ?_;refine Pl Z (Je Fx.asz83 Z ?_);refine Mv fv Z Z ?_;have a2:=(aj.trans ac).trans an;refine Pl Z (N1 (enc:=eI) (ys:=f) (c':=Ag (AL.zero.setFirsts f)) Fx.esz30 Z Z cb (Nb Z) (hf.le a2) (by omega) (by intro y hy;rfl) (by intro y hy;rfl) (J0 (by omega)) fun _ cc a3=>?_);refine Nl (Sq (Rg ?_));refine Fa Fx.fld87_1 Z Z ?_;refine Pl Z (Je Fx.asz84 Z ?_);refine Mv yv Z Z ?_;have a4:=a2.upd (Ln ((((aa.trans ag).trans ab).trans ae).trans ac) ak) a3;refine Pl Z (N1 (enc:=eI) (ys:=y) (c':=Ag ((AL.zero.setFirsts f).setManys y)) Fx.esz30 Z Z cc (Nb Z) (hy.le a4) (by omega) (by intro y hy;rfl) (by intro y hy;rfl) (Kj (by omega)) fun _ cd a5=>?_);refine Nl (Sq (Rg ?_));refine As (.int .i64 (-1)) Z Z ?_;refine Nl (Sq (Sq (Rg ?_)));refine Mv lv Z Z ?_;have ce:=a4.upd (Ln ((((aa.trans ag).trans ab).trans ae).trans ac) ak) a5;refine Pl Z (Aa Fx.sl30 (hl.le ce) Z ?_);refine Mv (.int .i64 0) Z Z ?_;refine Nl (Bk ?_);have cf:=(an.upd (Ln Lr ak) a3).upd (Ln Lr ak) a5;refine Ap (fun nn σ' ds' h'=>∃(k:Nat),nn=l.length-k∧(k≤l.length)∧(∀j,j<k→In ms l j=0)∧ds'=[]∧GH.Le cn h'∧σ' 4=.pointer (some ⟨r7,0,none⟩)∧σ' 8=.pointer (some ⟨ck,0,none⟩)∧σ' 13=.pointer (some ⟨b9,0,none⟩)∧σ' 49=lv∧σ' 50=.int .i64 (l.length:Int)∧σ' 14=.int .i64 (Fq l k)∧σ' 51=.int .i64 (k:Int)∧h' b9=some (true,.cells (Ag (Dx ((AL.zero.setFirsts f).setManys y) l k)) 87 (0,0))) ⟨0,Z,(by omega),(by (intro j hj;omega)),Z,cf,Z,Z,Z,Z,Z,Z,Z,(by have e:(Ag (Dx ((AL.zero.setFirsts f).setManys y) l 0):Array Value)=Ag ((AL.zero.setFirsts f).setManys y):=(by rfl);rw [e];exact cd)⟩ (fun nn _ _ _ cg=>?_);obtain ⟨k,rfl,hk,hs,cp,aq,cl,ar,ch,a6,a7,ci,au,a8⟩:=cg;subst cp;refine Sq (Rg ?_);refine Pl Z (Az (a:=(k:Int)) (b:=(l.length:Int)) au a7 ?_);refine Nl (Sq ?_);refine AX (p:=(k:Int)<(l.length:Int)) Z (fun a9=>?_) (fun a9=>?_)
    ·refine Sk (Sq (Bk (Sq (Rg ?_))));have ba:(0:Int)≤(k:Int):=by omega
     have bb:(k:Int)<((l.length:Nat):Int):=by omega
     refine Pl Z (Aw Fx.esz30 hl a6 au ba bb fun cj av bc=>?_);have bd:Ab _ cj av 1 (eI (l.getD k 0)):=Ab.getD 0 bc;have af:=(aj.trans ac).trans aq;refine Ld (.int .i64 (l.getD k 0)) Z Z (CT Fx.ty3 (bd.le af) Z) ?_;refine As (.int .i64 (l.getD k 0)) Z Z ?_;refine Nl (Sq (Bk (Sq (Rg ?_))));refine Ld (.agg #[.int .i64 d,.int .i64 m,gsv,msv,csv]) Z cl (AP Fx.ty26 (Bx (aq.keep (ac.keep a0 Z) Z) Z)) ?_;refine Pl Z (Ax (cells:=#[.int .i64 d,.int .i64 m,gsv,msv,csv]) Fx.pl92 Fx.zero92 (by kernel_rfl) ?_);refine Mv (.int .i64 (l.getD k 0)) Z Z ?_;refine Pl Z (AW Tryd.func57 Fx.call57 Z Z ((Fw d m gs gsv ms msv cs csv (l.getD k 0) (hgs.le af) (hms.le af) (hcs.le af) ).mono fun _ _ be=>?_));obtain ⟨rfl,ad⟩:=be;refine Pl Z (BD (p:=(0≤(l.getD k 0)∧(l.getD k 0)≤(ms.length:Int)-1)∧(ms.getD ((l.getD k 0)).toNat AB.z).kind=0) Z ?_);refine As (.bool (decide (¬((0≤(l.getD k 0)∧(l.getD k 0)≤(ms.length:Int)-1)∧(ms.getD ((l.getD k 0)).toNat AB.z).kind=0)))) Z Z ?_;refine Nl ?_;refine AX (p:=¬((0≤(l.getD k 0)∧(l.getD k 0)≤(ms.length:Int)-1)∧(ms.getD ((l.getD k 0)).toNat AB.z).kind=0)) Z (fun ao=>?_) (fun ao=>?_)
     ·refine Sq (Rg ?_);refine Pl Z (Ax (cells:=#[.int .i64 0,.int .i64 0,.int .i64 0,.int .i64 0,.int .i64 0,.int .i64 0,.int .i64 0,.int .i64 0,.int .i64 0,.bool false,.bool false,.bool false,.bool false,.bool false,.bool false]) Fx.pl87 Fx.zero87 (by kernel_rfl) ?_);refine Pl Z (AH (v:=.agg #[.int .i64 0,.int .i64 0,.int .i64 0,.int .i64 0,.int .i64 0,.int .i64 0,.int .i64 0,.int .i64 0,.int .i64 0,.bool false,.bool false,.bool false,.bool false,.bool false,.bool false]) (c':=Ag AL.zero) Fx.ty87 ar Z (ad.keep (aq.keep ap Z) Z) Z Z (Nb Z) Z fun _ bf bg=>?_);refine As (.int .i64 6) Z Z ?_;refine Nl (Rt ?_);refine ⟨.inr Z,Dm Z (v:=.agg (Ag AL.zero)) (v':=.int .i64 6) ar (AP Fx.ty87 (Bx bf Z)) Z ?_⟩;exact ⟨(by exact FR (Gm ‹_› ‹_› ‹_› (BE (k:=k) hs (by omega) (T4 ‹_›) (by decide))) (by decide)),((af.trans ad).upd (Ln aa ah) bg)⟩
     ·have hc122_:=Dn ao;refine Sq (Rg ?_);refine Mv (.int .i64 (l.getD k 0)) Z Z ?_;refine Mv (.int .i64 (Fq l k)) Z ci ?_;refine Pl Z (C9 (a:=l.getD k 0) (b:=Fq l k) Z Z ?_);refine As (.bool (decide ((l.getD k 0)≤(Fq l k)))) Z Z ?_;refine Nl ?_;refine AX (p:=(l.getD k 0)≤(Fq l k)) Z (fun bh=>?_) (fun bh=>?_)
      ·refine Sq (Rg ?_);refine Pl Z (Ax (cells:=#[.int .i64 0,.int .i64 0,.int .i64 0,.int .i64 0,.int .i64 0,.int .i64 0,.int .i64 0,.int .i64 0,.int .i64 0,.bool false,.bool false,.bool false,.bool false,.bool false,.bool false]) Fx.pl87 Fx.zero87 (by kernel_rfl) ?_);refine Pl Z (AH (v:=.agg #[.int .i64 0,.int .i64 0,.int .i64 0,.int .i64 0,.int .i64 0,.int .i64 0,.int .i64 0,.int .i64 0,.int .i64 0,.bool false,.bool false,.bool false,.bool false,.bool false,.bool false]) (c':=Ag AL.zero) Fx.ty87 ar Z (ad.keep (aq.keep ap Z) Z) Z Z (Nb Z) Z fun _ bi bj=>?_);refine As (.int .i64 7) Z Z ?_;refine Nl (Rt ?_);refine ⟨.inr Z,Dm Z (v:=.agg (Ag AL.zero)) (v':=.int .i64 7) ar (AP Fx.ty87 (Bx bi Z)) Z ?_⟩;exact ⟨(by exact FR (Gm ‹_› ‹_› ‹_› (BE (k:=k) hs (by omega) (T5 ‹_› ‹_›) (by decide))) (by decide)),((af.trans ad).upd (Ln aa ah) bj)⟩
      ·refine Sk (Rg ?_);refine Mv (.int .i64 (l.getD k 0)) Z Z ?_;refine Mv (.int .i64 (l.getD k 0)) Z Z ?_;refine Fa Fx.fld87_2 Z ch ?_;have bk:(0:Int)≤l.getD k 0:=by omega
       have bl:l.getD k 0<((6:Nat):Int):=by omega
       refine Pl Z (CV Fx.asz85 Z Z bk bl ?_);refine Pl Z (AH (v:=.bool true) (c':=Ag ((Dx ((AL.zero.setFirsts f).setManys y) l k).setLie ((l.getD k 0).toNat) true)) Fx.ty4 Z Z (ad.keep a8 Z) Z Z (by show _≤15;omega) (Gj (i:=(l.getD k 0).toNat) (by omega)) fun _ bm bn=>?_);refine As (.int .i64 (l.getD k 0)) Z Z ?_;refine Nl (Rg ?_);refine Ad (k:Int) 1 Z au Z (by omega) ?_;refine Mv (.int .i64 ((k:Int)+1)) Z Z ?_;refine Nl ?_;exact ⟨_,by omega,k+1,Z,(by omega),(by exact Cw hs (T6 ‹_› ‹_›)),Z,((aq.trans ad).upd (Ln Lr ak) bn),cl,ar,ch,a6,a7,Z,Z,(by have e:(Ag (Dx ((AL.zero.setFirsts f).setManys y) l (k+1)):Array Value)=Ag ((Dx ((AL.zero.setFirsts f).setManys y) l k).setLie ((l.getD k 0).toNat) true):=(by rw [OD (by omega)]);rw [e];exact bm)⟩
    ·refine Xt (Sq (Rg ?_));refine Ld (.agg (Ag (Dx ((AL.zero.setFirsts f).setManys y) l k))) Z ch (AP Fx.ty87 (Bx a8 Z)) ?_;refine Pl Z (AH (v:=.agg (Ag (Dx ((AL.zero.setFirsts f).setManys y) l k))) (c':=Ag (Dx ((AL.zero.setFirsts f).setManys y) l k)) Fx.ty87 ar Z (aq.keep ap Z) (Gn _) (Gp _) (Hg _) (Hh _ _) fun _ bo bp=>?_);refine As (.int .i64 0) Z Z ?_;refine Nl (Rt ?_);have bq:=((aj.trans ac).trans aq).upd (Ln aa ah) bp;refine ⟨.inr Z,Dm Z (v:=.agg (Ag (Dx ((AL.zero.setFirsts f).setManys y) l k))) (v':=.int .i64 0) ar (AP Fx.ty87 (Bx bo Z)) Z ?_⟩;exact ⟨(by exact OE (Gm ‹_› ‹_› ‹_› (B5 (k:=k) hs (by omega))) ‹_› hk),bq⟩
theorem R9 {W:Wk Tryd.prog} {h:GH} (d:Int) (m:Int) (gs:List Good) (gsv:Value) (ms:List AB) (msv:Value) (cs:List AE) (csv:Value) (f:List Int) (fv:Value) (y:List Int) (yv:Value) (l:List Int) (lv:Value) (hgs:AO h gsv 5 BA gs) (hms:AO h msv 5 A4 ms) (hcs:AO h csv 4 Av cs) (hf:AO h fv 1 eI f) (hy:AO h yv 1 eI y) (hl:AO h lv 1 eI l) (hG:C1 h) (hnm:∀k,(gs.getD k Good.z).name.size≤1000):AY W 13 #[.agg #[.int .i64 d,.int .i64 m,gsv,msv,csv],fv,yv,lv] h (fun v h'=>∃(w1:Value) (w2:Value),v=(.tuple #[w1,w2,.int .i64 (Au d m gs ms cs f y l)]:Value)∧AO h' w1 1 eI (FS d m gs ms cs f y l)∧AO h' w2 1 eI (Gq d m gs ms cs f y l)∧h.Le h'):=by
 have ba:=hgs.len;have bb:=hms.len;have bc:=hcs.len;have bd:=hf.len;have be:=hy.len;have bf:=hl.len;refine AN Tryd.func13 Z (Nb Z) ?_;refine Sq (Rg ?_);refine Pl Z (Ar (v:=.agg #[.int .i64 d,.int .i64 m,gsv,msv,csv]) (c:=#[.int .i64 d,.int .i64 m,gsv,msv,csv]) Z Z fun r7 _ _ aa ar _=>?_);refine As (.slice none 0 0) Z Z ?_;refine As (.slice none 0 0) Z Z ?_;refine As (.int .i64 0) Z Z ?_;refine Nl (Sq (Rg ?_));refine Ld (.agg #[.int .i64 d,.int .i64 m,gsv,msv,csv]) Z Z (AP Fx.ty26 (Bx ar Z)) ?_;refine Mv fv Z Z ?_;refine Mv yv Z Z ?_;refine Mv lv Z Z ?_;refine Pl Z (Bz Tryd.func39 Fx.call39 Z Z Z Z ((O7 d m gs gsv ms msv cs csv f fv y yv l lv (hgs.le aa) (hms.le aa) (hcs.le aa) (hf.le aa) (hy.le aa) (hl.le aa) (hG.le aa) (by omega)).mono fun _ _ bg=>?_));obtain ⟨rfl,ab⟩:=bg;refine Mv (.tuple #[.agg (Ag (A6 d m gs ms cs f y l)),.int .i64 (Au d m gs ms cs f y l)]) Z Z ?_;refine Pl Z (AK (vs:=#[.agg (Ag (A6 d m gs ms cs f y l)),.int .i64 (Au d m gs ms cs f y l)]) (v:=.agg (Ag (A6 d m gs ms cs f y l))) Z Z ?_);refine Pl Z (AK (vs:=#[.agg (Ag (A6 d m gs ms cs f y l)),.int .i64 (Au d m gs ms cs f y l)]) (v:=.int .i64 (Au d m gs ms cs f y l)) Z Z ?_);have au:=ab.keep ar Z;refine Pl Z (Ah Fx.zero87 fun bh b4 am ad bi _=>?_);have bj:b4 bh=some (true,.cells (Ag AL.zero) 87 (0,0)):=bi;have bk:r7≠bh:=CS au am;refine Pl Z (AH (v:=.agg (Ag (A6 d m gs ms cs f y l))) (c':=Ag (A6 d m gs ms cs f y l)) Fx.ty87 Z Z bj (Gn _) (Gp _) (Hg _) (Hh _ _) fun av bl an=>?_);refine As (.int .i64 (Au d m gs ms cs f y l)) Z Z ?_;refine Nl (Sq (Sq (Rg ?_)));refine Mv (.int .i64 (Au d m gs ms cs f y l)) Z Z ?_;refine Pl Z (A8 (a:=Au d m gs ms cs f y l) (b:=0) Z Z ?_);refine Nl ?_;refine AX (p:=¬(Au d m gs ms cs f y l)=0) Z (fun aw=>?_) (fun aw=>?_)
 ·refine Sq (Rg ?_);refine Mv (.int .i64 (Au d m gs ms cs f y l)) Z Z ?_;refine As (.slice none 0 0) Z Z ?_;refine As (.slice none 0 0) Z Z ?_;refine As (.int .i64 (Au d m gs ms cs f y l)) Z Z ?_;refine Nl (Rt ?_);have bm:=((aa.trans ab).trans ad).upd (Ln (aa.trans ab) am) an;refine ⟨.inr Z,L5 Z (v:=.slice none 0 0) (v':=.slice none 0 0) (v2:=.int .i64 (Au d m gs ms cs f y l)) Z Z Z ?_⟩;exact ⟨.slice none 0 0,.slice none 0 0,(by rfl),(by have e:FS d m gs ms cs f y l=[]:=(by exact M6 ‹_›);rw [e];exact AO.nil _ _ _),(by have e:Gq d m gs ms cs f y l=[]:=(by exact OF ‹_›);rw [e];exact AO.nil _ _ _),bm⟩
 ·obtain ⟨hbk,hpo⟩:=RV (Dn aw);have hgl:=hbk.glen;have hml:=hbk.mlen;have hdy:=hbk.days;have hkind:=hbk.kind;refine Sk (Sq (Sq (Rg ?_)));refine Fa Fx.fld26_2 Z Z ?_;have ax:=(an _ bk).trans (ad.keep au Z);refine Ld gsv Z Z (Rd.one Fx.ty22 ax Z) ?_;have ao:=((aa.trans ab).trans ad).upd (Ln (aa.trans ab) am) an;refine Pl Z (Aa Fx.sl22 (hgs.le ao) Z ?_);refine Mv (.int .i64 0) Z Z ?_;refine Nl (Bk ?_);refine Ap (fun nn σ' ds' h'=>∃(k:Nat) (w8:Value) (w9:Value),nn=gs.length-k∧(k≤gs.length)∧ds'=[]∧GH.Le av h'∧σ' 4=.pointer (some ⟨r7,0,none⟩)∧σ' 10=.int .i64 0∧σ' 11=.pointer (some ⟨bh,0,none⟩)∧σ' 29=.int .i64 (gs.length:Int)∧σ' 30=.int .i64 (k:Int)∧σ' 8=w8∧σ' 9=w9∧AU av h' w8 3 1 eI ((List.range k).map (fun (i:Nat)=>(AJ ms (A6 d m gs ms cs f y l) (i:Int) d).1))∧AU av h' w9 3 1 eI ((List.range k).map (fun (i:Nat)=>(AJ ms (A6 d m gs ms cs f y l) (i:Int) d).2))∧Apart w9 w8) ⟨0,.slice none 0 0,.slice none 0 0,Z,(by omega),Z,Lr,Z,Z,Z,Z,Z,Z,Z,(by have e:(List.range 0).map (fun (i:Nat)=>(AJ ms (A6 d m gs ms cs f y l) (i:Int) d).1)=[]:=(by rfl);rw [e];exact AU.nil _ _ _ _ _),(by have e:(List.range 0).map (fun (i:Nat)=>(AJ ms (A6 d m gs ms cs f y l) (i:Int) d).2)=[]:=(by rfl);rw [e];exact AU.nil _ _ _ _ _),Apart.nil⟩ (fun nn _ _ _ bn=>?_);obtain ⟨k,w8,w9,rfl,hk,b5,ay,bo,b6,bw,bx,bp,bz,b0,b1,b2,b3⟩:=bn;subst b5;refine Sq (Rg ?_);refine Pl Z (Az (a:=(k:Int)) (b:=(gs.length:Int)) bp bx ?_);refine Nl (Sq ?_);refine AX (p:=(k:Int)<(gs.length:Int)) Z (fun bq=>?_) (fun bq=>?_)
  ·refine Sk (Sq (Bk (Sq (Rg ?_))));refine Mv (.int .i64 (k:Int)) Z bp ?_;refine As (.int .i64 (k:Int)) Z Z ?_;refine Nl (Sq (Rg ?_));have az:=ay.keep ax Z;refine Ld (.agg #[.int .i64 d,.int .i64 m,gsv,msv,csv]) Z bo (AP Fx.ty26 (Bx az Z)) ?_;refine Pl Z (Ax (cells:=#[.int .i64 d,.int .i64 m,gsv,msv,csv]) Fx.pl92 Fx.zero92 (by kernel_rfl) ?_);refine Ld (.agg (Ag (A6 d m gs ms cs f y l))) Z bw (AP Fx.ty87 (Bx (ay.keep bl Z) Z)) ?_;refine Mv (.int .i64 (k:Int)) Z Z ?_;refine Fa Fx.fld26_0 Z bo ?_;refine Ld (.int .i64 d) Z Z (Rd.one Fx.ty3 az Z) ?_;have ah:=ao.trans ay;refine Pl Z (Bz Tryd.func40 Fx.call40 Z Z Z Z ((G2 d m gs gsv ms msv cs csv (A6 d m gs ms cs f y l) (k:Int) d (hgs.le ah) (hms.le ah) (hcs.le ah) (hG.le ah) (by omega) (by omega) (by omega) (by omega) (by omega)).mono fun _ _ br=>?_));obtain ⟨rfl,ae⟩:=br;refine Mv (.tuple #[.int .i64 ((AJ ms (A6 d m gs ms cs f y l) (k:Int) d).1),.int .i64 ((AJ ms (A6 d m gs ms cs f y l) (k:Int) d).2)]) Z Z ?_;refine Pl Z (AK (vs:=#[.int .i64 ((AJ ms (A6 d m gs ms cs f y l) (k:Int) d).1),.int .i64 ((AJ ms (A6 d m gs ms cs f y l) (k:Int) d).2)]) (v:=.int .i64 ((AJ ms (A6 d m gs ms cs f y l) (k:Int) d).1)) Z Z ?_);refine Pl Z (AK (vs:=#[.int .i64 ((AJ ms (A6 d m gs ms cs f y l) (k:Int) d).1),.int .i64 ((AJ ms (A6 d m gs ms cs f y l) (k:Int) d).2)]) (v:=.int .i64 ((AJ ms (A6 d m gs ms cs f y l) (k:Int) d).2)) Z Z ?_);refine As (.int .i64 ((AJ ms (A6 d m gs ms cs f y l) (k:Int) d).1)) Z Z ?_;refine As (.int .i64 ((AJ ms (A6 d m gs ms cs f y l) (k:Int) d).2)) Z Z ?_;refine Nl (Rg ?_);refine Mv w8 Z bz ?_;refine Mv (.int .i64 ((AJ ms (A6 d m gs ms cs f y l) (k:Int) d).1)) Z Z ?_;refine Pl Z (AZ (cells:=#[.int .i64 ((AJ ms (A6 d m gs ms cs f y l) (k:Int) d).1)]) Fx.sel30 (by decide) (by decide) (by kernel_rfl) fun _ _ bs af bt _=>?_);have bu:=AU.built (enc:=eI) (xs:=[(AJ ms (A6 d m gs ms cs f y l) (k:Int) d).1]) (n:=1) bs bt Z Z (by intro x hx;rfl) Z;have a0:=(b1.le ae).le af;have a1:=(ay.trans ae).trans af;have a2:=(b2.le ae).le af;refine Pl Z (CF (h0:=av) Fx.app30_30 Z Z a0 (bu.sl) (fun _ q=>Ln a1 q) (by simp <;> omega) (by intro y hy;rfl) fun a9 _ bv ap=>?_);have ai:Apart a9 w9:=Apart.grown ap a2 (Apart.symm b3);refine Mv w9 Z b0 ?_;refine Mv (.int .i64 ((AJ ms (A6 d m gs ms cs f y l) (k:Int) d).2)) Z Z ?_;refine Pl Z (AZ (cells:=#[.int .i64 ((AJ ms (A6 d m gs ms cs f y l) (k:Int) d).2)]) Fx.sel30 (by decide) (by decide) (by kernel_rfl) fun _ _ a3 ac a4 _=>?_);have a5:=AU.built (enc:=eI) (xs:=[(AJ ms (A6 d m gs ms cs f y l) (k:Int) d).2]) (n:=1) a3 a4 Z Z (by intro x hx;rfl) Z;have aj:=((AU.grown ap a2 (Apart.symm b3)).le ac);have ak:=(GH.Le.grown ap a1 fun b e=>Ln Lr (a0.fresh b e)).trans ac;have al:=bv.le ac;refine Pl Z (CF (h0:=av) Fx.app30_30 Z Z aj (a5.sl) (fun _ q=>Ln ak q) (by simp <;> omega) (by intro y hy;rfl) fun aq _ a6 ag=>?_);have a7:Apart aq a9:=Apart.grown ag al (Apart.symm ai);refine As a9 Z Z ?_;refine As aq Z Z ?_;refine Nl (Rg ?_);refine Ad (k:Int) 1 Z bp Z (by omega) ?_;refine Mv (.int .i64 ((k:Int)+1)) Z Z ?_;refine Nl ?_;have a8:=GH.Le.grown ag ak fun b e=>Ln Lr (aj.fresh b e);exact ⟨_,by omega,k+1,a9,aq,Z,(by omega),Z,a8,bo,b6,bw,bx,Z,Z,Z,(by have e:(List.range (k+1)).map (fun (i:Nat)=>(AJ ms (A6 d m gs ms cs f y l) (i:Int) d).1)=((List.range k).map (fun (i:Nat)=>(AJ ms (A6 d m gs ms cs f y l) (i:Int) d).1))++[(AJ ms (A6 d m gs ms cs f y l) (k:Int) d).1]:=(by exact EL _ _);rw [e];exact (AU.grown ag al (Apart.symm ai))),(by have e:(List.range (k+1)).map (fun (i:Nat)=>(AJ ms (A6 d m gs ms cs f y l) (i:Int) d).2)=((List.range k).map (fun (i:Nat)=>(AJ ms (A6 d m gs ms cs f y l) (i:Int) d).2))++[(AJ ms (A6 d m gs ms cs f y l) (k:Int) d).2]:=(by exact EL _ _);rw [e];exact a6),a7⟩
  ·refine Xt (Sq (Rg ?_));refine Mv w8 Z bz ?_;refine Mv w9 Z b0 ?_;refine As w8 Z Z ?_;refine As w9 Z Z ?_;refine As (.int .i64 0) Z Z ?_;refine Nl (Rt ?_);refine ⟨.inr Z,L5 Z (v:=w8) (v':=w9) (v2:=.int .i64 0) Z Z Z ?_⟩;exact ⟨w8,w9,(by (rw [Dn (by assumption:¬¬Au d m gs ms cs f y l=0)])),(by have e:FS d m gs ms cs f y l=(List.range k).map (fun (i:Nat)=>(AJ ms (A6 d m gs ms cs f y l) (i:Int) d).1):=(by exact LZ ‹_› hk ‹_›);rw [e];exact b1.sl),(by have e:Gq d m gs ms cs f y l=(List.range k).map (fun (i:Nat)=>(AJ ms (A6 d m gs ms cs f y l) (i:Int) d).2):=(by exact M7 ‹_› hk ‹_›);rw [e];exact b2.sl),(ao.trans ay)⟩
end Go.Ns
