/- Rules and walks, part 3 of 6. No conditions. -/
import Derived.Carry
import Derived.Conc.LeavingOf
import Derived.LaidMore
import Derived.OpenShut
import Derived.ProofKit
import Derived.Test.YthccgklboafliaaGreatDoorProg
import Derived.Test.YthccgklboafliaaGreatDoorReA
import Derived.Test.YthccgklboafliaaGreatDoorReB
set_option linter.unusedVariables false
set_option linter.unusedSimpArgs false
set_option linter.unnecessarySimpa false
set_option linter.unusedSectionVars false
namespace Go.Ns
def Re (ms:List AC) (p:AW) (g:Int) (k:Nat):Int:=if (ms.getD k AC.z).good=g then signed (ms.getD k AC.z).kind.toNat (Bz p k) else 0
def FG (ms:List AC) (p:AW) (g:Int) (k:Nat):Int×Int:=((ms.getD k AC.z).day,Re ms p g k)
def LX (ms:List AC) (p:AW) (g:Int):List (Int×Int):=(List.range ms.length).map (FG ms p g)
def runA (n low:Int):List (Int×Int)→Int×Int
 | []=>(n,low)
 | [x]=>(n+x.2,min (n+x.2) low)
 | x ::y ::t=>runA (n+x.2) (if x.1<y.1 then min (n+x.2) low else low) (y ::t)
def Ir (c n low:Int):List (Int×Int)→Int×Int
 | []=>(n,min n low)
 | x ::t=>if c<x.1 then Ir x.1 (n+x.2) (min n low) t else Ir c (n+x.2) low t
def Gu:Int→List (Int×Int)→Prop
 | _,[]=>True
 | c,x ::t=>c≤x.1∧Gu x.1 t
theorem ZJ:∀(t:List (Int×Int)) (x:Int×Int) (n low:Int),Gu x.1 t→runA n low (x ::t)=Ir x.1 (n+x.2) low t
 | [],x,n,low,_=>rfl
 | y ::t,x,n,low,h=>by
  show runA (n+x.2) _ (y ::t)=if x.1<y.1 then _ else _
  rw [ZJ t y _ _ h.2];by_cases e:x.1<y.1
  ·rw [if_pos e,if_pos e]
  ·rw [if_neg e,if_neg e,show x.1=y.1 from by have:=h.1;omega]
theorem runA_B0 {n:Int}:∀{t:List (Int×Int)},(∀x ∈ t,1≤x.1)→Gu 0 t→runA n n t=Ir 0 n n t
 | [],_,_=>by simp [runA,Ir,Int.min_self]
 | x ::t,h1,h=>by
  rw [ZJ t x n n h.2];show _=if 0<x.1 then _ else _
  rw [if_pos (by have:=h1 x (by simp);omega),Int.min_self]
theorem Gu.weak {c c':Int} (hc:c'≤c):∀{t:List (Int×Int)},Gu c t→Gu c' t
 | [],_=>trivial
 | _ ::_,h=>⟨by have:=h.1;omega,h.2⟩
theorem XD {c d n low:Int} (hcd:c<d):∀{t:List (Int×Int)},Gu d t→Ir d n (min n low) t=Ir c n low t
 | [],_=>by simp only [Ir];congr 1;omega
 | y ::t,h=>by
  have h1:=h.1;show (if d<y.1 then _ else _)=if c<y.1 then _ else _
  rw [if_pos (show c<y.1 by omega)];by_cases e:d<y.1
  ·rw [if_pos e,show min n (min n low)=min n low by omega]
  ·rw [if_neg e,show d=y.1 by omega]
theorem Ht {ι:Type} {f:ι→Int×Int} {q:ι→Bool}:∀{l:List ι} {c n low:Int},(∀i ∈ l,q i=false→(f i).2=0)→Gu c (l.map f)→Ir c n low (l.map f)=Ir c n low ((l.filter q).map f)
 | [],_,_,_,_,_=>rfl
 | i ::l,c,n,low,hz,hr=>by
  have hz':∀j ∈ l,q j=false→(f j).2=0:=fun j hj=>hz j (by simp [hj]);cases hq:q i with
  | true=>
   rw [List.filter_cons_of_pos hq];show (if c<(f i).1 then _ else _)=if c<(f i).1 then _ else _
   split
   ·exact Ht hz' hr.2
   ·exact Ht hz' (Gu.weak hr.1 hr.2)
  | false=>
   rw [List.filter_cons_of_neg (by simp [hq])];have h0:=hz i (by simp) hq;show (if c<(f i).1 then Ir (f i).1 (n+(f i).2) _ _ else _)=_;rw [h0,Int.add_zero];have hr2:Gu (f i).1 (l.map f):=hr.2;rw [←Ht hz' (Gu.weak hr.1 hr2)];split
   ·rename_i e;exact XD e hr2
   ·rfl
theorem OC {ms:List AC} {p:AW} {g dy:Int} (hd:∀k,k<ms.length→(ms.getD k AC.z).day≤dy):∀(f k:Nat) (n low:Int),k+f=ms.length→Ce ms p g dy f k n low=runA n low ((List.range' k f).map (FG ms p g))
 | 0,_,_,_,_=>rfl
 | f+1,k,n,low,e=>by
  have h1:¬dy<(ms.getD k AC.z).day:=by have:=hd k (by omega);omega
  unfold Ce;rw [if_neg h1,OC hd f (k+1) _ _ (by omega),List.range'_succ,List.map_cons];have hn:Fo ms p g k n=n+(FG ms p g k).2:=by unfold Fo FG Re;simp only [];split <;> omega
  cases f with
  | zero=>
   show (_,_)=(_,_);rw [hn];congr 1;unfold Ej;rw [if_pos (.inl (by omega)),Int.min_comm]
  | succ f=>
   rw [List.range'_succ,List.map_cons,hn];have hne:¬((k:Int)+1=ms.length):=by omega
   have hlow:Ej ms k low (n+(FG ms p g k).2)=if (FG ms p g k).1<(FG ms p g (k+1)).1 then min (n+(FG ms p g k).2) low else low:=by
    show (if (k:Int)+1=ms.length∨(ms.getD k AC.z).day<(ms.getD (k+1) AC.z).day then _ else _)=if (ms.getD k AC.z).day<(ms.getD (k+1) AC.z).day then _ else _
    by_cases e2:(ms.getD k AC.z).day<(ms.getD (k+1) AC.z).day
    ·rw [if_pos (.inr e2),if_pos e2,Int.min_comm]
    ·rw [if_neg (by simp only [e2,or_false];exact hne),if_neg e2]
   rw [hlow];rfl
theorem XE {ms:List AC} {p:AW} {g dy:Int} (hd:∀k,k<ms.length→(ms.getD k AC.z).day≤dy):AM ms p g dy=runA (p.first g.toNat) (p.first g.toNat) (LX ms p g):=by
 unfold AM LX;rw [OC hd ms.length 0 _ _ (by omega),List.range_eq_range']
theorem OD:∀(t:List (Int×Int)) (c n low:Int),(Ir c n low t).2≤low∧(Ir c n low t).2≤(Ir c n low t).1
 | [],_,n,low=>by simp only [Ir];omega
 | x ::t,c,n,low=>by
  show (if c<x.1 then _ else _:Int×Int).2≤low∧(if c<x.1 then _ else _:Int×Int).2≤(if c<x.1 then _ else _:Int×Int).1;split
  ·have:=OD t x.1 (n+x.2) (min n low);omega
  ·exact OD t c (n+x.2) low
theorem Ge {d m:Int} {gs:List Good} {ms:List AC} {cs:List AH} (b:BE d m gs ms cs):Av d m gs ms cs=0:=by
 unfold Av;refine Eu fun j _ hj=>?_
 have:j=0∨j=1∨j=2∨j=3:=by omega
 rcases this with rfl | rfl | rfl | rfl
 ·show ET d m=0;unfold ET;have:=b.days;have:=b.most;rw [if_neg (by omega)]
 ·show Bg gs=0;unfold Bg;have:=b.glen;rw [if_neg (by omega)];exact Eu fun j _ hj=>b.good j (by omega)
 ·show BW d gs ms=0;unfold BW;have:=b.mlen;rw [if_neg (by omega)];exact Eu fun j _ hj=>b.move j (by omega)
 ·show CN d gs cs=0;unfold CN;have:=b.clen;rw [if_neg (by omega)];exact Eu fun j _ hj=>b.count j (by omega)
def Is (ms:List AC):Prop:=ms.Pairwise fun a b=>a.day≤b.day
section
variable {d m:Int} {gs:List Good} {ms:List AC} {cs:List AH}
theorem BE.up (b:BE d m gs ms cs):Is ms:=by
 have adj:∀k,k+1<ms.length→(ms.getD k AC.z).day≤(ms.getD (k+1) AC.z).day:=fun k hk=>by
  have:=(b.move' hk).2.2.2.1
  unfold Du at this;rw [if_neg (by omega)] at this;simpa using this
 have all:∀f k,k+f<ms.length→(ms.getD k AC.z).day≤(ms.getD (k+f) AC.z).day:=by
  intro f
  induction f with
  | zero=>intro k _;exact Int.le_refl _
  | succ f ih=>intro k hk;exact Int.le_trans (ih k (by omega)) (adj (k+f) (by omega))
 unfold Is;rw [List.pairwise_iff_getElem];intro i j hi hj hij
 have:=all (j-i) i (by omega)
 rw [show i+(j-i)=j by omega,Cj AC.z hi,Cj AC.z hj] at this;exact this
theorem QF {ι:Type} {f:ι→Int×Int}:∀{l:List ι} {c:Int},l.Pairwise (fun i j=>(f i).1≤(f j).1)→(∀i ∈ l,c≤(f i).1)→Gu c (l.map f)
 | [],_,_,_=>trivial
 | i ::l,c,h,h1=>⟨h1 i (by simp),QF (List.pairwise_cons.1 h).2 fun j hj=>(List.pairwise_cons.1 h).1 j hj⟩
theorem BE.pairsUp (b:BE d m gs ms cs) (p:AW) (g:Int) {l:List Nat} (s:l.Sublist (List.range ms.length)):Gu 0 (l.map (FG ms p g)):=by
 refine QF ?_ fun i hi=>?_
 ·have h1:(List.range ms.length).Pairwise (fun i j=>(FG ms p g i).1≤(FG ms p g j).1):=by
   rw [List.pairwise_iff_getElem];intro i j hi hj hij;simp only [List.getElem_range]
   have:=b.up
   unfold Is at this;rw [List.pairwise_iff_getElem] at this;simp only [List.length_range] at hi hj
   have:=this i j hi hj hij
   rwa [←Cj AC.z,←Cj AC.z] at this
  exact h1.sublist s
 ·have:=List.mem_range.1 (s.subset hi)
  have:=(b.move' this).2.2.1
  show 0≤(ms.getD i AC.z).day;omega
theorem BE.stock (b:BE d m gs ms cs) (p:AW) (g:Int):AM ms p g d=Ir 0 (p.first g.toNat) (p.first g.toNat) (LX ms p g):=by
 rw [XE fun k hk=>(b.move' hk).2.2.1.2];refine runA_B0 (fun x hx=>?_) (b.pairsUp p g (List.Sublist.refl _));obtain ⟨i,hi,rfl⟩:=List.mem_map.1 hx;exact (b.move' (List.mem_range.1 hi)).2.2.1.1
end
def LY (picks:List Int) (k:Nat):Int:=if (k:Int)<picks.length then picks.getD k 0 else 0
def S5 (lo hi n:Int):Int:=lo+n%(hi-lo+1)
theorem Hu {lo hi n:Int} (h:lo≤hi):lo≤S5 lo hi n∧S5 lo hi n≤hi:=by
 unfold S5;have h0:=Int.emod_nonneg n (show hi-lo+1≠0 by omega);have h1:=Int.emod_lt_of_pos n (show 0<hi-lo+1 by omega);omega
def G7 (gs:List Good) (picks:List Int) (i:Nat):Int:=S5 (gs.getD i Good.z).low (gs.getD i Good.z).high (LY picks i)
def Gp (gs:List Good) (ms:List AC) (picks:List Int) (i:Nat):Int:=S5 (ms.getD i AC.z).low (ms.getD i AC.z).high (LY picks (gs.length+i))
def By (gs:List Good) (picks:List Int):List Int:=(List.range gs.length).map (G7 gs picks)
def CK (gs:List Good) (ms:List AC) (picks:List Int):List Int:=(List.range ms.length).map (Gp gs ms picks)
def lieC' (ms:List AC) (m bits:Int) (k:Nat) (l:List Int):Prop:=(ms.getD k AC.z).kind=0∧bits.fdiv (2 ^ k)%2=1∧(l.length:Int)<m
instance (ms:List AC) (m bits:Int) (k:Nat) (l:List Int):Decidable (lieC' ms m bits k l):=inferInstanceAs (Decidable (_∧_))
def A4 (ms:List AC) (m bits:Int):Nat→List Int
 | 0=>[]
 | k+1=>if lieC' ms m bits k (A4 ms m bits k) then A4 ms m bits k++[(k:Int)] else A4 ms m bits k
theorem Mi {l:List Int} {n:Int} (h:(l.length:Int)=n) (h2:∀x ∈ l,0≤x∧x≤99):BG l n=0:=by
 unfold BG;rw [if_neg (by simpa using h),if_neg];rw [List.any_eq_true];rintro ⟨x,hx,e⟩;exact (of_decide_eq_true e) (h2 x hx)
theorem Ec {ms:List AC} {m bits:Int}:∀k,k≤ms.length→(∀x ∈ A4 ms m bits k,0≤x∧x<(k:Int)∧Cw ms x=true)∧(A4 ms m bits k).Pairwise (· < ·)
 | 0,_=>⟨fun x hx=>by simp [A4] at hx,List.Pairwise.nil⟩
 | k+1,hk=>by
  obtain ⟨h1,h2⟩:=Ec (ms:=ms) (m:=m) (bits:=bits) k (by omega);unfold A4;split
  ·rename_i hc
   refine ⟨fun x hx=>?_,?_⟩
   ·rcases List.mem_append.1 hx with hx | hx
    ·have:=h1 x hx;exact ⟨this.1,by omega,this.2.2⟩
    ·simp at hx;subst hx;refine ⟨by omega,by omega,?_⟩;unfold Cw;refine decide_eq_true ⟨⟨by omega,by omega⟩,?_⟩;rw [Int.toNat_natCast];exact hc.1
   ·rw [List.pairwise_append];refine ⟨h2,List.pairwise_singleton ..,fun a ha b hb=>?_⟩;simp at hb;subst hb;exact (h1 a ha).2.1
  ·exact ⟨fun x hx=>by have:=h1 x hx;exact ⟨this.1,by omega,this.2.2⟩,h2⟩
theorem ZK {ms:List AC} {l:List Int} (h1:∀x ∈ l,Cw ms x=true∧0≤x) (h2:l.Pairwise (· < ·)):Do (I7 ms l) 0 l.length=0:=by
 refine Eu fun j _ hj=>?_;have hj:j<l.length:=by omega
 unfold I7;rw [if_neg (by rw [(h1 _ (Cd hj)).1];simp),if_neg];unfold G3;split
 ·have:=(h1 _ (Cd (d:=(0:Int)) hj)).2;omega
 ·rw [List.pairwise_iff_getElem] at h2
  have:=h2 (j-1) j (by omega) hj (by omega)
  rw [Cj 0 hj,Cj 0 (show j-1<l.length by omega)];omega
section
variable {d m:Int} {gs:List Good} {ms:List AC} {cs:List AH} {picks:List Int} {bits:Int}
theorem XF (b:BE d m gs ms cs) {f y l:List Int} (hf:BG f gs.length=0) (hy:BG y ms.length=0) (hl:Do (I7 ms l) 0 l.length=0):Ak d m gs ms cs f y l=0:=
 G4 (by simpa using Ge b) (by simpa using hf) (by simpa using hy) hl
theorem OE (b:BE d m gs ms cs) (picks:List Int):BG (By gs picks) gs.length=0:=Mi (by simp [By]) fun x hx=>by
 obtain ⟨i,hi,rfl⟩:=List.mem_map.1 hx
 have:=b.gfew i
 have:=Hu (n:=LY picks i) this.2.1
 unfold G7;omega
theorem Rf (b:BE d m gs ms cs) (picks:List Int) (i:Nat):0≤Gp gs ms picks i∧Gp gs ms picks i≤99:=by
 have:=b.few i
 have:=Hu (n:=LY picks (gs.length+i)) this.2.1
 unfold Gp;omega
theorem WW (b:BE d m gs ms cs) (picks:List Int):BG (CK gs ms picks) ms.length=0:=Mi (by simp [CK]) fun x hx=>by
 obtain ⟨i,hi,rfl⟩:=List.mem_map.1 hx;exact Rf b picks i
theorem Rh (b:BE d m gs ms cs) (picks:List Int) (bits:Int):Ak d m gs ms cs (By gs picks) (CK gs ms picks) (A4 ms m bits ms.length)=0:=by
 obtain ⟨h1,h2⟩:=Ec (ms:=ms) (m:=m) (bits:=bits) ms.length (Nat.le_refl _);exact XF b (OE b picks) (WW b picks) (ZK (fun x hx=>⟨(h1 x hx).2.2,(h1 x hx).1⟩) h2)
theorem Mj (p:AW) (l:List Int) (i:Nat) (h0:∀x ∈ l,0≤x):(Dp p l l.length).lies i=(decide ((i:Int) ∈ l) || p.lies i):=by
 unfold Dp;rw [List.take_length]
 induction l generalizing p with
 | nil=>simp
 | cons x l ih=>
  rw [List.foldl_cons,ih _ fun y hy=>h0 y (by simp [hy])];have hx:=h0 x (by simp);show (decide ((i:Int) ∈ l) || if i=x.toNat then true else p.lies i)=_;by_cases e:i=x.toNat
  ·rw [if_pos e]
   have:(i:Int)=x:=by omega
   simp [this]
  ·rw [if_neg e]
   have:¬(i:Int)=x:=by omega
   simp [this]
theorem It (p:AW) (l:List Int) (k:Nat):(Dp p l k).first=p.first∧(Dp p l k).many=p.many:=by
 unfold Dp;generalize l.take k=t
 induction t generalizing p with
 | nil=>exact ⟨rfl,rfl⟩
 | cons x t ih=>exact ih (p.setLie x.toNat true)
theorem Ri {f y l:List Int} (h:Ak d m gs ms cs f y l=0) {i:Nat} (hi:i<f.length):(Ax d m gs ms cs f y l).first i=f.getD i 0:=by
 unfold Ax Fd;rw [if_pos h,(It _ _ _).1];show (if i<f.length then f.getD i 0 else 0)=_;rw [if_pos hi]
theorem S6 {f y l:List Int} (h:Ak d m gs ms cs f y l=0) {i:Nat} (hi:i<y.length):(Ax d m gs ms cs f y l).many i=y.getD i 0:=by
 unfold Ax Fd;rw [if_pos h,(It _ _ _).2];show (if i<y.length then y.getD i 0 else 0)=_;rw [if_pos hi]
theorem S7 {f y l:List Int} (h:Ak d m gs ms cs f y l=0) (h0:∀x ∈ l,0≤x) (i:Nat):(Ax d m gs ms cs f y l).lies i=decide ((i:Int) ∈ l):=by
 unfold Ax Fd;rw [if_pos h,Mj _ _ _ h0];show (decide ((i:Int) ∈ l) || false)=_;simp
end
end Go.Ns
namespace Go.Ns
open Go.Conc
section
variable {P:Program} {E:HI P} {σ:Nat→Value} {ds:List Deferred} {h:GH} {T:(Nat→Value)→List Deferred→GH→Prop} {dst:Option Nat} {ty:TypeId} {pos:String} {af:Array Edge} {gd:Option (Nat×Bool)}
theorem Uj {s:ByteArray} {i:Nat} (h:i<s.size):((s[i]'h).toNat:Int)=(bytesOf s).getD i 0:=by
 have h2:i<(bytesOf s).length:=by rw [Cv];exact h
 rw [Cj 0 h2];exact (List.getElem_map (l:=s.data.toList) (f:=fun b=>(b.toNat:Int)) (h:=h2)).symm
theorem OF {t:TypeId} {x ix:Operand} {s:ByteArray} {kd:IntKind} {i:Int} (ht:NP P t=true) (hx:AY σ x=.string s) (hi:AY σ ix=.int kd i) (h0:0≤i) (h1:i<s.size) (k:T (putS σ dst (.int .u8 ((bytesOf s).getD i.toNat 0))) ds h) :
  Br E ⟨dst,.index t x ix,ty,pos,af,gd⟩ σ ds h T:=Pv ht hx hi h0 h1 (by rw [Uj];exact k)
end
theorem S8 {s:ByteArray} (h:¬(1≤(s.size:Int)∧(s.size:Int)≤10)):Dx s=false:=by unfold Dx;rw [decide_eq_false h,Bool.and_false]
def Dv (d:Int) (gs:List Good) (c:AH):Int:=if¬(0≤c.good∧c.good≤(gs.length:Int)-1) then 6 else if¬(0≤c.day∧c.day≤d)∨¬((0≤c.low∧c.low≤c.high)∧c.high≤999) then 1 else 0
section
variable {d m:Int} {gs:List Good} {ms:List AC} {cs:List AH}
theorem Hv:Av d m gs ms cs=if ET d m=0 then (if Bg gs=0 then (if BW d gs ms=0 then (if CN d gs cs=0 then 0 else CN d gs cs) else BW d gs ms) else Bg gs) else ET d m:=rfl
theorem bb1 (h:¬(1≤d∧d≤99)∨¬(0≤m∧m≤2)):Av d m gs ms cs=1:=by
 have e:ET d m=1:=if_pos h;rw [Hv,e,if_neg (by decide)]
theorem ZL (h:(1≤d∧d≤99)∧(0≤m∧m≤2)):ET d m=0:=if_neg (by omega)
theorem bb2 (h0:(1≤d∧d≤99)∧(0≤m∧m≤2)) (h:¬Bg gs=0):Av d m gs ms cs=Bg gs:=by rw [Hv,if_pos (ZL h0),if_neg h]
theorem bb3 (h0:(1≤d∧d≤99)∧(0≤m∧m≤2)) (h:¬¬Bg gs=0) (h2:¬BW d gs ms=0):Av d m gs ms cs=BW d gs ms:=by rw [Hv,if_pos (ZL h0),if_pos (Decidable.not_not.1 h),if_neg h2]
theorem bb4 (h0:(1≤d∧d≤99)∧(0≤m∧m≤2)) (h:¬¬Bg gs=0) (h2:¬¬BW d gs ms=0) {c:Int} (h3:CN d gs cs=c):Av d m gs ms cs=c:=by
 rw [Hv,if_pos (ZL h0),if_pos (Decidable.not_not.1 h),if_pos (Decidable.not_not.1 h2),h3];by_cases e:c=0
 ·rw [if_pos e,e]
 ·rw [if_neg e]
theorem Uk (h:(4:Int)<cs.length):CN d gs cs=2:=if_pos h
theorem Ul {k:Nat} (h:¬(4:Int)<cs.length) (hs:∀j,j<k→Ei d gs cs j=0) (hk:k<cs.length) (e:¬Dv d gs (cs.getD k AH.z)=0):CN d gs cs=Dv d gs (cs.getD k AH.z):=by
 unfold CN;rw [if_neg h];exact Bd hs hk rfl e
theorem Um {k:Nat} (h:¬(4:Int)<cs.length) (hs:∀j,j<k→Ei d gs cs j=0) (hk:cs.length≤k):CN d gs cs=0:=by
 unfold CN;rw [if_neg h];exact Ck hs hk
theorem OG {k:Nat} (h:0<k):Du ms k=(ms.getD ((k:Int)-1).toNat AC.z).day:=by
 unfold Du;rw [if_neg (by omega),show ((k:Int)-1).toNat=k-1 by omega]
theorem mv1 {k:Nat} (h:(ms.getD k AC.z).kind<0∨4<(ms.getD k AC.z).kind):DZ d gs ms k=1:=by unfold DZ;rw [if_pos (by omega)]
theorem mv2 {k:Nat} (h0:¬((ms.getD k AC.z).kind<0∨4<(ms.getD k AC.z).kind)) (h:¬(0≤(ms.getD k AC.z).good∧(ms.getD k AC.z).good≤(gs.length:Int)-1)):DZ d gs ms k=6:=by unfold DZ;rw [if_neg (by omega),if_pos h]
theorem mv3 {k:Nat} (h0:¬((ms.getD k AC.z).kind<0∨4<(ms.getD k AC.z).kind)) (h1:¬¬(0≤(ms.getD k AC.z).good∧(ms.getD k AC.z).good≤(gs.length:Int)-1)) (h:¬(1≤(ms.getD k AC.z).day∧(ms.getD k AC.z).day≤d)):DZ d gs ms k=1:=by
 unfold DZ;rw [if_neg (by omega),if_neg h1,if_pos h]
theorem mv4 {k:Nat} (h0:¬((ms.getD k AC.z).kind<0∨4<(ms.getD k AC.z).kind)) (h1:¬¬(0≤(ms.getD k AC.z).good∧(ms.getD k AC.z).good≤(gs.length:Int)-1)) (h2:¬¬(1≤(ms.getD k AC.z).day∧(ms.getD k AC.z).day≤d)) (hk:(0:Int)<(k:Int))
  (h:(ms.getD k AC.z).day<(ms.getD ((k:Int)-1).toNat AC.z).day):DZ d gs ms k=7:=by
 unfold DZ;rw [if_neg (by omega),if_neg h1,if_neg h2,OG (by omega),if_pos h]
theorem mv5 {k:Nat} (h0:¬((ms.getD k AC.z).kind<0∨4<(ms.getD k AC.z).kind)) (h1:¬¬(0≤(ms.getD k AC.z).good∧(ms.getD k AC.z).good≤(gs.length:Int)-1)) (h2:¬¬(1≤(ms.getD k AC.z).day∧(ms.getD k AC.z).day≤d)) {c:Int}
  (h3:(0:Int)<(k:Int)→¬(ms.getD k AC.z).day<(ms.getD ((k:Int)-1).toNat AC.z).day) (h4:(if¬FC (ms.getD k AC.z).low (ms.getD k AC.z).high then (1:Int) else 0)=c):DZ d gs ms k=c:=by
 have e:¬(ms.getD k AC.z).day<Du ms k:=by
  by_cases hk:0<k
  ·rw [OG hk];exact h3 (by omega)
  ·have:=Decidable.not_not.1 h2
   unfold Du;rw [if_pos (by omega)];omega
 unfold DZ;rw [if_neg (by omega),if_neg h1,if_neg h2,if_neg e,h4]
theorem gd4 {k:Nat} (h:Dx (gs.getD k Good.z).name=false):Fc gs k=4:=by unfold Fc;rw [if_pos h]
theorem gd5 {k j:Nat} (h0:Dx (gs.getD k Good.z).name=true) (hj:(j:Int)<(k:Int)) (hk:(k:Int)<gs.length) (h:((gs.getD j Good.z).name.toList==(gs.getD k Good.z).name.toList)=true):Fc gs k=5:=by
 unfold Fc;rw [if_neg (by rw [h0];decide),if_pos];rw [List.any_eq_true];refine ⟨gs.getD j Good.z,?_,h⟩;rw [Cj Good.z (show j<gs.length by omega)];exact List.mem_take_iff_getElem.2 ⟨j,by omega,rfl⟩
theorem gd1 {k j:Nat} (h0:Dx (gs.getD k Good.z).name=true) (hj:j≤k) (hj':¬(j:Int)<(k:Int)) (h:(gs.take j).any (fun x=>x.name.toList==(gs.getD k Good.z).name.toList)=false) {c:Int}
  (hc:(if (¬(0≤(gs.getD k Good.z).cost∧(gs.getD k Good.z).cost≤999)∨¬(1≤(gs.getD k Good.z).pack∧(gs.getD k Good.z).pack≤20))∨¬FC (gs.getD k Good.z).low (gs.getD k Good.z).high then (1:Int) else 0)=c):Fc gs k=c:=by
 obtain rfl:j=k:=by omega
 unfold Fc;rw [if_neg (by rw [h0];decide),if_neg (by rw [h];decide),hc]
def Ef (gs:List Good) (ms:List AC) (cs:List AH):Bool:=decide ((20:Int)<gs.length) || decide ((20:Int)<ms.length) || decide ((20:Int)<cs.length) || gs.any fun x=>decide ((100:Int)<x.name.size)
theorem XG (h:((20:Int)<gs.length∨(20:Int)<ms.length)∨(20:Int)<cs.length):Ef gs ms cs=true:=by
 unfold Ef;rcases h with (h | h) | h <;> simp [h]
theorem XH {k:Nat} (hk:k<gs.length) (h:(100:Int)<(gs.getD k Good.z).name.size):Ef gs ms cs=true:=by
 unfold Ef;rw [Bool.or_eq_true];right;rw [List.any_eq_true];exact ⟨_,Cd hk,decide_eq_true h⟩
theorem XI {k:Nat} (h:¬(20:Int)<gs.length) (h2:¬(20:Int)<ms.length) (h3:¬(20:Int)<cs.length) (hk:gs.length≤k) (hs:∀j,j<k→¬(100:Int)<(gs.getD j Good.z).name.size):Ef gs ms cs=false:=by
 unfold Ef;rw [decide_eq_false h,decide_eq_false h2,decide_eq_false h3];simp only [Bool.false_or];rw [List.any_eq_false];intro x hx;obtain ⟨i,hi,rfl⟩:=List.getElem_of_mem hx
 have:=hs i (by omega)
 rw [Cj Good.z hi] at this;simpa using this
theorem S9 (h:Ef gs ms cs=false):∀k,(gs.getD k Good.z).name.size≤1000:=by
 unfold Ef at h;rw [Bool.or_eq_false_iff] at h;intro k;by_cases hk:k<gs.length
 ·have:=List.any_eq_false.1 h.2 _ (Cd (d:=Good.z) hk)
  have:=of_decide_eq_false (Bool.eq_false_iff.2 this)
  omega
 ·rw [D4 (by omega)];decide
theorem LZ (h:(!Ef gs ms cs)=true):∀k,(gs.getD k Good.z).name.size≤1000:=S9 (by simpa using h)
def Un (d m:Int) (gs:List Good) (ms:List AC) (cs:List AH):Bool:= !Ef gs ms cs && decide (Av d m gs ms cs=0)
end
theorem CD.cons {h:GH} {l:List Sl} {v:Value} {xs:List Int} (a:AO h v 1 eI xs) (b:CD h l):CD h ((v,xs) ::l):=fun k=>by
 cases k with
 | zero=>exact a
 | succ k=>exact b k
theorem Uo {a b:List Sl} {k:Nat} (h:(CI a).take k=(CI b).take k) (ha:k<a.length) (hb:k<b.length) (e:(a.getD k Sl.z).2=(b.getD k Sl.z).2):(CI a).take (k+1)=(CI b).take (k+1):=
 Nh [] h (by rw [DE];exact ha) (by rw [DE];exact hb) (by rw [Fe ha,Fe hb,e])
theorem XJ {a b:List Sl} {k:Nat} (h:(CI a).take k=(CI b).take k) (hk:¬(k:Int)<a.length) (hl:(a.length:Int)=b.length):CI a=CI b:=by
 rw [List.take_of_length_le (by rw [DE];omega),List.take_of_length_le (by rw [DE];omega)] at h;exact h
theorem ZM {a b:List Sl} (h:¬(a.length:Int)=b.length):¬CI a=CI b:=fun e=>h (by rw [←DE,←DE,e])
theorem Up {a b:List Sl} {k:Nat} (ha:k<a.length) (hb:k<b.length) (e:¬(a.getD k Sl.z).2=(b.getD k Sl.z).2):¬CI a=CI b:=fun q=>e (by rw [←Fe ha,←Fe hb,q])
end Go.Ns
namespace Go.Ns
open Go.Conc
def DP:List Good:=[⟨⟨#[116,101,97]⟩,5,4,3,3⟩,⟨⟨#[114,105,99,101]⟩,2,10,5,6⟩]
def Dd:List AC:=[⟨0,0,2,4,4⟩,⟨1,0,3,2,3⟩,⟨2,1,4,0,1⟩,⟨0,1,5,10,10⟩]
def De:List AH:=[⟨0,10,4,5⟩,⟨1,10,5,5⟩]
theorem EA:∀k,(DP.getD k Good.z).name.size≤1000
 | 0=>by decide
 | 1=>by decide
 | k+2=>by rw [D4 (by simp [DP])];decide
theorem ZN {v0 v1 v2 v3 v4 v5 v6:Value} (h0:v0.cells=#[v0]) (h1:v1.cells=#[v1]) (h2:v2.cells=#[v2]) (h3:v3.cells=#[v3]) (h4:v4.cells=#[v4]) (h5:v5.cells=#[v5]) (h6:v6.cells=#[v6]):Instr.fill (fun i=>some (i*1,1)) ((Array.range (7*1)).map (#[Value.slice none 0 0][·% #[Value.slice none 0 0].size]!)) [(0,v0),(1,v1),(2,v2),(3,v3),(4,v4),(5,v5),(6,v6)]=some #[v0,v1,v2,v3,v4,v5,v6]:=by
 have e:((Array.range (7*1)).map (#[Value.slice none 0 0][·% #[Value.slice none 0 0].size]!))=#[Value.slice none 0 0,Value.slice none 0 0,Value.slice none 0 0,Value.slice none 0 0,Value.slice none 0 0,Value.slice none 0 0,Value.slice none 0 0]:=by kernel_rfl
 rw [e];simp [Instr.fill,h0,h1,h2,h3,h4,h5,h6]
theorem AO.isSl {α:Type} {h:GH} {v:Value} {n:Nat} {enc:α→Array Value} {xs:List α} (x:AO h v n enc xs):∀k i,v≠.int k i:=by
 obtain ⟨a,cap,rfl,_⟩:=x;intro k i e;cases e
theorem AO.across {h h':GH} {v:Value} {xs:List Int} {r:Nat} {a b c:Value} {T:TypeId} (x:AO h v 1 eI xs) (hb:h r=some (true,.cells #[.int .i64 10,.int .i64 1,a,b,c] T (0,0))) (ho:∀y,y≠r→h' y=h y)
  (ha:∀k i,a≠.int k i) (hb':∀k i,b≠.int k i) (hc:∀k i,c≠.int k i) (hx:∀o,o<5→∃i:Fin xs.length,(o+i.val=0→xs[i.val]≠10)∧(o+i.val=1→xs[i.val]≠1)):AO h' v 1 eI xs:=by
 obtain ⟨ad,cap,hv,hcap,hm,he⟩:=x;refine ⟨ad,cap,hv,hcap,hm,fun i hi=>?_⟩;obtain ⟨y,off,h1,h2⟩:=he i hi;refine ⟨y,off,h1,h2.same (ho y ?_)⟩;rintro rfl;have key:∀j (hj:j<xs.length),off+j<5∧(#[Value.int .i64 10,.int .i64 1,a,b,c]:Array Value).extract (off+j) (off+j+1)=eI xs[j]:=fun j hj=>by
  obtain ⟨y2,off2,h3,h4⟩:=he j hj;rw [h1] at h3;simp only [Option.some.injEq,Addr.mk.injEq,and_true] at h3;obtain ⟨rfl,rfl⟩:=h3;obtain ⟨p,cc,t,f,q1,q2,q3⟩:=h4;rw [hb] at q1;simp only [Option.some.injEq,Prod.mk.injEq,Obj.cells.injEq] at q1;obtain ⟨_,rfl,_⟩:=q1;rw [Nat.mul_one] at q2 q3;exact ⟨by simp at q2;omega,q3⟩
 obtain ⟨⟨j,hj⟩,e0,e1⟩:=hx off (by have:=(key i hi).1;omega);obtain ⟨k1,k2⟩:=key j hj;simp only at e0 e1;generalize off+j=o at k1 k2 e0 e1;generalize xs[j]=z at k2 e0 e1
 have:o=0∨o=1∨o=2∨o=3∨o=4:=by omega
 rcases this with rfl | rfl | rfl | rfl | rfl
 ·have k3:(#[.int .i64 10]:Array Value)=#[.int .i64 z]:=k2;simp at k3;exact e0 rfl k3.symm
 ·have k3:(#[.int .i64 1]:Array Value)=#[.int .i64 z]:=k2;simp at k3;exact e1 rfl k3.symm
 ·have k3:(#[a]:Array Value)=#[.int .i64 z]:=k2;simp at k3;exact ha _ _ k3
 ·have k3:(#[b]:Array Value)=#[.int .i64 z]:=k2;simp at k3;exact hb' _ _ k3
 ·have k3:(#[c]:Array Value)=#[.int .i64 z]:=k2;simp at k3;exact hc _ _ k3
def WX (d m:Int) (gs:List Good) (ms:List AC) (cs:List AH):Int:=if Av d m gs ms cs=0 then ((AV d gs ms cs m).length:Int) else 0
end Go.Ns
namespace Go.Ns
open Go.Conc
section
variable {P:Program} {E:HI P} {σ:Nat→Value} {ds:List Deferred} {h:GH} {T:(Nat→Value)→List Deferred→GH→Prop} {dst:Option Nat} {ty:TypeId} {pos:String} {af:Array Edge} {gd:Option (Nat×Bool)}
theorem shr_u8 {a:Int} {k:Nat} (h:k≤8):a.fdiv (2 ^ (min ((k:Int)).toNat IntKind.u8.bits))=a.fdiv (2 ^ k):=by
 have:min ((k:Int)).toNat IntKind.u8.bits=k:=by
  show min ((k:Int)).toNat 8=k;omega
 rw [this]
theorem ZO {xt yt:TypeId} {x y:Operand} {a:Int} (hx:AY σ x=.int .u8 a) (hy:AY σ y=.int .u8 1) (h0:0≤a) (h1:a≤255) (k:T (putS σ dst (.int .u8 (a%2))) ds h) :
  Br E ⟨dst,.binOp .and xt x y yt,ty,pos,af,gd⟩ σ ds h T:=Er hx hy (by
 show (pure (Value.int .u8 (IntKind.u8.wrap ((BitVec.ofInt 8 a &&& BitVec.ofInt 8 1).toNat))):Sem Value)=_;obtain ⟨n,rfl⟩:=Int.eq_ofNat_of_zero_le h0
 have:(BitVec.ofInt 8 (n:Int) &&& BitVec.ofInt 8 1).toNat=n%2:=by
  rw [BitVec.toNat_and];have e1:(BitVec.ofInt 8 (n:Int)).toNat=n:=by
   rw [BitVec.toNat_ofInt];omega
  have e2:(BitVec.ofInt 8 1).toNat=1:=by decide
  rw [e1,e2,Nat.and_one_is_mod]
 rw [this,IntWalk.u8_in _ (by omega)];congr 2) k
theorem XK {a:Int} (h:0≤a∧a≤255) (k:Nat):0≤a.fdiv (2 ^ k)∧a.fdiv (2 ^ k)≤255:=by
 have hp:(0:Int)<2 ^ k:=by
  have:=Nat.pow_pos (n:=k) (show 0<2 by decide)
  exact_mod_cast this
 rw [Int.fdiv_eq_ediv_of_nonneg _ (Int.le_of_lt hp)];refine ⟨Int.ediv_nonneg h.1 (Int.le_of_lt hp),Int.le_trans (Int.ediv_le_self _ h.1) h.2⟩
end
theorem OH {p:List Int} (hp:∀i,0≤p.getD i 0∧p.getD i 0≤65535) (k:Int) (i:Nat):0≤(if k<(p.length:Int) then p.getD i 0 else 0)∧(if k<(p.length:Int) then p.getD i 0 else 0)≤65535:=by
 split
 ·exact hp i
 ·decide
theorem OI {ms:List AC} {m bits:Int} {k:Nat} (h:(ms.getD k AC.z).kind=0) (h2:bits.fdiv (2 ^ k)%2=1) (h3:((A4 ms m bits k).length:Int)<m):A4 ms m bits (k+1)=A4 ms m bits k++[(k:Int)]:=by
 conv=>lhs;unfold A4
 rw [if_pos ⟨h,h2,h3⟩]
theorem OJ {ms:List AC} {m bits:Int} {k:Nat} (h:¬(((ms.getD k AC.z).kind=0∧bits.fdiv (2 ^ k)%2=1)∧((A4 ms m bits k).length:Int)<m)):A4 ms m bits (k+1)=A4 ms m bits k:=by
 conv=>lhs;unfold A4
 rw [if_neg (fun q=>h ⟨⟨q.1,q.2.1⟩,q.2.2⟩)]
theorem La (ms:List AC) (m bits:Int):∀k,(A4 ms m bits k).length≤k
 | 0=>Nat.le_refl _
 | k+1=>by
  have:=La ms m bits k
  unfold A4;split <;> simp <;> omega
section
variable {d m:Int} {gs:List Good} {ms:List AC} {cs:List AH} {f y l:List Int}
theorem fit_ok (h:Un d m gs ms cs=true):BE d m gs ms cs∧∀k,(gs.getD k Good.z).name.size≤1000:=by
 unfold Un at h;rw [Bool.and_eq_true] at h;exact ⟨Ik (of_decide_eq_true h.2),LZ h.1⟩
theorem Rj (h:Ak d m gs ms cs f y l=0):(CP d m gs ms cs f y l).length=gs.length:=by unfold CP;rw [if_pos h];simp
theorem TA (h:Ak d m gs ms cs f y l=0):(DK d m gs ms cs f y l).length=gs.length:=by unfold DK;rw [if_pos h];simp
end
end Go.Ns
namespace Go.Ns
open Go.Conc
theorem OK {a b:List Int} {k:Nat} (hk:k≤a.length) (hkb:k≤b.length) (h:¬((k:Int)<a.length∧(k:Int)<b.length)):(Fy a b (a.length-k) k<0)↔(a.length:Int)<b.length:=by
 by_cases hA:(k:Int)<a.length
 ·rw [GG (by omega),if_pos (by omega)];omega
 ·rw [JL (k:=k) hA];split <;> omega
theorem QG {a b:List Int} {k:Nat} (hk:k<a.length) (hkb:k<b.length) (h:¬a.getD k 0=b.getD k 0):(Fy a b (a.length-k) k<0)↔a.getD k 0<b.getD k 0:=by
 rw [GG hk,if_neg (by omega)];unfold M2;split
 ·simp_all
 ·split <;> simp_all <;> omega
theorem XL {a b:List Int} {k:Nat} (hk:k<a.length) (hkb:k<b.length) (h:¬¬a.getD k 0=b.getD k 0):Fy a b (a.length-k) k=Fy a b (a.length-(k+1)) (k+1):=by
 have e:=Decidable.not_not.1 h;rw [GG hk,if_neg (by omega),if_neg (by unfold M2;rw [e];simp)]
section
variable {P:Program} {E:HI P} {σ:Nat→Value} {ds:List Deferred} {h:GH} {T:(Nat→Value)→List Deferred→GH→Prop} {dst:Option Nat} {ty:TypeId} {pos:String} {af:Array Edge} {gd:Option (Nat×Bool)}
end
end Go.Ns
namespace Go.Ns
open Go.Conc Go Go.RowKit
def Lb (l:List Int):Nat:=l.length*100000+(l.foldl (fun n x=>10*n+x.toNat) 0)
theorem OL:∀(l:List (List Int)) (c:List Int),(∀x ∈ c ::l,∀y ∈ c ::l,FF x y=decide (Lb x<Lb y))→GZ c l ∈ c ::l∧∀x ∈ c ::l,Lb (GZ c l)≤Lb x
 | [],c,_=>⟨List.mem_cons_self ..,fun x hx=>by
  rcases List.mem_cons.1 hx with rfl | q
  ·exact Nat.le_refl _
  ·cases q⟩
 | a ::l,c,H=>by
  have e:GZ c (a ::l)=GZ (D6 a c) l:=rfl;have hs:D6 a c=a∨D6 a c=c:=by unfold D6;split <;> simp
  have hm:∀x ∈ D6 a c ::l,x ∈ c ::a ::l:=fun x hx=>by
   rcases List.mem_cons.1 hx with rfl | q
   ·rcases hs with q | q <;> rw [q] <;> simp
   ·simp [q]
  obtain ⟨h1,h2⟩:=OL l (D6 a c) fun x hx y hy=>H x (hm x hx) y (hm y hy);have hk:Lb (D6 a c)≤Lb a∧Lb (D6 a c)≤Lb c:=by
   have:=H a (by simp) c (by simp)
   unfold D6;by_cases q:FF a c=true
   ·rw [if_pos q];rw [this] at q;have:=of_decide_eq_true q;omega
   ·rw [if_neg q];rw [this] at q;simp only [decide_eq_true_eq] at q;omega
  rw [e];refine ⟨hm _ h1,fun x hx=>?_⟩;have h0:=h2 _ (List.mem_cons_self ..);rcases List.mem_cons.1 hx with rfl | q
  ·omega
  ·rcases List.mem_cons.1 q with rfl | q
   ·omega
   ·exact h2 x (List.mem_cons_of_mem _ q)
section
variable {d m:Int} {gs:List Good} {ms:List AC} {cs:List AH}
end
section
variable {P:Program} {E:HI P} {σ:Nat→Value} {ds:List Deferred} {h:GH} {T:(Nat→Value)→List Deferred→GH→Prop} {dst:Option Nat} {ty:TypeId} {pos:String} {af:Array Edge} {gd:Option (Nat×Bool)}
end
end Go.Ns
namespace Go.Ns
open Go.Conc Go Go.RowKit
theorem H3 {p q:AW}:∀{n:Nat},(∀k,k<n→p.lies k=q.lies k)→Aw p n=Aw q n
 | 0,_=>rfl
 | n+1,h=>by unfold Aw;rw [H3 fun k hk=>h k (by omega),h n (by omega)]
theorem Iu (p:AW):∀{i n:Nat},i≤n→Aw p i≤Aw p n
 | i,0,h=>by rw [show i=0 by omega];exact Nat.le_refl _
 | i,n+1,h=>by
  by_cases e:i=n+1
  ·rw [e];exact Nat.le_refl _
  ·have:=Iu p (i:=i) (n:=n) (by omega)
   have h2:Aw p (n+1)=Aw p n+if p.lies n then 1 else 0:=rfl
   omega
theorem Gf {p:AW}:∀{i n:Nat},(∀k,i≤k→k<n→p.lies k=false)→i≤n→Aw p n=Aw p i
 | i,0,_,h=>by rw [show i=0 by omega]
 | i,n+1,h0,h=>by
  by_cases e:i=n+1
  ·rw [e]
  ·have h2:Aw p (n+1)=Aw p n+if p.lies n then 1 else 0:=rfl
   rw [h2,h0 n (by omega) (by omega),Gf (fun k hk hk'=>h0 k hk (by omega)) (by omega)];rfl
theorem Mk {p:AW} {i:Nat} {n:Int} (h:p.lies i=false):∀k,Aw (p.setMove i n true) k=Aw p k+if i<k then 1 else 0
 | 0=>rfl
 | k+1=>by
  have h1:Aw (p.setMove i n true) (k+1)=Aw (p.setMove i n true) k+if (p.setMove i n true).lies k then 1 else 0:=rfl
  have h2:Aw p (k+1)=Aw p k+if p.lies k then 1 else 0:=rfl
  have h3:(p.setMove i n true).lies k=if k=i then true else p.lies k:=rfl
  rw [h1,h2,h3,Mk h k];by_cases e:k=i
  ·subst e;have e3:¬k<k:=by omega
   have e4:k<k+1:=by omega
   simp [h,e3,e4]
  ·rw [if_neg e];by_cases e2:i<k
   ·have e4:i<k+1:=by omega
    simp only [e2,e4,if_true];omega
   ·have e4:¬i<k+1:=by omega
    simp only [e2,e4,if_false];omega
theorem JW (p:AW):∀n,((List.range n).filter p.lies).length=Aw p n
 | 0=>rfl
 | n+1=>by
  rw [List.range_succ,List.filter_append,List.length_append,JW p n];have h2:Aw p (n+1)=Aw p n+if p.lies n then 1 else 0:=rfl
  rw [h2];by_cases e:p.lies n=true
  ·simp [e]
  ·simp [e]
structure TB (gs:List Good) (ms:List AC) (mo:Int) (p:AW):Prop where
 first:∀i,i<gs.length→(gs.getD i Good.z).low≤p.first i∧p.first i≤(gs.getD i Good.z).high
 many:∀i,i<ms.length→(ms.getD i AC.z).low≤p.many i∧p.many i≤(ms.getD i AC.z).high
 note:∀i,i<ms.length→p.lies i=true→Cw ms i=true
 few:(Aw p ms.length:Int)≤mo
theorem H4 {ag:AW→Bool} {ms:List AC} {mo:Int} (h6:ms.length≤6):∀(f i:Nat) (p q:AW),i+f=ms.length→(∀k,i≤k→p.lies k=false)→(Aw p 6:Int)≤mo→q ∈ A9 ag ms mo f i p→
  ag q=true∧q.first=p.first∧(∀k,k<i→q.many k=p.many k∧q.lies k=p.lies k)∧(∀k,i≤k→k<ms.length→(ms.getD k AC.z).low≤q.many k∧q.many k≤(ms.getD k AC.z).high∧(q.lies k=true→Cw ms k=true))∧(Aw q 6:Int)≤mo
 | 0,i,p,q,e,_,hl,h=>by
  unfold A9 at h;split at h
  ·rename_i ha
   rw [List.mem_singleton] at h;subst h;exact ⟨ha,rfl,fun _ _=>⟨rfl,rfl⟩,fun k h1 h2=>by omega,hl⟩
  ·cases h
 | f+1,i,p,q,e,hz,hl,h=>by
  rw [Cx,List.mem_flatMap] at h;obtain ⟨n,hn,h⟩:=h;rw [HB] at hn;have hlf:∀k,i+1≤k→(p.setMove i n false).lies k=false:=fun k hk=>by
   show (if k=i then false else p.lies k)=false;split
   ·rfl
   ·exact hz k (by omega)
  have hcf:Aw (p.setMove i n false) 6=Aw p 6:=H3 fun k _=>by
   show (if k=i then false else p.lies k)=p.lies k;split
   ·rename_i e2;rw [e2,hz i (Nat.le_refl _)]
   ·rfl
  unfold Bq at h;rw [List.mem_append] at h;rcases h with h | h
  ·obtain ⟨a1,a2,a3,a4,a5⟩:=H4 h6 f (i+1) _ q (by omega) hlf (by rw [hcf];exact hl) h;refine ⟨a1,a2,fun k hk=>?_,fun k h1 h2=>?_,a5⟩
   ·have:=a3 k (by omega)
    rw [this.1,this.2];exact ⟨show (if k=i then n else p.many k)=_ from if_neg (by omega),show (if k=i then false else p.lies k)=_ from if_neg (by omega)⟩
   ·by_cases e2:k=i
    ·subst e2
     have:=a3 k (by omega)
     have g1:(p.setMove k n false).many k=n:=if_pos rfl;have g2:(p.setMove k n false).lies k=false:=if_pos rfl;rw [this.1,this.2,g1,g2];exact ⟨hn.1,hn.2,fun q=>by cases q⟩
    ·exact a4 k (by omega) h2
  ·split at h
   ·rename_i hc
    rw [Bool.and_eq_true] at hc;have hlt:=of_decide_eq_true hc.2;have hct:Aw (p.setMove i n true) 6=Aw p 6+1:=by rw [Mk (hz i (Nat.le_refl _)),if_pos (by omega)]
    have hlt2:∀k,i+1≤k→(p.setMove i n true).lies k=false:=fun k hk=>by
     show (if k=i then true else p.lies k)=false;rw [if_neg (by omega)];exact hz k (by omega)
    obtain ⟨a1,a2,a3,a4,a5⟩:=H4 h6 f (i+1) _ q (by omega) hlt2 (by rw [hct];omega) h;refine ⟨a1,a2,fun k hk=>?_,fun k h1 h2=>?_,a5⟩
    ·have:=a3 k (by omega)
     rw [this.1,this.2];exact ⟨show (if k=i then n else p.many k)=_ from if_neg (by omega),show (if k=i then true else p.lies k)=_ from if_neg (by omega)⟩
    ·by_cases e2:k=i
     ·subst e2
      have:=a3 k (by omega)
      have g1:(p.setMove k n true).many k=n:=if_pos rfl;rw [this.1,g1];exact ⟨hn.1,hn.2,fun _=>hc.1⟩
     ·exact a4 k (by omega) h2
   ·cases h
theorem KE {ag:AW→Bool} {gs:List Good} {ms:List AC} {mo:Int} (h6:ms.length≤6) (h0:0≤mo):∀(f i:Nat) (p q:AW),i+f=gs.length→(∀k,p.lies k=false)→q ∈ BU ag gs ms mo f i p→
  ag q=true∧(∀k,k<i→q.first k=p.first k)∧(∀k,i≤k→k<gs.length→(gs.getD k Good.z).low≤q.first k∧q.first k≤(gs.getD k Good.z).high)∧(∀k,k<ms.length→(ms.getD k AC.z).low≤q.many k∧q.many k≤(ms.getD k AC.z).high∧(q.lies k=true→Cw ms k=true))∧(Aw q 6:Int)≤mo
 | 0,i,p,q,e,hz,h=>by
  have hl:(Aw p 6:Int)≤mo:=by
   rw [Gf (i:=0) (fun k _ _=>hz k) (Nat.zero_le _)];exact h0
  obtain ⟨a1,a2,_,a4,a5⟩:=H4 h6 ms.length 0 p q (by omega) (fun k _=>hz k) hl h;exact ⟨a1,fun k _=>by rw [a2],fun k h1 h2=>by omega,fun k hk=>a4 k (Nat.zero_le _) hk,a5⟩
 | f+1,i,p,q,e,hz,h=>by
  rw [Da,List.mem_flatMap] at h;obtain ⟨n,hn,h⟩:=h;rw [HB] at hn;obtain ⟨a1,a2,a3,a4,a5⟩:=KE h6 h0 f (i+1) (p.setFirst i n) q (by omega) hz h;refine ⟨a1,fun k hk=>?_,fun k h1 h2=>?_,a4,a5⟩
  ·rw [a2 k (by omega)];exact if_neg (by omega)
  ·by_cases e2:k=i
   ·subst e2;rw [a2 k (by omega)];have g1:(p.setFirst k n).first k=n:=if_pos rfl;rw [g1];exact hn
   ·exact a3 k (by omega) h2
theorem MA {d:Int} {gs:List Good} {ms:List AC} {cs:List AH} {mo:Int} (h6:ms.length≤6) (h0:0≤mo) {q:AW} (h:q ∈ AV d gs ms cs mo):TB gs ms mo q∧A7 d gs.length ms cs q=true:=by
 obtain ⟨a1,_,a3,a4,a5⟩:=KE h6 h0 gs.length 0 AW.zero q (by omega) (fun _=>rfl) h;refine ⟨⟨fun i hi=>a3 i (Nat.zero_le _) hi,fun i hi=>⟨(a4 i hi).1,(a4 i hi).2.1⟩,fun i hi=>(a4 i hi).2.2,?_⟩,a1⟩
 have:=Iu q h6
 omega
def Gq (p:AW) (i j:Nat):AW:=⟨fun k=>if k<i then p.first k else 0,fun k=>if k<j then p.many k else 0,fun k=>if k<j then p.lies k else false⟩
theorem QH (p:AW) (i j:Nat):(Gq p i j).setMove j (p.many j) (p.lies j)=Gq p i (j+1):=by
 unfold Gq AW.setMove AW.setMany AW.setLie;congr 1
 ·funext k;show (if k=j then p.many j else if k<j then p.many k else 0)=if k<j+1 then p.many k else 0
  by_cases e:k=j
  ·rw [if_pos e,e,if_pos (by omega)]
  ·rw [if_neg e];by_cases e2:k<j
   ·rw [if_pos e2,if_pos (by omega)]
   ·rw [if_neg e2,if_neg (by omega)]
 ·funext k;show (if k=j then p.lies j else if k<j then p.lies k else false)=if k<j+1 then p.lies k else false
  by_cases e:k=j
  ·rw [if_pos e,e,if_pos (by omega)]
  ·rw [if_neg e];by_cases e2:k<j
   ·rw [if_pos e2,if_pos (by omega)]
   ·rw [if_neg e2,if_neg (by omega)]
theorem Uq (p:AW) (i:Nat):(Gq p i 0).setFirst i (p.first i)=Gq p (i+1) 0:=by
 unfold Gq AW.setFirst;congr 1;funext k;show (if k=i then p.first i else if k<i then p.first k else 0)=if k<i+1 then p.first k else 0
 by_cases e:k=i
 ·rw [if_pos e,e,if_pos (by omega)]
 ·rw [if_neg e];by_cases e2:k<i
  ·rw [if_pos e2,if_pos (by omega)]
  ·rw [if_neg e2,if_neg (by omega)]
theorem Lc {ag:AW→Bool} {gs:List Good} {ms:List AC} {mo:Int} (h6:ms.length≤6) {p:AW} (L:TB gs ms mo p) (ha:ag (Gq p gs.length ms.length)=true):∀(f i:Nat),i+f=ms.length→Gq p gs.length ms.length ∈ A9 ag ms mo f i (Gq p gs.length i)
 | 0,i,e=>by
  rw [show i=ms.length by omega];unfold A9;rw [if_pos ha];exact List.mem_singleton.2 rfl
 | f+1,i,e=>by
  rw [Cx,List.mem_flatMap];refine ⟨p.many i,HB.2 (L.many i (by omega)),?_⟩;have ih:=Lc h6 L ha f (i+1) (by omega);unfold Bq;rw [List.mem_append];cases hli:p.lies i with
  | false=>
   left
   have:=QH p gs.length i
   rw [hli] at this;rw [this];exact ih
  | true=>
   right;have hlie:Aw ((Gq p gs.length i).setMove i (p.many i) false) 6=Aw p i:=by
    rw [Gf (i:=i) (fun k h1 h2=>?_) (by omega)]
    ·refine H3 fun k hk=>?_;show (if k=i then false else if k<i then p.lies k else false)=_;rw [if_neg (by omega),if_pos hk]
    ·show (if k=i then false else if k<i then p.lies k else false)=_;split
     ·rfl
     ·rw [if_neg (by omega)]
   have h1:Aw p (i+1)=Aw p i+1:=by
    show Aw p i+(if p.lies i then 1 else 0)=_;rw [hli];rfl
   have h2:=Iu p (i:=i+1) (n:=ms.length) (by omega);have h3:=L.few;rw [if_pos (by rw [Bool.and_eq_true];exact ⟨L.note i (by omega) hli,decide_eq_true (by rw [hlie];omega)⟩)]
   have:=QH p gs.length i
   rw [hli] at this;rw [this];exact ih
theorem Iv {ag:AW→Bool} {gs:List Good} {ms:List AC} {mo:Int} (h6:ms.length≤6) {p:AW} (L:TB gs ms mo p) (ha:ag (Gq p gs.length ms.length)=true):∀(f i:Nat),i+f=gs.length→Gq p gs.length ms.length ∈ BU ag gs ms mo f i (Gq p i 0)
 | 0,i,e=>by
  rw [show i=gs.length by omega];exact Lc h6 L ha ms.length 0 (by omega)
 | f+1,i,e=>by
  rw [Da,List.mem_flatMap];refine ⟨p.first i,HB.2 (L.first i (by omega)),?_⟩;rw [Uq];exact Iv h6 L ha f (i+1) (by omega)
theorem KF {ms ms':List AC} {p p':AW} {g dy:Int} (hlen:ms.length=ms'.length) (hm:∀k,(ms.getD k AC.z).day=(ms'.getD k AC.z).day∧(ms.getD k AC.z).good=(ms'.getD k AC.z).good∧(ms.getD k AC.z).kind=(ms'.getD k AC.z).kind)
  (hr:∀k,k<ms.length→Bz p k=Bz p' k):∀(f k:Nat) (n low:Int),k+f=ms.length→Ce ms p g dy f k n low=Ce ms' p' g dy f k n low
 | 0,_,_,_,_=>rfl
 | f+1,k,n,low,e=>by
  unfold Ce;rw [(hm k).1];have h1:Fo ms p g k n=Fo ms' p' g k n:=by unfold Fo;rw [(hm k).2.1,(hm k).2.2,hr k (by omega)]
  have h2:∀n,Ej ms k low n=Ej ms' k low n:=fun n=>by unfold Ej;rw [(hm k).1,(hm (k+1)).1,hlen]
  rw [h1,h2,KF hlen hm hr f (k+1) _ _ (by omega)]
theorem Iw {ms ms':List AC} {p p':AW} {g dy:Int} (hlen:ms.length=ms'.length) (hm:∀k,(ms.getD k AC.z).day=(ms'.getD k AC.z).day∧(ms.getD k AC.z).good=(ms'.getD k AC.z).good∧(ms.getD k AC.z).kind=(ms'.getD k AC.z).kind)
  (hr:∀k,k<ms.length→Bz p k=Bz p' k) (hf:p.first g.toNat=p'.first g.toNat):AM ms p g dy=AM ms' p' g dy:=by
 unfold AM;rw [hf,←hlen];exact KF hlen hm hr _ _ _ _ (by omega)
theorem OM {d:Int} {ng:Nat} {ms ms':List AC} {cs:List AH} {p p':AW} (h:A7 d ng ms cs p=true) (h1:∀j,j<ng→(AM ms' p' (j:Int) d).2=(AM ms p (j:Int) d).2) (h2:∀x ∈ cs,(AM ms' p' x.good x.day).1=(AM ms p x.good x.day).1):A7 d ng ms' cs p'=true:=by
 unfold A7 at h ⊢;rw [Bool.and_eq_true] at h ⊢;refine ⟨decide_eq_true fun j hj=>by rw [h1 j hj];exact of_decide_eq_true h.1 j hj,?_⟩;have h3:=h.2;rw [Bool.not_eq_true',List.any_eq_false] at h3 ⊢;intro x hx
 have:=h3 x hx
 rw [h2 x hx];exact this
theorem QI (p:AW) {i j k:Nat} (h:k<j):Bz (Gq p i j) k=Bz p k:=by
 unfold Bz Gq;simp only [];rw [if_pos h,if_pos h]
theorem ZP {d m:Int} {gs:List Good} {ms:List AC} {cs:List AH} {mo:Int} (b:BE d m gs ms cs) {p:AW} (L:TB gs ms mo p) (ha:A7 d gs.length ms cs p=true):AV d gs ms cs mo≠[]:=fun e=>by
 have h2:A7 d gs.length ms cs (Gq p gs.length ms.length)=true:=OM ha
  (fun j hj=>by rw [Iw rfl (fun _=>⟨rfl,rfl,rfl⟩) (fun k hk=>QI p hk) (show (if (j:Int).toNat<gs.length then _ else _)=_ from if_pos (by omega))])
  (fun x hx=>by
   obtain ⟨i,hi,e2⟩:=List.getElem_of_mem hx;have hc:=b.count i hi;unfold Ei at hc;rw [Cj AH.z hi,e2] at hc;have hg:0≤x.good∧x.good≤(gs.length:Int)-1:=by
    apply Decidable.byContradiction;intro q;rw [if_pos q] at hc;cases hc
   rw [Iw rfl (fun _=>⟨rfl,rfl,rfl⟩) (fun k hk=>QI p hk) (show (if x.good.toNat<gs.length then _ else _)=_ from if_pos (by omega))])
 have:=Iv (ag:=A7 d gs.length ms cs) b.mlen L h2 gs.length 0 (by omega)
 have e3:Gq p 0 0=AW.zero:=by unfold Gq AW.zero;congr 1 <;> (funext k;exact if_neg (by omega))
 rw [e3] at this;have e4:BU (A7 d gs.length ms cs) gs ms mo gs.length 0 AW.zero=[]:=e;rw [e4] at this;cases this
end Go.Ns
namespace Go.Ns
open Go.Conc Go Go.RowKit
def bls:Nat→List (List Bool)
 | 0=>[[]]
 | n+1=>(bls n).flatMap fun l=>[l++[false],l++[true]]
def chk5:Bool:=(List.range 7).all fun n=>(bls n).all fun l=>(List.range (2 ^ n)).any fun (mask:Nat)=>(List.range n).map (FD (mask:Int))==l
theorem XM:chk5=true:=by kernel_rfl
theorem WY (f:Nat→Bool):∀n,(List.range n).map f ∈ bls n
 | 0=>List.mem_singleton.2 rfl
 | n+1=>by
  rw [List.range_succ,List.map_append];refine List.mem_flatMap.2 ⟨_,WY f n,?_⟩;cases h:f n <;> simp [h]
theorem mask_of {n:Nat} (hn:n≤6) (f:Nat→Bool):∃mask:Nat,mask<2 ^ n∧∀i,i<n→FD (mask:Int) i=f i:=by
 have h:=XM;unfold chk5 at h;rw [List.all_eq_true] at h;have h2:=List.all_eq_true.1 (h n (List.mem_range.2 (by omega))) _ (WY f n);obtain ⟨y,hy,e⟩:=List.any_eq_true.1 h2;refine ⟨y,List.mem_range.1 hy,fun i hi=>?_⟩;have e2:=eq_of_beq e
 have:=congrArg (fun l:List Bool=>l.getD i false) e2
 simpa [List.getD_eq_getElem?_getD,List.getElem?_range hi] using this
theorem QJ {mask:Int} {n k:Nat}:(k:Int) ∈ BH mask n↔k<n∧FD mask k=true:=by
 unfold BH;rw [List.mem_map];constructor
 ·rintro ⟨i,hi,e⟩
  have:i=k:=by omega
  subst this
  have:=List.mem_filter.1 hi
  exact ⟨List.mem_range.1 this.1,this.2⟩
 ·rintro ⟨h1,h2⟩;exact ⟨k,List.mem_filter.2 ⟨List.mem_range.2 h1,h2⟩,rfl⟩
theorem QK {mask:Int} {n:Nat} {x:Int} (h:x ∈ BH mask n):∃k:Nat,x=(k:Int)∧k<n∧FD mask k=true:=by
 unfold BH at h;obtain ⟨i,hi,rfl⟩:=List.mem_map.1 h
 have:=List.mem_filter.1 hi
 exact ⟨i,rfl,List.mem_range.1 this.1,this.2⟩
theorem ZQ {mask:Int} {n:Nat}:(BH mask n).Pairwise (· < ·):=by
 unfold BH;rw [List.pairwise_map]
 have:(List.range n).Pairwise (fun a b:Nat=>(a:Int)<(b:Int)):=(List.pairwise_lt_range (n:=n)).imp fun {a b} h=>by omega
 exact this.sublist List.filter_sublist
theorem JX:∀(l:List Int) (ms:List AC) (k:Nat),(∀x ∈ l,0≤x)→k<ms.length→(Cs ms l).getD k AC.z=if (k:Int) ∈ l then { ms.getD k AC.z with low:=0,high:=0 } else ms.getD k AC.z
 | [],ms,k,_,_=>by simp [Cs]
 | i ::l,ms,k,h,hk=>by
  have h1:Cs ms (i ::l)=Cs (clearAt ms i.toNat) l:=rfl;have hi:=h i (by simp);rw [h1,JX l (clearAt ms i.toNat) k (fun x hx=>h x (by simp [hx])) (by rw [F1];exact hk)];have e:(clearAt ms i.toNat).getD k AC.z=if i.toNat=k then { ms.getD k AC.z with low:=0,high:=0 } else ms.getD k AC.z:=by
   unfold clearAt;rw [List.getD_eq_getElem?_getD,List.getElem?_set];by_cases q:i.toNat=k
   ·rw [if_pos q,if_pos q,q,if_pos hk];rfl
   ·rw [if_neg q,if_neg q,List.getD_eq_getElem?_getD]
  rw [e];by_cases q:i.toNat=k
  ·have hm:(k:Int) ∈ i ::l:=by rw [←q,Int.toNat_of_nonneg hi];simp
   rw [if_pos q,if_pos hm];split <;> rfl
  ·have hm:((k:Int) ∈ i ::l)↔(k:Int) ∈ l:=by
    rw [List.mem_cons];constructor
    ·rintro (r | r)
     ·omega
     ·exact r
    ·exact .inr
   rw [if_neg q];by_cases r:(k:Int) ∈ l
   ·rw [if_pos r,if_pos (hm.2 r)]
   ·rw [if_neg r,if_neg (fun s=>r (hm.1 s))]
theorem TC {l:List Int} {ms:List AC} (h:∀x ∈ l,0≤x) (k:Nat):((Cs ms l).getD k AC.z).day=(ms.getD k AC.z).day∧((Cs ms l).getD k AC.z).good=(ms.getD k AC.z).good∧((Cs ms l).getD k AC.z).kind=(ms.getD k AC.z).kind:=by
 by_cases hk:k<ms.length
 ·rw [JX l ms k h hk];split <;> exact ⟨rfl,rfl,rfl⟩
 ·rw [D4 (by rw [GV];omega),D4 (by omega)];exact ⟨rfl,rfl,rfl⟩
section
variable {d m:Int} {gs:List Good} {ms:List AC} {cs:List AH}
theorem Ur {i:Nat} (hi:i<ms.length):Cw ms (i:Int)=true↔(ms.getD i AC.z).kind=0:=by
 unfold Cw;rw [decide_eq_true_eq,Int.toNat_natCast];exact ⟨fun h=>h.2,fun h=>⟨⟨by omega,by omega⟩,h⟩⟩
theorem Ml {x:List Int}:x ∈ DD d gs ms cs (2 ^ ms.length)↔∃mask:Nat,mask<2 ^ ms.length∧x=BH (mask:Int) ms.length∧(∀i,i<ms.length→FD (mask:Int) i=true→Cw ms (i:Int)=true)∧AV d gs (Cs ms x) cs 0≠[]:=by
 unfold DD;rw [List.mem_filterMap];have hall:∀k:Nat,Ew ms (k:Int) ms.length=true↔∀i,i<ms.length→FD (k:Int) i=true→Cw ms (i:Int)=true:=fun k=>by
  unfold Ew;rw [List.all_eq_true];constructor
  ·intro h i hi hb
   have:=h i (List.mem_range.2 hi)
   rw [hb] at this;simpa using this
  ·intro h i hi;cases hb:FD (k:Int) i with
   | false=>rfl
   | true=>simpa using h i (List.mem_range.1 hi) hb
 constructor
 ·rintro ⟨k,hk,e⟩;unfold EW at e;split at e
  ·rename_i ha
   split at e
   ·cases e
   ·rename_i hh
    cases e;exact ⟨k,List.mem_range.1 hk,rfl,(hall k).1 ha,hh⟩
  ·cases e
 ·rintro ⟨k,hk,rfl,ha,hh⟩;refine ⟨k,List.mem_range.2 hk,?_⟩;unfold EW;rw [if_pos ((hall k).2 ha),if_neg hh]
theorem XN (b:BE d m gs ms cs) {mo:Int} (h0:0≤mo) {q:AW} (hq:q ∈ AV d gs ms cs mo):∃mask:Nat,mask<2 ^ ms.length∧(∀k:Nat,(k:Int) ∈ BH (mask:Int) ms.length↔k<ms.length∧q.lies k=true)∧BH (mask:Int) ms.length ∈ DD d gs ms cs (2 ^ ms.length):=by
 obtain ⟨L,ha⟩:=MA b.mlen h0 hq;obtain ⟨mask,hmask,hbit⟩:=mask_of b.mlen q.lies;have hx0:∀x ∈ BH (mask:Int) ms.length,0≤x:=fun x hx=>by obtain ⟨k,rfl,_⟩:=QK hx;omega
 have hmem:∀k,k<ms.length→((k:Int) ∈ BH (mask:Int) ms.length↔q.lies k=true):=fun k hk=>by
  rw [QJ,hbit k hk];exact ⟨fun h=>h.2,fun h=>⟨hk,h⟩⟩
 refine ⟨mask,hmask,fun k=>⟨fun hk=>?_,fun hk=>(hmem k hk.1).2 hk.2⟩,Ml.2 ⟨mask,hmask,rfl,fun i hi hb=>L.note i hi (by rw [←hbit i hi];exact hb),?_⟩⟩
 ·have:=(QJ.1 hk).1;exact ⟨this,(hmem k this).1 hk⟩
 ·refine ZP (p:=⟨q.first,fun k=>if q.lies k then 0 else q.many k,fun _=>false⟩) (BE.clear (l:=BH (mask:Int) ms.length) b) ⟨L.first,fun i hi=>?_,fun i hi e=>(by cases e),?_⟩ ?_
  ·rw [GV] at hi;rw [JX _ _ _ hx0 hi];show _≤(if q.lies i then 0 else q.many i)∧(if q.lies i then 0 else q.many i)≤_;by_cases e:q.lies i=true
   ·rw [if_pos ((hmem i hi).2 e),if_pos e];exact ⟨Int.le_refl _,Int.le_refl _⟩
   ·rw [if_neg (fun r=>e ((hmem i hi).1 r)),if_neg e];exact L.many i hi
  ·rw [Gf (i:=0) (fun _ _ _=>rfl) (Nat.zero_le _)];exact Int.le_refl 0
  ·have hs:∀g dy,AM (Cs ms (BH (mask:Int) ms.length)) ⟨q.first,fun k=>if q.lies k then 0 else q.many k,fun _=>false⟩ g dy=AM ms q g dy:=fun g dy=>
    Iw (GV ms _) (TC hx0) (fun k hk=>by unfold Bz;rfl) rfl
   exact OM ha (fun j _=>by rw [hs]) (fun x _=>by rw [hs])
end
def Lf (ms:List AC) (p:AW) (g dy:Int) (k:Nat):Int:=if (ms.getD k AC.z).day≤dy then Re ms p g k else 0
theorem TE {F:Nat→Int}:∀{l:List Nat},(∀i ∈ l,F i=0)→(l.map F).sum=0
 | [],_=>rfl
 | i ::l,h=>by rw [List.map_cons,List.sum_cons,h i (by simp),TE fun j hj=>h j (by simp [hj])];rfl
theorem ON {F:Nat→Int} {q:Nat→Bool}:∀{l:List Nat},(∀i ∈ l,q i=false→F i=0)→(l.map F).sum=((l.filter q).map F).sum
 | [],_=>rfl
 | i ::l,h=>by
  have ih:=ON (F:=F) (q:=q) (l:=l) fun j hj=>h j (by simp [hj]);rw [List.map_cons,List.sum_cons,ih];cases e:q i with
  | true=>rw [List.filter_cons,if_pos e,List.map_cons,List.sum_cons]
  | false=>rw [List.filter_cons,if_neg (by rw [e];simp),h i (by simp) e];omega
theorem Lg {ms:List AC} {p:AW} {g dy:Int} (up:∀i j,i≤j→j<ms.length→(ms.getD i AC.z).day≤(ms.getD j AC.z).day):∀(f k:Nat) (n low:Int),k+f=ms.length→(Ce ms p g dy f k n low).1=n+((List.range' k f).map (Lf ms p g dy)).sum
 | 0,_,n,_,_=>by simp [Ce]
 | f+1,k,n,low,e=>by
  unfold Ce;by_cases h:dy<(ms.getD k AC.z).day
  ·rw [if_pos h,TE fun i hi=>?_]
   ·omega
   ·have:=List.mem_range'_1.1 hi
    have h2:=up k i this.1 (by omega);unfold Lf;rw [if_neg (by omega)]
  ·rw [if_neg h,Lg up f (k+1) _ _ (by omega),List.range'_succ,List.map_cons,List.sum_cons];have h1:Lf ms p g dy k=Re ms p g k:=by unfold Lf;rw [if_pos (by omega)]
   have hn:Fo ms p g k n=n+Re ms p g k:=by unfold Fo Re;split <;> omega
   rw [h1,hn];omega
theorem Is.le {ms:List AC} (h:Is ms):∀i j,i≤j→j<ms.length→(ms.getD i AC.z).day≤(ms.getD j AC.z).day:=fun i j hij hj=>by
 by_cases e:i=j
 ·rw [e];exact Int.le_refl _
 ·unfold Is at h;rw [List.pairwise_iff_getElem] at h;rw [Cj AC.z (by omega),Cj AC.z hj];exact h i j (by omega) hj (by omega)
theorem Mm {ms:List AC} (up:Is ms) (p:AW) (g dy:Int):(AM ms p g dy).1=p.first g.toNat+((List.range ms.length).map (Lf ms p g dy)).sum:=by
 unfold AM;rw [Lg up.le _ _ _ _ (by omega),List.range_eq_range']
section
variable {d m:Int} {gs:List Good} {ms:List AC} {cs:List AH}
end
end Go.Ns
namespace Go.Ns
open Go.Conc
theorem JY {x:Int}:∀(l acc:List Int),x ∈ acc∨x ∈ l→x ∈ l.foldl Gt acc
 | [],acc,h=>h.elim id fun h=>by cases h
 | y ::l,acc,h=>by
  refine JY l _ ?_;unfold Gt;rcases h with h | h
  ·left;split
   ·exact h
   ·exact List.mem_append_left _ h
  ·rcases List.mem_cons.1 h with rfl | h
   ·left;split
    ·rename_i e;exact List.mem_of_getLast? e
    ·exact List.mem_append_right _ (List.mem_singleton.2 rfl)
   ·exact .inr h
theorem I9:∀(l acc:List Int),l.Pairwise (·≤·)→acc.Pairwise (· < ·)→(∀a ∈ acc,∀x ∈ l,a≤x)→(l.foldl Gt acc).Pairwise (· < ·)
 | [],_,_,h,_=>h
 | y ::l,acc,hl,ha,hx=>by
  rw [List.pairwise_cons] at hl;refine I9 l _ hl.2 ?_ ?_
  ·unfold Gt;split
   ·exact ha
   ·rename_i hne
    rw [List.pairwise_append];refine ⟨ha,List.pairwise_singleton ..,fun a ha' b hb=>?_⟩;rw [List.mem_singleton] at hb;subst hb;have h1:=hx a ha' b List.mem_cons_self;rcases Int.lt_or_eq_of_le h1 with h2 | h2
    ·exact h2
    ·subst h2;exfalso;obtain ⟨z,hz⟩:∃z,acc.getLast? =some z:=by
      cases hq:acc.getLast? with
      | none=>rw [List.getLast?_eq_none_iff] at hq;subst hq;cases ha'
      | some z=>exact ⟨z,rfl⟩
     have hzm:=List.mem_of_getLast? hz;have h3:=hx z hzm a List.mem_cons_self;have h4:a≤z:=by
      obtain ⟨l0,hl0⟩:∃l0,acc=l0++[z]:=by
       rcases List.eq_nil_or_concat acc with e | ⟨l0,y0,e⟩
       ·subst e;cases hz
       ·subst e;simp at hz;subst hz;exact ⟨l0,by simp⟩
      subst hl0;rcases List.mem_append.1 ha' with q | q
      ·rw [List.pairwise_append] at ha;exact Int.le_of_lt (ha.2.2 a q z (List.mem_singleton.2 rfl))
      ·rw [List.mem_singleton] at q;omega
     exact hne (by rw [hz,show z=a by omega])
  ·intro a ha' x hx';unfold Gt at ha';split at ha'
   ·exact hx a ha' x (List.mem_cons_of_mem _ hx')
   ·rcases List.mem_append.1 ha' with q | q
    ·exact hx a q x (List.mem_cons_of_mem _ hx')
    ·rw [List.mem_singleton] at q;subst q;exact hl.1 x hx'
theorem QL {n:Nat} {f:Nat→Int} {x:Int}:x ∈ CJ n f↔∃i,i<n∧f i=x:=by
 refine ⟨Jn,fun ⟨i,hi,e⟩=>JY _ _ (.inr ?_)⟩;rw [JN];exact List.mem_mergeSort.2 (List.mem_map.2 ⟨i,List.mem_range.2 hi,e⟩)
theorem QM (n:Nat) (f:Nat→Int):(CJ n f).Pairwise (· < ·):=by
 refine I9 _ _ ?_ List.Pairwise.nil (fun a ha=>by cases ha);rw [JN]
 have:=List.pairwise_mergeSort (le:=fun x y:Int=>decide (x≤y)) (fun a b c h1 h2=>by simp at *;omega) (fun a b=>by simp;omega) ((List.range n).map f)
 exact this.imp fun h=>by simpa using h
theorem TF {l:List Int} (h:l.Pairwise (· < ·)) {i j:Nat} (hij:i≤j) (hj:j<l.length):l.getD i 0≤l.getD j 0:=by
 rcases Nat.lt_or_eq_of_le hij with q | rfl
 ·rw [Cj 0 hj,Cj 0 (by omega)];exact Int.le_of_lt (List.pairwise_iff_getElem.1 h i j (by omega) hj q)
 ·exact Int.le_refl _
theorem asc_ext {l l':List Int} (h:l.Pairwise (· < ·)) (h':l'.Pairwise (· < ·)) (e:∀x,x ∈ l↔x ∈ l'):l=l':=by
 induction l generalizing l' with
 | nil=>
  cases l' with
  | nil=>rfl
  | cons y l'=>exact absurd ((e y).2 List.mem_cons_self) (by simp)
 | cons x l ih=>
  cases l' with
  | nil=>exact absurd ((e x).1 List.mem_cons_self) (by simp)
  | cons y l'=>
   rw [List.pairwise_cons] at h h';have hxy:x=y:=by
    rcases List.mem_cons.1 ((e x).1 List.mem_cons_self) with q | q
    ·exact q
    ·rcases List.mem_cons.1 ((e y).2 List.mem_cons_self) with q' | q'
     ·exact q'.symm
     ·have h1:=h.1 y q';have h2:=h'.1 x q;omega
   subst hxy;congr 1;refine ih h.2 h'.2 fun z=>⟨fun hz=>?_,fun hz=>?_⟩
   ·rcases List.mem_cons.1 ((e z).1 (List.mem_cons_of_mem _ hz)) with rfl | q
    ·exact absurd (h.1 z hz) (by omega)
    ·exact q
   ·rcases List.mem_cons.1 ((e z).2 (List.mem_cons_of_mem _ hz)) with rfl | q
    ·exact absurd (h'.1 z hz) (by omega)
    ·exact q
theorem OO {n:Nat} (f:Nat→Int) (hn:0<n):(∀i,i<n→Bb (CJ n f)≤f i∧f i≤Cg (CJ n f))∧(∃i,i<n∧f i=Bb (CJ n f))∧∃i,i<n∧f i=Cg (CJ n f):=by
 have hp:=IG f hn;refine ⟨fun i hi=>?_,Jn (Cd (d:=0) hp),Jn (Cd (d:=0) (by omega))⟩;obtain ⟨k,hk,e⟩:=List.mem_iff_getElem.1 (QL.2 ⟨i,hi,rfl⟩);have e':(CJ n f).getD k 0=f i:=by rw [Cj 0 hk];exact e
 rw [←e'];exact ⟨TF (QM n f) (Nat.zero_le _) hk,TF (QM n f) (by omega) (by omega)⟩
section
variable {d m:Int} {gs:List Good} {ms:List AC} {cs:List AH}
theorem ZR {o:List Int} (h:∀x ∈ o,x=0):Do (fun k=>o.getD k 0) 0 o.length=0:=Ck (k:=o.length) (fun j hj=>h _ (Cd hj)) (Nat.le_refl _)
theorem HE (b:BE d m gs ms cs) {o:List Int} (h:∀x ∈ o,x=0):Ao d m gs ms cs o=if (AV d gs ms cs m).length=0 then 9 else 0:=by
 unfold Ao;rw [if_neg (by rw [Ge b];simp),if_neg (by rw [ZR h];simp)]
theorem XO (b:BE d m gs ms cs) {g x y:Int} (hg:0≤g∧g<gs.length) (hx:1≤x∧x≤d) (hy:x≤y∧y≤d):FK d m gs ms cs g x y=if (AV d gs ms cs m).length=0 then 9 else 0:=by
 refine HE b fun z hz=>?_;rw [if_pos (by simp;omega),if_pos (by simp;omega),if_pos (by simp;omega)] at hz;simp at hz;exact hz
end
end Go.Ns
namespace Go.Ns
open Go.Conc
section
variable {P:Program} {E:HI P} {σ:Nat→Value} {ds:List Deferred} {h:GH} {T:(Nat→Value)→List Deferred→GH→Prop}
variable {dst:Option Nat} {ty:TypeId} {pos:String} {af:Array Edge} {gd:Option (Nat×Bool)}
end
section
variable {d m:Int} {gs:List Good} {ms:List AC} {cs:List AH}
theorem Us (b:BE d m gs ms cs) {g r:Int} (hg:0≤g∧g<gs.length) (hr:1≤r∧r≤99):Eb d m gs ms cs g r=if (AV d gs ms cs m).length=0 then 9 else 0:=by
 refine HE b fun z hz=>?_;rw [if_pos (by simp;omega),if_pos (by simp;omega)] at hz;simp at hz;exact hz
end
end Go.Ns
namespace Go.Ns
open Go.Conc
section
variable {d m:Int} {gs:List Good} {ms:List AC} {cs:List AH}
theorem QN (b:BE d m gs ms cs) {g r:Int} (hg:0≤g∧g<gs.length) (hr:0≤r∧r≤d):F0 d m gs ms cs g r=if (AV d gs ms cs m).length=0 then 9 else 0:=by
 refine HE b fun z hz=>?_;rw [if_pos (by simp;omega),if_pos (by simp;omega)] at hz;simp at hz;exact hz
end
end Go.Ns
namespace Go.Ns
open Go.Conc
theorem JZ {ag:AW→Bool} {ms:List AC} {mo:Int}:∀(f i:Nat) (p q:AW),q ∈ A9 ag ms mo f i p→q.first=p.first∧∀k,k<i→q.many k=p.many k∧q.lies k=p.lies k
 | 0,i,p,q,h=>by
  unfold A9 at h;split at h
  ·rw [List.mem_singleton] at h;subst h;exact ⟨rfl,fun _ _=>⟨rfl,rfl⟩⟩
  ·cases h
 | f+1,i,p,q,h=>by
  rw [Cx,List.mem_flatMap] at h;obtain ⟨n,_,h⟩:=h;have key:∀b,q ∈ A9 ag ms mo f (i+1) (p.setMove i n b)→q.first=p.first∧∀k,k<i→q.many k=p.many k∧q.lies k=p.lies k:=fun b hb=>by
   obtain ⟨a1,a2⟩:=JZ f (i+1) _ q hb;refine ⟨a1,fun k hk=>?_⟩;obtain ⟨b1,b2⟩:=a2 k (by omega);exact ⟨b1.trans (if_neg (by omega)),b2.trans (if_neg (by omega))⟩
  unfold Bq at h;rcases List.mem_append.1 h with h | h
  ·exact key _ h
  ·split at h
   ·exact key _ h
   ·cases h
theorem KG {ag:AW→Bool} {ms:List AC} {mo:Int}:∀(f i:Nat) (p q:AW),q ∈ A9 ag ms mo f i p→∀k,i+f≤k→q.many k=p.many k∧q.lies k=p.lies k
 | 0,i,p,q,h,k,_=>by
  unfold A9 at h;split at h
  ·rw [List.mem_singleton] at h;subst h;exact ⟨rfl,rfl⟩
  ·cases h
 | f+1,i,p,q,h,k,hk=>by
  rw [Cx,List.mem_flatMap] at h;obtain ⟨n,_,h⟩:=h;have key:∀b,q ∈ A9 ag ms mo f (i+1) (p.setMove i n b)→q.many k=p.many k∧q.lies k=p.lies k:=fun b hb=>by
   obtain ⟨b1,b2⟩:=KG f (i+1) _ q hb k (by omega);exact ⟨b1.trans (if_neg (by omega)),b2.trans (if_neg (by omega))⟩
  unfold Bq at h;rcases List.mem_append.1 h with h | h
  ·exact key _ h
  ·split at h
   ·exact key _ h
   ·cases h
theorem KH {ag:AW→Bool} {gs:List Good} {ms:List AC} {mo:Int}:∀(f i:Nat) (p q:AW),q ∈ BU ag gs ms mo f i p→(∀k,i+f≤k→q.first k=p.first k)∧∀k,ms.length≤k→q.many k=p.many k∧q.lies k=p.lies k
 | 0,i,p,q,h=>⟨fun k _=>by rw [(JZ _ _ _ _ h).1],fun k hk=>KG _ _ _ _ h k (by omega)⟩
 | f+1,i,p,q,h=>by
  rw [Da,List.mem_flatMap] at h;obtain ⟨n,_,h⟩:=h;obtain ⟨a1,a2⟩:=KH f (i+1) _ q h;exact ⟨fun k hk=>(a1 k (by omega)).trans (if_neg (by omega)),a2⟩
theorem QO {d:Int} {gs:List Good} {ms:List AC} {cs:List AH} {mo:Int} {q:AW} (h:q ∈ AV d gs ms cs mo):Gq q gs.length ms.length=q:=by
 obtain ⟨a1,a2⟩:=KH _ _ _ _ h;cases q with
 | mk fi ma li=>
  simp only [Nat.zero_add] at a1 a2;unfold Gq;congr 1
  ·funext k;by_cases hk:k<gs.length
   ·exact if_pos hk
   ·exact (if_neg hk).trans (a1 k (by omega)).symm
  ·funext k;by_cases hk:k<ms.length
   ·exact if_pos hk
   ·exact (if_neg hk).trans (a2 k (by omega)).1.symm
  ·funext k;by_cases hk:k<ms.length
   ·exact if_pos hk
   ·exact (if_neg hk).trans (a2 k (by omega)).2.symm
theorem XP (p:AW):Gq p 0 0=AW.zero:=by
 unfold Gq AW.zero;congr 1
theorem MB {d:Int} {gs:List Good} {ms:List AC} {cs:List AH} {mo:Int} {q:AW} (h6:ms.length≤6) (h0:0≤mo) :
  q ∈ AV d gs ms cs mo↔TB gs ms mo q∧A7 d gs.length ms cs q=true∧Gq q gs.length ms.length=q:=
 ⟨fun h=>⟨(MA h6 h0 h).1,(MA h6 h0 h).2,QO h⟩,fun ⟨L,ha,e⟩=>by
  have h1:=Iv (ag:=A7 d gs.length ms cs) h6 L (by rw [e];exact ha) gs.length 0 (by omega);rw [e,XP] at h1;exact h1⟩
end Go.Ns
namespace Go.Ns
open Go.Conc
theorem BE.cgood' {d m:Int} {gs:List Good} {ms:List AC} {cs:List AH} (b:BE d m gs ms cs):∀x ∈ cs,0≤x.good∧x.good<(gs.length:Int):=fun x hx=>by
 obtain ⟨i,hi,e2⟩:=List.getElem_of_mem hx;have hc:=b.count i hi;unfold Ei at hc;rw [Cj AH.z hi,e2] at hc;have hg:0≤x.good∧x.good≤(gs.length:Int)-1:=by
  apply Decidable.byContradiction;intro q;rw [if_pos q] at hc;cases hc
 omega
theorem TG {hs:List AW} {F:AW→Int} {x:Int}:x ∈ CJ hs.length (fun (i:Nat)=>F (hs.getD ((i:Int)).toNat AW.zero))↔∃p ∈ hs,F p=x:=by
 rw [QL];constructor
 ·rintro ⟨i,hi,e⟩;exact ⟨_,Cd (show ((i:Int)).toNat<hs.length by omega),e⟩
 ·rintro ⟨p,hp,e⟩;obtain ⟨i,hi,e2⟩:=List.getElem_of_mem hp;refine ⟨i,hi,?_⟩;show F (hs.getD ((i:Int)).toNat AW.zero)=x;rw [show ((i:Int)).toNat=i by omega,Cj AW.zero hi,e2,e]
section
variable {d m:Int} {gs:List Good} {ms:List AC} {cs:List AH} {t:Nat}
end
section
variable {d m:Int} {gs:List Good} {ms:List AC} {cs:List AH} {t:Nat}
end
section
variable {d m:Int} {gs:List Good} {ms:List AC} {cs:List AH} {t:Nat}
theorem Ut (b:BE d m gs ms cs) {dy:Int} (hd:0≤dy∧dy≤d):Ea d m gs ms cs dy=if (AV d gs ms cs m).length=0 then 9 else 0:=by
 refine HE b fun z hz=>?_;rw [if_pos (by simp;omega)] at hz;simp at hz;exact hz
end
section
variable {d m:Int} {gs:List Good} {ms:List AC} {cs:List AH} {t:Nat}
end
end Go.Ns
namespace Go.Ns
open Go.Conc
theorem OP {α:Type} {l:List α} {x:α} (z:α) (h:x ∈ l):∃k,k<l.length∧l.getD k z=x:=by
 obtain ⟨k,hk,e⟩:=List.getElem_of_mem h;exact ⟨k,hk,by rw [List.getD_eq_getElem?_getD,List.getElem?_eq_getElem hk];exact e⟩
def HX (dy:Int) (t:List (Int×Int)):Int:=(t.map fun x=>if x.1≤dy then x.2 else 0).sum
theorem Ki (dy:Int) (x:Int×Int) (t:List (Int×Int)):HX dy (x ::t)=(if x.1≤dy then x.2 else 0)+HX dy t:=by
 unfold HX;rw [List.map_cons,List.sum_cons]
theorem Kj {dy:Int}:∀{t:List (Int×Int)},(∀x ∈ t,dy<x.1)→HX dy t=0
 | [],_=>rfl
 | x ::t,h=>by rw [Ki,if_neg (by have:=h x (by simp);omega),Kj fun y hy=>h y (by simp [hy])];rfl
theorem Gu.all {c:Int}:∀{t:List (Int×Int)},Gu c t→∀x ∈ t,c≤x.1
 | [],_,_,hx=>by cases hx
 | y ::t,h,x,hx=>by
  rcases List.mem_cons.1 hx with rfl | hx
  ·exact h.1
  ·have:=h.2.all x hx;have:=h.1;omega
theorem OQ:∀(t:List (Int×Int)) (c n low:Int),Gu c t→(0≤(Ir c n low t).2↔0≤low∧0≤n+HX c t∧∀x ∈ t,0≤n+HX x.1 t)
 | [],c,n,low,_=>by simp only [Ir,HX,List.map_nil,List.sum_nil];constructor <;> intro h <;> simp at * <;> omega
 | x ::t,c,n,low,h=>by
  have ha:=h.2.all;have hy:∀y ∈ t,HX y.1 (x ::t)=x.2+HX y.1 t:=fun y hy=>by rw [Ki,if_pos (ha y hy)]
  have hx:HX x.1 (x ::t)=x.2+HX x.1 t:=by rw [Ki,if_pos (Int.le_refl _)]
  unfold Ir;by_cases e:c<x.1
  ·rw [if_pos e,OQ t x.1 (n+x.2) (min n low) h.2];have h0:HX c (x ::t)=0:=Kj fun y hy=>by
    rcases List.mem_cons.1 hy with rfl | hy
    ·exact e
    ·have:=ha y hy;omega
   rw [h0];constructor
   ·rintro ⟨a1,a2,a3⟩;refine ⟨by omega,by omega,fun y hyt=>?_⟩;rcases List.mem_cons.1 hyt with rfl | hyt
    ·rw [hx];omega
    ·rw [hy y hyt];have:=a3 y hyt;omega
   ·rintro ⟨a1,a2,a3⟩;refine ⟨by omega,?_,fun y hyt=>?_⟩
    ·have:=a3 x (by simp);rw [hx] at this;omega
    ·have:=a3 y (by simp [hyt]);rw [hy y hyt] at this;omega
  ·have ec:c=x.1:=by have:=h.1;omega
   subst ec;rw [if_neg e,OQ t x.1 (n+x.2) low h.2,hx];constructor
   ·rintro ⟨a1,a2,a3⟩;refine ⟨a1,by omega,fun y hyt=>?_⟩;rcases List.mem_cons.1 hyt with rfl | hyt
    ·rw [hx];omega
    ·rw [hy y hyt];have:=a3 y hyt;omega
   ·rintro ⟨a1,a2,a3⟩;refine ⟨a1,by omega,fun y hyt=>?_⟩
    have:=a3 y (by simp [hyt]);rw [hy y hyt] at this;omega
section
variable {d m:Int} {gs:List Good} {ms:List AC} {cs:List AH}
theorem BE.day0 (b:BE d m gs ms cs) {k:Nat} (hk:k<ms.length):1≤(ms.getD k AC.z).day:=(b.move' hk).2.2.1.1
theorem BE.low_iff2 (b:BE d m gs ms cs) (p:AW) (g:Int):0≤(AM ms p g d).2↔0≤p.first g.toNat∧∀k,k<ms.length→(ms.getD k AC.z).good=g→0≤(AM ms p g (ms.getD k AC.z).day).1:=by
 have hz:∀i ∈ List.range ms.length,decide ((ms.getD i AC.z).good=g)=false→(FG ms p g i).2=0:=fun i _ e=>by
  unfold FG Re;dsimp only;rw [if_neg (of_decide_eq_false e)]
 have hsub:((List.range ms.length).filter fun i=>decide ((ms.getD i AC.z).good=g)).Sublist (List.range ms.length):=List.filter_sublist;have hr:=b.pairsUp p g hsub;rw [b.stock p g];unfold LX;rw [Ht hz (b.pairsUp p g (List.Sublist.refl _)),OQ _ _ _ _ hr];have hs:∀k,(AM ms p g (ms.getD k AC.z).day).1=p.first g.toNat+HX (ms.getD k AC.z).day (((List.range ms.length).filter fun i=>decide ((ms.getD i AC.z).good=g)).map (FG ms p g)):=fun k=>by
  rw [Mm b.up];congr 1;unfold HX;rw [List.map_map,ON (q:=fun i=>decide ((ms.getD i AC.z).good=g)) (fun i _ e=>by
   unfold Lf Re;rw [if_neg (of_decide_eq_false e)];simp)]
  rfl
 have h0:HX 0 (((List.range ms.length).filter fun i=>decide ((ms.getD i AC.z).good=g)).map (FG ms p g))=0:=Kj fun x hx=>by
  obtain ⟨k,hk,rfl⟩:=List.mem_map.1 hx
  have:=b.day0 (List.mem_range.1 (List.mem_filter.1 hk).1);unfold FG;dsimp only;omega
 rw [h0];constructor
 ·rintro ⟨a1,_,a3⟩;exact ⟨a1,fun k hk e=>by rw [hs];exact a3 _ (List.mem_map.2 ⟨k,List.mem_filter.2 ⟨List.mem_range.2 hk,decide_eq_true e⟩,rfl⟩)⟩
 ·rintro ⟨a1,a3⟩;refine ⟨a1,by omega,fun x hx=>?_⟩;obtain ⟨k,hk,rfl⟩:=List.mem_map.1 hx;obtain ⟨hk1,hk2⟩:=List.mem_filter.1 hk
  have:=a3 k (List.mem_range.1 hk1) (of_decide_eq_true hk2)
  rw [hs] at this;exact this
theorem Lh {ng:Nat} {p:AW}:A7 d ng ms cs p=true↔(∀g,g<ng→0≤(AM ms p (g:Int) d).2)∧∀x ∈ cs,x.low≤(AM ms p x.good x.day).1∧(AM ms p x.good x.day).1≤x.high:=by
 unfold A7;rw [Bool.and_eq_true,decide_eq_true_iff,Bool.not_eq_true',List.any_eq_false];constructor
 ·rintro ⟨h1,h2⟩;exact ⟨fun g hg=>by have:=h1 g hg;omega,fun x hx=>by have:=h2 x hx;simpa using this⟩
 ·rintro ⟨h1,h2⟩;exact ⟨fun g hg=>by have:=h1 g hg;omega,fun x hx=>by have:=h2 x hx;simpa using this⟩
theorem BE.agrees_iff2 (b:BE d m gs ms cs) {p:AW}:A7 d gs.length ms cs p=true↔
  (∀g:Nat,g<gs.length→0≤p.first g)∧(∀k,k<ms.length→0≤(AM ms p (ms.getD k AC.z).good (ms.getD k AC.z).day).1)∧∀x ∈ cs,x.low≤(AM ms p x.good x.day).1∧(AM ms p x.good x.day).1≤x.high:=by
 rw [Lh]
 have:∀g:Nat,0≤(AM ms p (g:Int) d).2↔0≤p.first g∧∀k,k<ms.length→(ms.getD k AC.z).good=(g:Int)→0≤(AM ms p (g:Int) (ms.getD k AC.z).day).1:=fun g=>by rw [b.low_iff2,Int.toNat_natCast]
 simp only [this];constructor
 ·rintro ⟨h1,h2⟩;refine ⟨fun g hg=>(h1 g hg).1,fun k hk=>?_,h2⟩;have hg:=(b.move' hk).2.1;obtain ⟨g,eg⟩:=Int.eq_ofNat_of_zero_le hg.1
  have:=(h1 g (by omega)).2 k hk eg
  rw [←eg] at this;exact this
 ·rintro ⟨h1,h2,h3⟩;exact ⟨fun g hg=>⟨h1 g hg,fun k hk e=>by have:=h2 k hk;rw [e] at this;exact this⟩,h3⟩
end
end Go.Ns
namespace Go.Ns
open Go.Conc
def FM (k:Int):Int:=if k=0∨k=4 then 1 else-1
def Cb (y l:List Int) (k:Int):Int:=if k ∈ l then 0 else y.getD k.toNat 0
def Ar (ms:List AC) (f y l:List Int) (g dy:Int):Nat→Int
 | 0=>f.getD g.toNat 0
 | k+1=>Ar ms f y l g dy k+if (ms.getD k AC.z).good=g∧(ms.getD k AC.z).day≤dy then FM (ms.getD k AC.z).kind*Cb y l (k:Int) else 0
def Cq (gs:List Good) (ms:List AC) (f y l:List Int) (dy:Int):Nat→Int
 | 0=>0
 | k+1=>Cq gs ms f y l dy k+(gs.getD k Good.z).cost*Ar ms f y l (k:Int) dy ms.length
def Cc (ms:List AC) (y:List Int) (g a b:Int):Nat→Int
 | 0=>0
 | k+1=>Cc ms y g a b k+if ((ms.getD k AC.z).kind=2∧(ms.getD k AC.z).good=g)∧a≤(ms.getD k AC.z).day∧(ms.getD k AC.z).day≤b then y.getD k 0 else 0
theorem OR {ms:List AC} {f y l:List Int} {g dy:Int} {k:Nat} (h:(ms.getD k AC.z).good=g∧(ms.getD k AC.z).day≤dy):Ar ms f y l g dy (k+1)=Ar ms f y l g dy k+FM (ms.getD k AC.z).kind*Cb y l (k:Int):=by
 show _+(if _ then _ else _)=_;rw [if_pos h]
theorem OS {ms:List AC} {f y l:List Int} {g dy:Int} {k:Nat} (h:¬((ms.getD k AC.z).good=g∧(ms.getD k AC.z).day≤dy)):Ar ms f y l g dy (k+1)=Ar ms f y l g dy k:=by
 show _+(if _ then _ else _)=_;rw [if_neg h];omega
theorem QP {ms:List AC} {y:List Int} {g a b:Int} {k:Nat} (h:((ms.getD k AC.z).kind=2∧(ms.getD k AC.z).good=g)∧a≤(ms.getD k AC.z).day∧(ms.getD k AC.z).day≤b):Cc ms y g a b (k+1)=Cc ms y g a b k+y.getD k 0:=by
 show _+(if _ then _ else _)=_;rw [if_pos h]
theorem QQ {ms:List AC} {y:List Int} {g a b:Int} {k:Nat} (h:¬(((ms.getD k AC.z).kind=2∧(ms.getD k AC.z).good=g)∧a≤(ms.getD k AC.z).day∧(ms.getD k AC.z).day≤b)):Cc ms y g a b (k+1)=Cc ms y g a b k:=by
 show _+(if _ then _ else _)=_;rw [if_neg h];omega
theorem KI {y l:List Int} (hy:∀i,0≤y.getD i 0∧y.getD i 0≤99) (k:Int):0≤Cb y l k∧Cb y l k≤99:=by
 unfold Cb;split
 ·omega
 ·exact hy _
theorem Mn (k:Int):FM k=1∨FM k= -1:=by unfold FM;split <;> simp
theorem OT {y l:List Int} (hy:∀i,0≤y.getD i 0∧y.getD i 0≤99) (s k:Int): -99≤FM s*Cb y l k∧FM s*Cb y l k≤99:=by
 have:=KI (l:=l) hy k
 rcases Mn s with e | e <;> rw [e] <;> omega
theorem Ez {ms:List AC} {f y l:List Int} (hf:∀i,0≤f.getD i 0∧f.getD i 0≤99) (hy:∀i,0≤y.getD i 0∧y.getD i 0≤99) (g dy:Int):∀k:Nat,-(99*(k:Int))≤Ar ms f y l g dy k∧Ar ms f y l g dy k≤99*(k:Int)+99
 | 0=>by have:=hf g.toNat;unfold Ar;omega
 | k+1=>by
  have h1:=Ez (ms:=ms) (l:=l) hf hy g dy k;have h2:=OT (l:=l) hy (ms.getD k AC.z).kind (k:Int);unfold Ar;split <;> omega
theorem KJ {ms:List AC} {y:List Int} (hy:∀i,0≤y.getD i 0∧y.getD i 0≤99) (g a b:Int):∀k:Nat,0≤Cc ms y g a b k∧Cc ms y g a b k≤99*(k:Int)
 | 0=>by unfold Cc;omega
 | k+1=>by
  have h1:=KJ (ms:=ms) hy g a b k;have h2:=hy k;unfold Cc;split <;> omega
structure XQ (P:AW) (f y l:List Int) (ng nm:Nat):Prop where
 first:∀i,i<ng→P.first i=f.getD i 0
 many:∀i,i<nm→P.many i=y.getD i 0
 lies:∀i,i<nm→P.lies i=decide ((i:Int) ∈ l)
theorem XQ.real {P:AW} {f y l:List Int} {ng nm:Nat} (h:XQ P f y l ng nm) {k:Nat} (hk:k<nm):Bz P k=Cb y l (k:Int):=by
 unfold Bz Cb;rw [h.lies k hk,h.many k hk,Int.toNat_natCast];by_cases e:(k:Int) ∈ l <;> simp [e]
theorem XQ.sum {P:AW} {f y l:List Int} {ng:Nat} {ms:List AC} (h:XQ P f y l ng ms.length) (hk:∀k,0≤(ms.getD k AC.z).kind) {g dy:Int} (hg:0≤g∧g<ng):∀k,k≤ms.length→Ar ms f y l g dy k=P.first g.toNat+((List.range k).map (Lf ms P g dy)).sum
 | 0,_=>by rw [h.first _ (by omega)];simp [Ar]
 | k+1,hl=>by
  rw [List.range_succ,List.map_append,List.sum_append,List.map_singleton,List.sum_singleton];have ih:=h.sum hk (dy:=dy) hg k (by omega);have e:Lf ms P g dy k=if (ms.getD k AC.z).good=g∧(ms.getD k AC.z).day≤dy then FM (ms.getD k AC.z).kind*Cb y l (k:Int) else 0:=by
   unfold Lf Re;rw [h.real (show k<ms.length by omega)];have hs:signed (ms.getD k AC.z).kind.toNat (Cb y l (k:Int))=FM (ms.getD k AC.z).kind*Cb y l (k:Int):=by
    unfold signed FM
    have:=hk k
    by_cases q:(ms.getD k AC.z).kind=0∨(ms.getD k AC.z).kind=4
    ·rw [if_pos (by omega),if_pos q];omega
    ·rw [if_neg (by omega),if_neg q];omega
   by_cases q1:(ms.getD k AC.z).day≤dy
   ·by_cases q2:(ms.getD k AC.z).good=g
    ·rw [if_pos q1,if_pos q2,if_pos ⟨q2,q1⟩,hs]
    ·rw [if_pos q1,if_neg q2,if_neg fun q=>q2 q.1]
   ·rw [if_neg q1,if_neg fun q=>q1 q.2]
  rw [e,Ar,ih];omega
theorem XQ.stock {P:AW} {f y l:List Int} {ng:Nat} {ms:List AC} (h:XQ P f y l ng ms.length) (up:Is ms) (hk:∀k,0≤(ms.getD k AC.z).kind) {g:Int} (hg:0≤g∧g<ng) (dy:Int):Ar ms f y l g dy ms.length=(AM ms P g dy).1:=by
 rw [h.sum hk hg ms.length (Nat.le_refl _),Mm up]
theorem XQ.worth {P:AW} {f y l:List Int} {gs:List Good} {ms:List AC} (h:XQ P f y l gs.length ms.length) (up:Is ms) (hk:∀k,0≤(ms.getD k AC.z).kind) (dy:Int):∀k,k≤gs.length→Cq gs ms f y l dy k=CL gs ms P dy k
 | 0,_=>rfl
 | k+1,hl=>by unfold Cq CL;rw [h.worth up hk dy k (by omega),h.stock up hk (by omega)]
theorem XQ.lost {P:AW} {f y l:List Int} {ng:Nat} {ms:List AC} (h:XQ P f y l ng ms.length) (hn:∀k,k<ms.length→(k:Int) ∈ l→(ms.getD k AC.z).kind=0) (g a b:Int):∀k,k≤ms.length→Cc ms y g a b k=CQ ms P g a b k
 | 0,_=>rfl
 | k+1,hl=>by
  unfold Cc CQ;rw [h.lost hn g a b k (by omega)];by_cases q:((ms.getD k AC.z).kind=2∧(ms.getD k AC.z).good=g)∧a≤(ms.getD k AC.z).day∧(ms.getD k AC.z).day≤b
  ·rw [if_pos q,if_pos q,h.real (by omega)];unfold Cb;rw [if_neg (fun e=>by have:=hn k (by omega) e;omega),Int.toNat_natCast]
  ·rw [if_neg q,if_neg q]
end Go.Ns
namespace Go.Ns
open Go.Conc
theorem F2 (a:ByteArray):(a==a)=true:=by
 cases a with
 | mk d=>show (d==d)=true;simp
section
variable {d m:Int} {gs:List Good} {ms ms2:List AC} {cs cs2:List AH}
theorem WZ {α:Type}:∀{l l1:List α},l.Nodup→(∀x ∈ l,x ∈ l1)→l.length≤l1.length
 | [],_,_,_=>Nat.zero_le _
 | a ::t,l1,hn,hs=>by
  obtain ⟨s,u,rfl⟩:=List.append_of_mem (hs a (List.mem_cons_self ..))
  have:=WZ (l1:=s++u) (List.nodup_cons.1 hn).2 fun x hx=>by
   have h1:=hs x (List.mem_cons_of_mem _ hx);rw [List.mem_append] at h1 ⊢;rcases h1 with h | h
   ·exact .inl h
   ·rcases List.mem_cons.1 h with rfl | h
    ·exact absurd hx (List.nodup_cons.1 hn).1
    ·exact .inr h
  simp only [List.length_append,List.length_cons] at this ⊢;omega
end
end Go.Ns
namespace Go.Ns
open Go.Conc
def TH (ms:List AC) (f y l:List Int) (c:AH):AH:={ c with low:=min c.low (max 0 (Ar ms f y l c.good c.day ms.length)),high:=max c.high (max 0 (Ar ms f y l c.good c.day ms.length)) }
def DN (ms:List AC) (f y l:List Int) (cs:List AH) (k:Nat):List AH:=(cs.take k).map (TH ms f y l)
theorem TJ {ms:List AC} {f y l:List Int} {cs:List AH} {k:Nat} (hk:k<cs.length):DN ms f y l cs (k+1)=DN ms f y l cs k++[TH ms f y l (cs.getD k AH.z)]:=by
 unfold DN;rw [GC AH.z hk,List.map_append];rfl
theorem Uu (ms:List AC) (f y l:List Int) (cs:List AH) (k:Nat):(DN ms f y l cs k).length≤k:=by
 unfold DN;rw [List.length_map,List.length_take];omega
abbrev OU (ms:List AC) (f y l:List Int) (cs:List AH):List AH:=DN ms f y l cs cs.length
theorem OV (ms:List AC) (f y l:List Int) (cs:List AH):(OU ms f y l cs).length=cs.length:=by
 unfold OU DN;rw [List.length_map,List.length_take];omega
def C0 (ms:List AC) (cs:List AH) (f y l:List Int):Bool:=decide (∀k,k<cs.length→(cs.getD k AH.z).low≤Ar ms f y l (cs.getD k AH.z).good (cs.getD k AH.z).day ms.length∧Ar ms f y l (cs.getD k AH.z).good (cs.getD k AH.z).day ms.length≤(cs.getD k AH.z).high) &&
 decide (∀k,k<ms.length→¬Ar ms f y l (ms.getD k AC.z).good (ms.getD k AC.z).day ms.length<0)
section
variable {ms:List AC} {cs:List AH} {f y l:List Int}
theorem MC {k:Nat} (hk:k<cs.length) (h:¬((cs.getD k AH.z).low≤Ar ms f y l (cs.getD k AH.z).good (cs.getD k AH.z).day ms.length∧Ar ms f y l (cs.getD k AH.z).good (cs.getD k AH.z).day ms.length≤(cs.getD k AH.z).high)):C0 ms cs f y l=false:=by
 unfold C0;rw [decide_eq_false (fun q=>h (q k hk))];rfl
theorem MD {k:Nat} (hk:k<ms.length) (h:Ar ms f y l (ms.getD k AC.z).good (ms.getD k AC.z).day ms.length<0):C0 ms cs f y l=false:=by
 unfold C0;rw [Bool.and_eq_false_iff];exact .inr (decide_eq_false fun q=>q k hk h)
theorem ME {k k2:Nat} (h:∀j,j<k→(cs.getD j AH.z).low≤Ar ms f y l (cs.getD j AH.z).good (cs.getD j AH.z).day ms.length∧Ar ms f y l (cs.getD j AH.z).good (cs.getD j AH.z).day ms.length≤(cs.getD j AH.z).high) (hk:cs.length≤k)
  (h2:∀j,j<k2→¬Ar ms f y l (ms.getD j AC.z).good (ms.getD j AC.z).day ms.length<0) (hk2:ms.length≤k2):C0 ms cs f y l=true:=by
 unfold C0;rw [decide_eq_true (fun j hj=>h j (by omega)),decide_eq_true (fun j hj=>h2 j (by omega))];rfl
end
theorem Uv {ms:List AC} {cs:List AH} {f y l:List Int} {F:Int} (h:∀k,k<cs.length→0≤(cs.getD k AH.z).good∧(cs.getD k AH.z).good<F) (k:Nat) :
  ∀j,j<(DN ms f y l cs k).length→0≤((DN ms f y l cs k).getD j AH.z).good∧((DN ms f y l cs k).getD j AH.z).good<F:=fun j hj=>by
 have hx:=Cd (d:=AH.z) hj;have hx2:(DN ms f y l cs k).getD j AH.z ∈ (cs.take k).map (TH ms f y l):=hx;obtain ⟨c,hc,e⟩:=List.mem_map.1 hx2;obtain ⟨i,hi,rfl⟩:=OP AH.z (List.mem_of_mem_take hc);rw [←e];exact h i hi
section
variable {d m:Int} {gs:List Good} {ms:List AC} {cs:List AH}
theorem Li (h0:0≤m) (bits:Int):∀k,((A4 ms m bits k).length:Int)≤m
 | 0=>by simp [A4];exact h0
 | k+1=>by
  have ih:=Li h0 bits k;unfold A4;split
  ·rename_i q;have:=q.2.2;rw [List.length_append,List.length_singleton];omega
  ·exact ih
theorem BE.trues (b:BE d m gs ms cs) {f y l:List Int} (hf:∀i,0≤f.getD i 0∧f.getD i 0≤99) (hy:∀i,0≤y.getD i 0∧y.getD i 0≤99):BE d m gs ms (OU ms f y l cs):=by
 refine ⟨b.days,b.most,b.glen,b.good,b.mlen,b.move,by rw [OV];exact b.clen,fun k hk=>?_⟩;rw [OV] at hk;have e:(OU ms f y l cs).getD k AH.z=TH ms f y l (cs.getD k AH.z):=by
  unfold OU DN;rw [List.take_length,List.getD_eq_getElem?_getD,List.getElem?_map,List.getD_eq_getElem?_getD,List.getElem?_eq_getElem hk];rfl
 have z:=b.count k hk;unfold Ei at z ⊢;rw [e];have hr:=Ez (ms:=ms) (l:=l) hf hy (cs.getD k AH.z).good (cs.getD k AH.z).day ms.length;have h6:=b.mlen;split at z
 ·cases z
 split at z
 ·cases z
 rename_i q1 q2
 rw [if_neg (by exact q1),if_neg];unfold TH;dsimp only;omega
theorem Lj (b:BE d m gs ms cs) (picks:List Int) (bits:Int):XQ (Ax d m gs ms cs (By gs picks) (CK gs ms picks) (A4 ms m bits ms.length)) (By gs picks) (CK gs ms picks) (A4 ms m bits ms.length) gs.length ms.length:=by
 have h:=Rh b picks bits;have hl:=(Ec (ms:=ms) (m:=m) (bits:=bits) ms.length (Nat.le_refl _)).1;exact ⟨fun i hi=>Ri h (by simpa [By] using hi),fun i hi=>S6 h (by simpa [CK] using hi),fun i _=>S7 h (fun x hx=>(hl x hx).1) i⟩
theorem ZS (b:BE d m gs ms cs) (picks:List Int) (bits:Int) (h:C0 ms cs (By gs picks) (CK gs ms picks) (A4 ms m bits ms.length)=true) :
  Ax d m gs ms cs (By gs picks) (CK gs ms picks) (A4 ms m bits ms.length) ∈ AV d gs ms cs m:=by
 have I:=Lj b picks bits;have hh:=Rh b picks bits;obtain ⟨hl1,hl2⟩:=Ec (ms:=ms) (m:=m) (bits:=bits) ms.length (Nat.le_refl _);have hF:∀i,i<gs.length→(By gs picks).getD i 0=G7 gs picks i:=fun i hi=>by unfold By;simp [List.getD_eq_getElem?_getD,hi]
 have hY:∀i,i<ms.length→(CK gs ms picks).getD i 0=Gp gs ms picks i:=fun i hi=>by unfold CK;simp [List.getD_eq_getElem?_getD,hi]
 have hk:=fun k=>(b.kind k).1;generalize hP:Ax d m gs ms cs (By gs picks) (CK gs ms picks) (A4 ms m bits ms.length)=P at I ⊢;unfold C0 at h;rw [Bool.and_eq_true,decide_eq_true_iff,decide_eq_true_iff] at h;refine (MB b.mlen b.most.1).2 ⟨⟨fun i hi=>?_,fun i hi=>?_,fun i hi hq=>?_,?_⟩,b.agrees_iff2.2 ⟨fun i hi=>?_,fun k hkk=>?_,fun x hx=>?_⟩,?_⟩
 ·rw [I.first i hi,hF i hi];have:=b.gfew i;exact Hu (by omega)
 ·rw [I.many i hi,hY i hi];have:=b.few i;exact Hu (by omega)
 ·rw [I.lies i hi,decide_eq_true_iff] at hq;exact (hl1 _ hq).2.2
 ·have h1:Aw P ms.length=((List.range ms.length).filter fun (i:Nat)=>decide ((i:Int) ∈ A4 ms m bits ms.length)).length:=by
   rw [←JW];congr 1;refine List.filter_congr fun i hi=>?_;exact I.lies i (List.mem_range.1 hi)
  have h2:((List.range ms.length).filter fun (i:Nat)=>decide ((i:Int) ∈ A4 ms m bits ms.length)).length≤(A4 ms m bits ms.length).length:=by
   have:=WZ (l:=((List.range ms.length).filter fun (i:Nat)=>decide ((i:Int) ∈ A4 ms m bits ms.length)).map fun (i:Nat)=>(i:Int)) (l1:=A4 ms m bits ms.length)
    (List.pairwise_map.2 ((List.nodup_range.filter _).imp fun q e=>q (by omega))) fun x hx=>by
     obtain ⟨i,hi,rfl⟩:=List.mem_map.1 hx;exact of_decide_eq_true (List.mem_filter.1 hi).2
   rwa [List.length_map] at this
  have h3:=Li b.most.1 (ms:=ms) bits ms.length;rw [h1];omega
 ·rw [I.first i hi];have:=(DU (OE b picks)).2 i;omega
 ·rw [←I.stock b.up hk (by have:=(b.move' hkk).2.1;omega)];have:=h.2 k hkk;omega
 ·obtain ⟨k,hkc,rfl⟩:=OP AH.z hx;have hg:=b.cgood' _ (Cd (d:=AH.z) hkc);rw [←I.stock b.up hk (by omega)];exact h.1 k hkc
 ·rw [←hP];have hlf:(By gs picks).length=gs.length:=by simp [By]
  have hly:(CK gs ms picks).length=ms.length:=by simp [CK]
  unfold Ax;rw [if_pos hh];have e1:=It ((AW.zero.setFirsts (By gs picks)).setManys (CK gs ms picks)) (A4 ms m bits ms.length) (A4 ms m bits ms.length).length;have e2:=fun i=>Mj ((AW.zero.setFirsts (By gs picks)).setManys (CK gs ms picks)) (A4 ms m bits ms.length) i (fun x hx=>(hl1 x hx).1);unfold Fd;generalize hQ:Dp ((AW.zero.setFirsts (By gs picks)).setManys (CK gs ms picks)) (A4 ms m bits ms.length) (A4 ms m bits ms.length).length=Q at e1 e2 ⊢;obtain ⟨f,y,l⟩:=Q;obtain ⟨rfl,rfl⟩:=e1;unfold Gq;congr 1
  ·funext k;show (if k<gs.length then (if k<(By gs picks).length then _ else (0:Int)) else 0)=if k<(By gs picks).length then _ else (0:Int)
   rw [hlf];split
   ·rfl
   ·rfl
  ·funext k;show (if k<ms.length then (if k<(CK gs ms picks).length then _ else (0:Int)) else 0)=if k<(CK gs ms picks).length then _ else (0:Int)
   rw [hly];split
   ·rfl
   ·rfl
  ·funext k;dsimp only;by_cases hkk:k<ms.length
   ·rw [if_pos hkk]
   ·have:¬(k:Int) ∈ A4 ms m bits ms.length:=fun e=>by have:=(hl1 _ e).2.1;omega
    have e3:l k=(decide ((k:Int) ∈ A4 ms m bits ms.length) || false):=e2 k;rw [decide_eq_false this] at e3;rw [if_neg hkk];exact e3.symm
end
end Go.Ns
namespace Go.Ns
open Go.Conc
section
variable {d m:Int} {gs:List Good} {ms:List AC} {cs:List AH} {kd g n:Int}
theorem Uw {mo:Int} {q:AW} (h:q ∈ AV d gs ms cs mo) {k:Nat} (hk:ms.length≤k):q.lies k=false:=by
 have e:=QO h;rw [←e];unfold Gq;dsimp only;rw [if_neg (by omega)]
theorem ZT (b:BE d m gs ms cs) {g dy x:Int} (hg:0≤g∧g<gs.length) (hd:0≤dy∧dy≤d) (hne:AV d gs ms cs m≠[]):x ∈ JO d m gs ms cs g dy↔∃q ∈ AV d gs ms cs m,(AM ms q g dy).1=x:=by
 have h0:¬(AV d gs ms cs m).length=0:=fun e=>hne (List.eq_nil_of_length_eq_zero e);unfold JO;rw [if_pos (by rw [QN b hg hd,if_neg h0])];exact TG (F:=fun p=>(AM ms p g dy).1)
end
end Go.Ns
namespace Go.Ns
open Go.Conc
def chk6:Bool:=(List.range 7).all fun n=>(List.range (2 ^ n)).all fun (x:Nat)=>(List.range (2 ^ n)).all fun (y:Nat)=>FF (BH (x:Int) n) (BH (y:Int) n)==decide (Lb (BH (x:Int) n)<Lb (BH (y:Int) n))
theorem XR:chk6=true:=by kernel_rfl
theorem XS {n x y:Nat} (hn:n≤6) (hx:x<2 ^ n) (hy:y<2 ^ n):FF (BH (x:Int) n) (BH (y:Int) n)=decide (Lb (BH (x:Int) n)<Lb (BH (y:Int) n)):=by
 have h:=XR;unfold chk6 at h;rw [List.all_eq_true] at h;have h2:=List.all_eq_true.1 (List.all_eq_true.1 (h n (List.mem_range.2 (by omega))) x (List.mem_range.2 hx)) y (List.mem_range.2 hy);exact eq_of_beq h2
def OW (gs:List Good) (p:AW):Nat→AW
 | 0=>p
 | k+1=>(OW gs p k).setFirst k (min (max (p.first k) (gs.getD k Good.z).low) (gs.getD k Good.z).high)
def OX (ms:List AC) (p q:AW):Nat→AW
 | 0=>q
 | k+1=>(OX ms p q k).setMany k (min (max (p.many k) (ms.getD k AC.z).low) (ms.getD k AC.z).high)
def OY (gs:List Good) (ms:List AC) (p:AW):AW:=OX ms p (OW gs p gs.length) ms.length
def eq3 (p q:AW):Bool:=(p.first 0==q.first 0) && ((p.first 1==q.first 1) && ((p.first 2==q.first 2) && true))
def eq6 (p q:AW):Bool:=(p.many 0==q.many 0) && ((p.many 1==q.many 1) && ((p.many 2==q.many 2) && ((p.many 3==q.many 3) && ((p.many 4==q.many 4) && ((p.many 5==q.many 5) && true)))))
def GW (d m:Int) (gs:List Good) (ms:List AC) (cs:List AH) (f y l:List Int):Bool:=
 decide (Ak d m gs ms cs f y l=0) && (eq3 (OY gs ms (Ax d m gs ms cs f y l)) (Ax d m gs ms cs f y l) && (eq6 (OY gs ms (Ax d m gs ms cs f y l)) (Ax d m gs ms cs f y l) && (decide ((Aw (Ax d m gs ms cs f y l) 6:Int)≤m) && A7 d gs.length ms cs (Ax d m gs ms cs f y l))))
theorem QR {gs:List Good} {p:AW} (h:∀i,i<gs.length→(gs.getD i Good.z).low≤p.first i∧p.first i≤(gs.getD i Good.z).high):∀k,k≤gs.length→OW gs p k=p
 | 0,_=>rfl
 | k+1,hk=>by
  unfold OW
  have:=h k (by omega)
  rw [QR h k (by omega),show min (max (p.first k) (gs.getD k Good.z).low) (gs.getD k Good.z).high=p.first k by omega];unfold AW.setFirst;congr 1;funext j;split
  ·rename_i e;rw [e]
  ·rfl
theorem QS {ms:List AC} {p:AW} (h:∀i,i<ms.length→(ms.getD i AC.z).low≤p.many i∧p.many i≤(ms.getD i AC.z).high):∀k,k≤ms.length→OX ms p p k=p
 | 0,_=>rfl
 | k+1,hk=>by
  unfold OX
  have:=h k (by omega)
  rw [QS h k (by omega),show min (max (p.many k) (ms.getD k AC.z).low) (ms.getD k AC.z).high=p.many k by omega];unfold AW.setMany;congr 1;funext j;split
  ·rename_i e;rw [e]
  ·rfl
section
variable {d m:Int} {gs:List Good} {ms:List AC} {cs:List AH}
theorem is_hist (b:BE d m gs ms cs) {f y l:List Int} (h0:Ak d m gs ms cs f y l=0) (hq:Ax d m gs ms cs f y l ∈ AV d gs ms cs m):GW d m gs ms cs f y l=true:=by
 have hs:=fun k hk=>Uw hq (k:=k) hk;obtain ⟨L,ha,_⟩:=(MB b.mlen b.most.1).1 hq;unfold GW OY;generalize Ax d m gs ms cs f y l=P at L ha hs ⊢;have h6:Aw P 6=Aw P ms.length:=Gf (fun k h1 _=>hs k h1) b.mlen;rw [decide_eq_true h0,QR L.first _ (Nat.le_refl _),QS L.many _ (Nat.le_refl _),ha,decide_eq_true (by rw [h6];exact L.few)];simp [eq3,eq6]
theorem TK (b:BE d m gs ms cs) {q:AW} (hq:q ∈ AV d gs ms cs m) {l:List Int} (hl:l.Pairwise (· < ·)) (hm:∀x,x ∈ l↔∃k:Nat,x=(k:Int)∧k<ms.length∧q.lies k=true):C9 d m gs ms cs=0∧FF l (Ex d m gs ms cs)=false:=by
 obtain ⟨mask,hmask,hb,hx⟩:=XN b b.most.1 hq;obtain rfl:l=BH (mask:Int) ms.length:=asc_ext hl ZQ fun x=>by
  rw [hm x];constructor
  ·rintro ⟨k,rfl,hk⟩;exact (hb k).2 hk
  ·intro hx;obtain ⟨k,rfl,h1,h2⟩:=QK hx;exact ⟨k,rfl,(hb k).1 hx⟩
 have hbb:C9 d m gs ms cs=0:=by
  rw [Iq (Ge b),if_neg];intro e;rw [List.eq_nil_of_length_eq_zero e] at hx;cases hx
 refine ⟨hbb,?_⟩;unfold Ex;rw [if_pos hbb];generalize hB:DD d gs ms cs (2 ^ ms.length)=B at hx;obtain ⟨c,l,rfl⟩:∃c l,B=c ::l:=by
  cases B with
  | nil=>cases hx
  | cons c l=>exact ⟨c,l,rfl⟩
 have hk:∀x ∈ c ::l,∃k:Nat,k<2 ^ ms.length∧x=BH (k:Int) ms.length:=fun x hx=>by
  rw [←hB] at hx;obtain ⟨k,h1,h2,_⟩:=Ml.1 hx;exact ⟨k,h1,h2⟩
 have H:∀x ∈ c ::l,∀y ∈ c ::l,FF x y=decide (Lb x<Lb y):=fun x hx y hy=>by
  obtain ⟨i,hi,rfl⟩:=hk x hx;obtain ⟨j,hj,rfl⟩:=hk y hy;exact XS b.mlen hi hj
 obtain ⟨h1,h2⟩:=OL l c H;show FF _ (GZ c l)=false;rw [H _ hx _ h1];exact decide_eq_false (by have:=h2 _ hx;omega)
theorem Rk {hs:List AW} {F:AW→Int} {q:AW} (hq:q ∈ hs):Bb (CJ hs.length fun (i:Nat)=>F (hs.getD ((i:Int)).toNat AW.zero))≤F q∧F q≤Cg (CJ hs.length fun (i:Nat)=>F (hs.getD ((i:Int)).toNat AW.zero)):=by
 obtain ⟨k,hk,e⟩:=OP AW.zero hq
 have:=(OO (fun (i:Nat)=>F (hs.getD ((i:Int)).toNat AW.zero)) (show 0<hs.length by omega)).1 k hk
 rw [Int.toNat_natCast,e] at this;exact this
theorem OZ (b:BE d m gs ms cs) {q:AW} (hq:q ∈ AV d gs ms cs m) {g:Int} (hg:0≤g∧g<gs.length):0≤(AM ms q g d).2∧(AM ms q g d).2≤(AM ms q g d).1:=by
 have hl:=(Lh.1 ((MB b.mlen b.most.1).1 hq).2.1).1 g.toNat (by omega);rw [Int.toNat_of_nonneg hg.1] at hl;have hr:=OD (LX ms q g) 0 (q.first g.toNat) (q.first g.toNat);rw [←b.stock q g] at hr;exact ⟨hl,hr.2⟩
structure RealOK (d m:Int) (gs:List Good) (ms:List AC) (cs:List AH) (q:AW) (g dy r:Int):Prop where
 cb:DW d m gs ms cs=0
 cl:Ey d m gs ms cs=[]
 lb:F0 d m gs ms cs g dy=0
 lm:(AM ms q g dy).1 ∈ JO d m gs ms cs g dy
 wb:Ea d m gs ms cs dy=0
 wl:EK d m gs ms cs dy≤CL gs ms q dy gs.length∧CL gs ms q dy gs.length≤EL d m gs ms cs dy
 tb:Eb d m gs ms cs g r=0
 tl:EM d m gs ms cs g r≤(AM ms q g d).1 / r∧(AM ms q g d).1 / r≤EN d m gs ms cs g r
 ob:FK d m gs ms cs g (max 1 dy) d=0
 ol:Ff d m gs ms cs g (max 1 dy) d≤CQ ms q g (max 1 dy) d ms.length∧CQ ms q g (max 1 dy) d ms.length≤Fg d m gs ms cs g (max 1 dy) d
theorem XT (b:BE d m gs ms cs) {q:AW} (hq:q ∈ AV d gs ms cs m) {g dy r:Int} (hg:0≤g∧g<gs.length) (hd:0≤dy∧dy≤d) (hr:1≤r∧r≤99):RealOK d m gs ms cs q g dy r:=by
 have hne:AV d gs ms cs m≠[]:=fun e=>by rw [e] at hq;cases hq
 have h0:¬(AV d gs ms cs m).length=0:=fun e=>hne (List.eq_nil_of_length_eq_zero e);have hdy:=b.days;have wb:Ea d m gs ms cs dy=0:=by rw [Ut b hd,if_neg h0]
 have tb:Eb d m gs ms cs g r=0:=by rw [Us b hg hr,if_neg h0]
 have ob:FK d m gs ms cs g (max 1 dy) d=0:=by rw [XO b hg (by omega) (by omega),if_neg h0]
 refine ⟨?_,?_,by rw [QN b hg hd,if_neg h0],(ZT b hg hd hne).2 ⟨q,hq,rfl⟩,wb,?_,tb,?_,ob,?_⟩
 ·unfold DW;rw [if_pos (Ge b),if_pos (RK hne)]
 ·unfold Ey;rw [if_neg fun e=>by rw [RK hne] at e;cases e.2.1]
 ·unfold EK EL;rw [if_pos wb,if_pos wb];exact Rk (F:=fun p=>CL gs ms p dy gs.length) hq
 ·unfold EM EN;rw [if_pos tb,if_pos tb];have hE:=Rk (F:=fun p=>(AM ms p g d).1) hq;have hS:=OZ b hq hg;obtain ⟨_,⟨i,hi,e⟩,_⟩:=OO (fun (i:Nat)=>(AM ms ((AV d gs ms cs m).getD ((i:Int)).toNat AW.zero) g d).1) (show 0<(AV d gs ms cs m).length by omega);have hL:=OZ b (Cd (d:=AW.zero) (show ((i:Int)).toNat<(AV d gs ms cs m).length by omega)) hg;have e1:0≤Bb (GJ d ms (AV d gs ms cs m) g):=by
   unfold GJ;rw [←e];omega
  have hE':Bb (GJ d ms (AV d gs ms cs m) g)≤(AM ms q g d).1∧(AM ms q g d).1≤Cg (GJ d ms (AV d gs ms cs m) g):=hE;rw [Int.tdiv_eq_ediv_of_nonneg e1,Int.tdiv_eq_ediv_of_nonneg (by omega:0≤Cg (GJ d ms (AV d gs ms cs m) g))];exact ⟨Int.ediv_le_ediv (by omega) hE'.1,Int.ediv_le_ediv (by omega) hE'.2⟩
 ·unfold Ff Fg;rw [if_pos ob,if_pos ob];exact Rk (F:=fun p=>CQ ms p g (max 1 dy) d ms.length) hq
structure MovOK (d m:Int) (gs:List Good) (ms:List AC) (cs:List AH) (y l:List Int) (mv:Int):Prop where
 nb:DV d m gs ms cs mv=0
 nm:Cb y l mv ∈ FJ d m gs ms cs mv
 f6:¬(ms.getD mv.toNat AC.z).kind=0→Ca d m gs ms cs mv=6
 f0:(ms.getD mv.toNat AC.z).kind=0→Ca d m gs ms cs mv=0
 yes:(ms.getD mv.toNat AC.z).kind=0→CA d m gs ms cs mv=1→mv ∈ l
 no:(ms.getD mv.toNat AC.z).kind=0→CA d m gs ms cs mv=2→¬mv ∈ l
theorem Ux (b:BE d m gs ms cs) {q:AW} (hq:q ∈ AV d gs ms cs m) {f y l:List Int} (I:XQ q f y l gs.length ms.length) {mv:Int} (hmv:0≤mv∧mv<(ms.length:Int)):MovOK d m gs ms cs y l mv:=by
 have hne:AV d gs ms cs m≠[]:=fun e=>by rw [e] at hq;cases hq
 have h0:¬(AV d gs ms cs m).length=0:=fun e=>hne (List.eq_nil_of_length_eq_zero e);have nb:DV d m gs ms cs mv=0:=by
  unfold DV;rw [HE b (fun x hx=>by rw [if_pos (by simp;omega)] at hx;simpa using hx),if_neg h0]
 have hf0:(ms.getD mv.toNat AC.z).kind=0→Ca d m gs ms cs mv=0:=fun hk=>by
  unfold Ca;rw [HE b (fun x hx=>by rw [if_pos (decide_eq_true ⟨by omega,hk⟩)] at hx;simpa using hx),if_neg h0]
 have hlie:q.lies mv.toNat=decide (mv ∈ l):=by rw [I.lies mv.toNat (by omega),Int.toNat_of_nonneg hmv.1]
 refine ⟨nb,?_,fun hk=>?_,hf0,fun hk hs=>?_,fun hk hs=>?_⟩
 ·unfold FJ;rw [if_pos nb];refine (TG (F:=fun p=>Bz p mv.toNat)).2 ⟨q,hq,?_⟩;rw [I.real (by omega),Int.toNat_of_nonneg hmv.1]
 ·unfold Ca;rw [if_neg (by rw [decide_eq_true_iff];exact fun e=>hk e.2)];exact Kc (not_not_intro (Ge b)) (k:=0) (fun j hj=>by omega) (by simp) (by simp)
 ·unfold CA Ke at hs;rw [if_pos (hf0 hk)] at hs;split at hs
  ·cases hs
  ·split at hs
   ·rename_i h1 h2
    unfold HT at h2;have hall:=List.length_filter_eq_length_iff.1 h2 q hq;rw [hlie] at hall;exact of_decide_eq_true hall
   ·cases hs
 ·unfold CA Ke at hs;rw [if_pos (hf0 hk)] at hs;split at hs
  ·rename_i h1
   unfold HT at h1;have hn:=List.eq_nil_of_length_eq_zero h1;rw [List.filter_eq_nil_iff] at hn
   have:=hn q hq
   rw [hlie] at this;simpa using this
  ·split at hs <;> cases hs
theorem Uy (b:BE d m gs ms cs) (picks:List Int) (bits:Int) (hq:Ax d m gs ms cs (By gs picks) (CK gs ms picks) (A4 ms m bits ms.length) ∈ AV d gs ms cs m) :
  C9 d m gs ms cs=0∧FF (A4 ms m bits ms.length) (Ex d m gs ms cs)=false:=by
 obtain ⟨h1,h2⟩:=Ec (ms:=ms) (m:=m) (bits:=bits) ms.length (Nat.le_refl _);refine TK b hq h2 fun x=>⟨fun hx=>?_,fun ⟨k,e,hk,hl⟩=>?_⟩
 ·have:=h1 x hx
  refine ⟨x.toNat,by omega,by omega,?_⟩;rw [(Lj b picks bits).lies _ (by omega),Int.toNat_of_nonneg this.1];exact decide_eq_true hx
 ·rw [(Lj b picks bits).lies k hk] at hl;rw [e];exact of_decide_eq_true hl
theorem play_at {f y l:List Int} (h:Ak d m gs ms cs f y l=0) {g:Int} (hg:0≤g∧g<gs.length) :
  (CP d m gs ms cs f y l).getD g.toNat 0=(AM ms (Ax d m gs ms cs f y l) g d).1∧(DK d m gs ms cs f y l).getD g.toNat 0=(AM ms (Ax d m gs ms cs f y l) g d).2:=by
 unfold CP DK;have hn:g.toNat<gs.length:=by omega
 rw [if_pos h,if_pos h];simp [List.getD_eq_getElem?_getD,hn,Int.toNat_of_nonneg hg.1]
theorem ZU (b:BE d m gs ms cs) {picks:List Int} {bits:Int} {f y l:List Int} (ef:f=By gs picks) (ey:y=CK gs ms picks) (el:l=A4 ms m bits ms.length) (h:C0 ms cs f y l=true) :
  Ax d m gs ms cs f y l ∈ AV d gs ms cs m∧XQ (Ax d m gs ms cs f y l) f y l gs.length ms.length∧Ak d m gs ms cs f y l=0∧(C9 d m gs ms cs=0∧FF l (Ex d m gs ms cs)=false)∧∀k,k<ms.length→(k:Int) ∈ l→(ms.getD k AC.z).kind=0:=by
 subst ef ey el;have hq:=ZS b picks bits h;exact ⟨hq,Lj b picks bits,Rh b picks bits,Uy b picks bits hq,fun k hk hx=>(Ur hk).1 ((Ec (ms:=ms) (m:=m) (bits:=bits) ms.length (Nat.le_refl _)).1 _ hx).2.2⟩
end
end Go.Ns
namespace Go.Ns
open Go.Conc
section
variable {P:Program} {Post:Value→World→Prop}
def Wa (P:Program) (Post:Value→World→Prop):Wk P:=⟨true,D2 P Post,J2⟩
theorem Rl:N8 (Wa P Post):=⟨Post,rfl⟩
theorem XU {f:FuncId} {fn:Func} {c:Code} {args:Array Value} {h:GH} {R:Value→GH→Prop} (hf:P.funcs[f]? =some fn) (hb:fn.body=some c) (hsz:args.size≤fn.ntmps) (hin:P.inits.idxOf? f=none) (hpost:∀v h',R v h'→∀w,Dz w h'→Post v w)
  (x:Tr ⟨Wa P Post,f,none,fn.ntmps⟩ c (fun i=>args.getD i undef) [] h (fun e σ ds h'=>(e=.normal∨e=.ret)∧Gx P fn σ R ds h')):D2 P Post (G (Frame.enter P f args .normal) []) h:=by
 have e0:Frame.enter P f args .normal=Cp (Frame.enter P f args .normal) (args++Array.replicate (fn.ntmps-args.size) undef) [] [.code c]:=by
  simp [Frame.enter,Cp,hf,hb]
 rw [e0];let L:Lv:=fun j t ds h'=>(j=none∨j=some .ret)∧∃σ,Bs t fn.ntmps σ∧Gx P fn σ R ds h';have fin:∀σ ds h' t k,Bs t fn.ntmps σ→Gx P fn σ R ds h'→(Wa P Post).K (G (Dt (Frame.enter P f args .normal) t ds k) []) h':=by
  intro σ ds h' t k hs ho;refine MV (W:=Wa P Post) (R:=R) hf (b:=Frame.enter P f args .normal) rfl (fun t k v h h' hr hrun=>?_) ds h' t k hs ho;refine Tz rfl fun w fw=>?_;obtain ⟨w',es,r1,r2⟩:=hrun w fw;refine ⟨v,w',seen P f es++ #[],h',?_,r2.sub (es':=seen P f es++ #[]) fun e he=>?_,hpost v h' hr w' r2.fits⟩
  ·rw [KN];unfold unwind;have hfn:(Dt (Frame.enter P f args .normal) t [] k).fn=f:=rfl;have hk:(Dt (Frame.enter P f args .normal) t [] k).kind=.normal:=rfl;have hm:(Dt (Frame.enter P f args .normal) t [] k).mode=.returning:=rfl;have hd:(Dt (Frame.enter P f args .normal) t [] k).defers=[]:=rfl;have ht:(Dt (Frame.enter P f args .normal) t [] k).tmps=t:=rfl;simp only [hd,hm,hfn,hf,ht,r1,GStep.after,doReturn,hk,hin];rfl
  ·rw [Array.append_empty] at he;exact mem_seen he
 refine x (Frame.enter P f args .normal) [] [] L _ rfl rfl ⟨?_,?_,?_⟩ ⟨by simp;omega,fun i=>?_⟩ ?_
 ·rintro t ds h' ⟨_,σ,hs,ho⟩;exact Wk.go (Dt (Frame.enter P f args .normal) t ds []) (fun w=>by rw [BI];simp [stepG.exec,Cp,Dt,G,Frame.enter]) (fin σ ds h' t [] hs ho)
 ·rintro t ds h' k ⟨_,σ,hs,ho⟩;exact Wk.go (Dt (Frame.enter P f args .normal) t ds (.code .ret ::k)) (fun w=>by rw [BI];simp [stepG.exec,Cp,Dt,G,Frame.enter]) (fin σ ds h' t _ hs ho)
 ·rintro id t ds h' k _ ⟨h1 | h1,_⟩ <;> cases h1
 ·by_cases hi:i<args.size
  ·simp [Array.getD_eq_getD_getElem?,Array.getElem?_append_left hi]
  ·simp only [Array.getD_eq_getD_getElem?];rw [Array.getElem?_append_right (by omega),Array.getElem?_eq_none (show args.size≤i by omega),Array.getElem?_replicate];split <;> rfl
 ·rintro e σ ds h' ⟨he,ho⟩ t' ht';rcases he with rfl | rfl
  ·exact Wk.go (Dt (Frame.enter P f args .normal) t' ds []) (fun w=>by rw [BI];simp [stepG.exec,Cp,Dt,G,Frame.enter]) (fin σ ds h' t' [] ht' ho)
  ·exact ⟨.inr rfl,σ,ht',ho⟩
def GH.of (W:World):GH:=fun b=>(W.heap[b]?).map fun o=>(false,o)
theorem GH.of_some {W:World} {b:Nat} {o:Obj} (h:W.heap[b]? =some o):GH.of W b=some (false,o):=by unfold GH.of;rw [h];rfl
theorem fits_of (W:World):Dz W (GH.of W):=fun b p o h=>by
 unfold GH.of at h;cases e:W.heap[b]? with
 | none=>rw [e] at h;cases h
 | some x=>rw [e] at h;cases h;rfl
theorem kept_of {W w:World} {h:GH} (l:(GH.of W).Le h) (f:Dz w h) {b:Nat} {o:Obj} (hb:W.heap[b]? =some o):w.heap[b]? =some o:=f b _ _ (l.keep (GH.of_some hb) rfl)
theorem Uz {g:Goroutine} {W:World} (hg:D2 P Post g (GH.of W)):Bo P (IY Post W.os W.output) (solo g W) #[]:=by
 have hno:∀k a,touchAt (#[]:Trace) k=some a→False:=fun k a h=>by
  obtain ⟨op,h1,_⟩:=touch_of h;simp at h1
 refine hg #[g] W none (fun _=>0) #[] ⟨rfl,?_,fits_of W,?_,?_,fun k a b hk=>(hno k a hk).elim,?_,fun k a hk=>(hno k a hk).elim,fun b p o k a _ _ hk=>(hno k a hk).elim⟩
 ·intro j x hj hx;rw [Array.getElem?_eq_none (by simp;omega)] at hx;cases hx
 ·intro op hop;simp at hop
 ·rintro said ⟨i,j,hij,⟨a,b,ha,_⟩,_⟩;exact hno i a ha
 ·intro op hop;simp at hop
end
end Go.Ns
namespace Go.Ns
open Go.Conc Go.ChangeShapes Go.WideShapes Go.ChangeAt Go.RowKit
section
variable {P:Program} {W:World}
theorem U0 {b off n:Nat} {cs:List Value} (h:W.cells? 0 ⟨b,off,none⟩ n=some cs) (hn:0<n):Ac (GH.of W) b off n cs.toArray:=by
 obtain ⟨_,hl,hc⟩:=World.cells?_some h;have hcell:∀i,i<n→W.cell? ⟨b,off+i,none⟩=cs[i]? :=fun i hi=>by
  have:=hc i hi
  unfold Addr.add at this;split at this
  ·rename_i e;subst e;exact this
  ·exact this
 have h0:=hcell 0 hn;unfold World.cell? at h0;cases hb:W.heap[b]? with
 | none=>simp [hb,List.getElem?_eq_getElem (show 0<cs.length by omega)] at h0
 | some o=>
  cases o with
  | cells c t f=>
   have hall:∀i,i<n→c[off+i]? =cs[i]? :=fun i hi=>by
    have:=hcell i hi
    unfold World.cell? at this;simpa [hb] using this
   have hlast:=hall (n-1) (by omega);rw [List.getElem?_eq_getElem (show n-1<cs.length by omega)] at hlast;have hsz:=(Array.getElem?_eq_some_iff.1 hlast).1;refine ⟨false,c,t,f,GH.of_some hb,by omega,?_⟩;apply Array.ext
   ·simp;omega
   ·intro i h1 h2;have hi:i<n:=by simp at h2;omega
    have:=hall i hi
    rw [Array.getElem?_eq_getElem (by omega),List.getElem?_eq_getElem (by omega)] at this;simpa using this
  | _=>simp [hb,List.getElem?_eq_getElem (show 0<cs.length by omega)] at h0
def TL (P:Program) (e:TypeId) {α:Type} (enc:α→Array Value) (good:α→Prop):Prop:=
 ∀{H:Type} (en:TypeId×Value→H) (W:World) (base:Nat) (sp:Nat→Bool) (held:Bool) (fuel:Nat) (cs:List Value) (x:DataW H×List MemPlace),DataW.trod en P W base sp held fuel e cs=some x→∃a:α,cs=(enc a).toList∧good a
theorem ND {H:Type} {en:TypeId×Value→H} {sp:Nat→Bool} {held:Bool} {fuel:Nat} {t e:TypeId} {n:Nat} {α:Type} {enc:α→Array Value} {good:α→Prop} {v:Value} {d:DataW H} {ps:List MemPlace} (ht:P.underlying t=some (.slice e)) (hc:P.cellsOf e=n) (hn:0<n)
  (ho:TL P e enc good) (h:DataW.trod en P W 0 sp held fuel t [v]=some (d,ps)) (hw:∀es rs,d=.slice es rs→es.length≤140737488355328):∃xs:List α,AO (GH.of W) v n enc xs∧∀x ∈ xs,good x:=by
 rcases DataW.trod_slice ht h with ⟨h1,_⟩ | ⟨a,len,cap,elems,rest,m,rfl,h1,h2,_,hl,_,hlen,hel,_,_⟩
 ·simp at h1;subst h1;exact ⟨[],AO.nil _ _ _,fun x hx=>by cases hx⟩
 ·simp only [List.cons.injEq,and_true] at h1;subst h1;simp only [Prod.mk.injEq] at h2;have hlim:len≤140737488355328:=by
   have:=hw _ _ h2.1
   simpa [hlen] using this
  have each:∀i,i<len→∃x:α,∃b off,a=⟨b,off,none⟩∧Ac (GH.of W) b (off+i*n) n (enc x)∧good x:=fun i hi=>by
   have:=hel i hi
   rw [List.getElem?_eq_getElem (by omega),hc] at this;simp only [Option.bind_eq_some_iff] at this;obtain ⟨cs,hcs,hx⟩:=this;obtain ⟨x,e1,e2⟩:=ho _ _ _ _ _ _ _ _ hx;have hc0:=(World.cells?_some hcs).2.2 0 hn;have hlen2:=(World.cells?_some hcs).2.1;rw [List.getElem?_eq_getElem (show 0<cs.length by omega)] at hc0;have hsp:=World.cell?_spot hc0;obtain ⟨b,off,spot⟩:=a;have hspot:spot=none∨i≠0:=by
    by_cases e0:i=0
    ·subst e0;left;simpa [Addr.add] using hsp
    ·exact .inr e0
   have hfirst:spot=none:=by
    rcases hspot with e | e
    ·exact e
    ·have h00:=hel 0 (by omega);rw [List.getElem?_eq_getElem (by omega),hc] at h00;simp only [Option.bind_eq_some_iff] at h00;obtain ⟨c0,hc00,_⟩:=h00;have z:=(World.cells?_some hc00).2.2 0 hn;have zl:=(World.cells?_some hc00).2.1;rw [List.getElem?_eq_getElem (show 0<c0.length by omega)] at z
     have:=World.cell?_spot z
     simpa [Addr.add] using this
   subst hfirst;refine ⟨x,b,off,rfl,?_,e2⟩;have ea:(Addr.add ⟨b,off,none⟩ (i*n))=⟨b,off+i*n,none⟩:=by
    unfold Addr.add;split
    ·rename_i e;rw [e];rfl
    ·rfl
   rw [ea] at hcs
   have:=U0 hcs hn
   rw [e1] at this;simpa using this
  by_cases hz:len=0
  ·subst hz;exact ⟨[],⟨some a,cap,rfl,Nat.zero_le _,Nat.zero_le _,fun i hi=>by simp at hi⟩,fun x hx=>by cases hx⟩
  ·have hch:∀i:Fin len,∃x:α,∃b off,a=⟨b,off,none⟩∧Ac (GH.of W) b (off+i.val*n) n (enc x)∧good x:=fun i=>each i.val i.isLt;refine ⟨List.ofFn fun i=>Classical.choose (hch i),⟨some a,cap,by rw [List.length_ofFn],by rw [List.length_ofFn];exact hl,by rw [List.length_ofFn];exact hlim,fun i hi=>?_⟩,fun x hx=>?_⟩
   ·rw [List.length_ofFn] at hi;obtain ⟨b,off,e1,e2,_⟩:=Classical.choose_spec (hch ⟨i,hi⟩);refine ⟨b,off,by rw [e1],?_⟩;rw [List.getElem_ofFn];exact e2
   ·obtain ⟨i,rfl⟩:=List.mem_ofFn.1 hx;obtain ⟨_,_,_,_,e3⟩:=Classical.choose_spec (hch i);exact e3
theorem GL {H:Type} {en:TypeId×Value→H} {t:TypeId} (hl:laidOutB P=true) (hr:P.readableRec t=true) (hrow:t<P.types.size) {W':World} {v:Value} {d:DataW H} {ps:List MemPlace} (h:DataW.Trod en P W 0 (fun _=>true) true t v d ps)
  (hk:∀(b:Nat) (o:Obj),W.heap[b]? =some o→W'.heap[b]? =some o) (hlt:∀x ∈ ps,x.block<W.heap.size):DataW.Trod en P W' 0 (fun b=>decide (b<W.heap.size)) true t v d ps:=by
 let W2:World:={ W' with os:=W.os,tape:=W.tape,output:=W.output };have hsz:W.heap.size≤W'.heap.size:=by
  rcases Nat.lt_or_ge W'.heap.size W.heap.size with x | x
  ·have:=hk W'.heap.size _ (Array.getElem?_eq_getElem x)
   rw [Array.getElem?_eq_none (Nat.le_refl _)] at this;cases this
  ·exact x
 have hb:Below W.heap.size W W2:=⟨rfl,rfl,rfl,hsz,fun k hk'=>by
  show W'.heap[k]? =_;rw [Array.getElem?_eq_getElem hk'];exact hk k _ (Array.getElem?_eq_getElem hk')⟩
 exact DataW.Trod.of_heap (w:=W2) (w':=W') rfl (Below.trod hl hr hrow h hb hlt)
theorem ZV {W':World} (hk:∀(b:Nat) (o:Obj),W.heap[b]? =some o→W'.heap[b]? =some o) (ho:W'.os=W.os) (hp:W'.output=W.output) (may:MemPlace→Prop):W.keptBut W' may:=by
 refine ⟨ho,hp,fun i hi=>?_⟩;rw [hk i _ (Array.getElem?_eq_getElem hi),Array.getElem?_eq_getElem hi];split <;> simp_all
end
end Go.Ns
namespace Go.Ns
open Go.Conc
universe u
theorem Z {α:Sort u} {a:α}:a=a:=rfl
theorem Lr {h:GH}:GH.Le h h:=GH.Le.refl h
theorem Ln {h h':GH} (l:h.Le h') {r:Nat} (hr:h' r=none):h r=none:=l.nothing hr
theorem DX {h:GH} {b r:Nat} {p:Bool} {o:Obj} (hb:h b=some (p,o)) (hr:h r=none):b≠r:=GH.ne_of hb hr
theorem Nb {a b:Nat} (h:Nat.ble a b=true):a≤b:=Nat.le_of_ble_eq_true h
theorem Dn {p:Prop} [Decidable p] (h:¬¬p):p:=Decidable.not_not.1 h
theorem Et {α:Sort u} {a b c:α} (x:a=b) (y:b=c):a=c:=x.trans y
theorem Kl {h0 h:GH} (k:D5 (fun b=>h0 b=none) h0 h):h0.Le h:=k.leOf
theorem Bx {h:GH} {b:Nat} {p:Bool} {c:Array Value} {t:TypeId} {f:Nat×Nat} (hb:h b=some (p,.cells c t f)) {n:Nat} (hn:c.size=n):Ac h b 0 n c:=Ac.box hb hn
abbrev lE (v:Value):IE:=fun _ u _=>u=v
abbrev lF (v:Value):PK:=fun u _=>u=v
abbrev zP:Array Value:=#[.int .i64 0,.int .i64 0,.slice none 0 0,.slice none 0 0,.slice none 0 0,.slice none 0 0,.map none]
section
variable {P:Program} {E:HI P} {σ:Nat→Value} {ds:List Deferred} {h:GH} {Q:Post} {T:(Nat→Value)→List Deferred→GH→Prop}
variable {dst:Option Nat} {ty:TypeId} {pos:String} {af:Array Edge} {ops:Array Oper} {o:Oper} {l:List Oper}
theorem Sq {x y:Code} (a:Tr E x σ ds h (fun e σ' ds' h'=>match e with | .normal=>Tr E y σ' ds' h' Q | e=>Q e σ' ds' h')):Tr E (.seq x y) σ ds h Q:=Af a
theorem Rg {id:Nat} {l:List Oper} (a:ER E l.toArray l σ ds h Q):Tr E (.region id l.toArray false) σ ds h Q:=AS a
theorem Nl (q:Q .normal σ ds h):ER E ops [] σ ds h Q:=AZ q
abbrev Rt:=@DL
abbrev Bk:=@CU
abbrev Sk:=@CS
abbrev Xt:=@FP
def ZW (N:Nat) (o:Oper):Bool:=o.guard.isNone && !EH o.op && En o.dst N
theorem Pl (hp:ZW E.N o=true) (x:Br E o σ ds h fun σ' ds' h'=>ER E ops l σ' ds' h' Q):ER E ops (o ::l) σ ds h Q:=by
 simp only [ZW,Bool.and_eq_true,Option.isNone_iff_eq_none,Bool.not_eq_true'] at hp;exact AA hp.1.1 hp.1.2 hp.2 x
theorem Mv {x:Operand} (v:Value) (hp:En dst E.N=true) (hx:AY σ x=v) (k:ER E ops l (putS σ dst v) ds h Q):ER E ops (⟨dst,.move x,ty,pos,af,none⟩ ::l) σ ds h Q:=AA rfl rfl hp (AB hx k)
theorem As {x:Operand} (v:Value) (hp:En dst E.N=true) (hx:AY σ x=v) (k:ER E ops l (putS σ dst v) ds h Q):ER E ops (⟨dst,.assign x,ty,pos,af,none⟩ ::l) σ ds h Q:=AA rfl rfl hp (AU hx k)
theorem Ld {t:TypeId} {x:Operand} {b off:Nat} (v:Value) (hp:En dst E.N=true) (hx:AY σ x=.pointer (some ⟨b,off,none⟩)) (hr:Rd P h t b off v) (k:ER E ops l (putS σ dst v) ds h Q):ER E ops (⟨dst,.load t x,ty,pos,af,none⟩ ::l) σ ds h Q:=
 AA rfl rfl hp (AE hx hr k)
theorem Fa {s:TypeId} {x:Operand} {f o b off:Nat} (hf:DR P s f=some o) (hp:En dst E.N=true) (hx:AY σ x=.pointer (some ⟨b,off,none⟩)) (k:ER E ops l (putS σ dst (.pointer (some ⟨b,off+o,none⟩))) ds h Q) :
  ER E ops (⟨dst,.fieldAddr s x f,ty,pos,af,none⟩ ::l) σ ds h Q:=AA rfl rfl hp (AD hf hx k)
theorem Pk {c a b:Operand} (t:Bool) (v:Value) (hp:En dst E.N=true) (hc:AY σ c=.bool t) (hv:(if t then AY σ a else AY σ b)=v) (k:ER E ops l (putS σ dst v) ds h Q):ER E ops (⟨dst,.pick c a b,ty,pos,af,none⟩ ::l) σ ds h Q:=
 AA rfl rfl hp (Al hc hv k)
theorem Ad {xt yt:TypeId} {x y:Operand} (a b:Int) (hp:En dst E.N=true) (hx:AY σ x=.int .i64 a) (hy:AY σ y=.int .i64 b) (hr: -9223372036854775808≤a+b∧a+b≤9223372036854775807) (k:ER E ops l (putS σ dst (.int .i64 (a+b))) ds h Q) :
  ER E ops (⟨dst,.binOp .add xt x y yt,ty,pos,af,none⟩ ::l) σ ds h Q:=AA rfl rfl hp (Bt hx hy hr k)
def skipB (N:Nat) (ops:Array Oper) (o:Oper) (j d:Nat) (is:Bool):Bool:=(match o.guard with
 | some (i,w)=>i==j && w !=is
 | none=>false) && (match ops[j]? with
 | some oj=>(match oj.dst with
  | some e=>e==d
  | none=>false)
 | none=>false) && Nat.blt d N && En o.dst N
theorem Gs (j d:Nat) {is:Bool} (hv:σ d=.bool is) (hs:skipB E.N ops o j d is=true) (x:ER E ops l (putS σ o.dst undef) ds h Q):ER E ops (o ::l) σ ds h Q:=by
 simp only [skipB,Bool.and_eq_true] at hs;obtain ⟨⟨⟨h1,h2⟩,h3⟩,h4⟩:=hs;cases hg:o.guard with
 | none=>rw [hg] at h1;cases h1
 | some q=>
  obtain ⟨i,w⟩:=q;rw [hg] at h1;simp only [Bool.and_eq_true,beq_iff_eq,bne_iff_ne,ne_eq] at h1;obtain ⟨rfl,hne⟩:=h1;cases hj:ops[i]? with
  | none=>rw [hj] at h2;cases h2
  | some oj=>
   cases hd:oj.dst with
   | none=>simp [hj,hd] at h2
   | some e=>
    obtain rfl:e=d:=by simpa [hj,hd] using h2
    exact AT hg hj hd hv h3 hne h4 x
def goB (N:Nat) (ops:Array Oper) (o:Oper) (j d:Nat) (is:Bool):Bool:=(match o.guard with
 | some (i,w)=>i==j && w==is
 | none=>false) && (match ops[j]? with
 | some oj=>(match oj.dst with
  | some e=>e==d
  | none=>false)
 | none=>false) && Nat.blt d N && !EH o.op && En o.dst N
theorem Gg (j d:Nat) {is:Bool} (hv:σ d=.bool is) (hs:goB E.N ops o j d is=true) (x:Br E o σ ds h fun σ' ds' h'=>ER E ops l σ' ds' h' Q):ER E ops (o ::l) σ ds h Q:=by
 simp only [goB,Bool.and_eq_true,Bool.not_eq_true'] at hs;obtain ⟨⟨⟨⟨h1,h2⟩,h3⟩,h5⟩,h4⟩:=hs;cases hg:o.guard with
 | none=>rw [hg] at h1;cases h1
 | some q=>
  obtain ⟨i,w⟩:=q;rw [hg] at h1;simp only [Bool.and_eq_true,beq_iff_eq] at h1;obtain ⟨rfl,rfl⟩:=h1;cases hj:ops[i]? with
  | none=>rw [hj] at h2;cases h2
  | some oj=>
   cases hd:oj.dst with
   | none=>simp [hj,hd] at h2
   | some e=>
    obtain rfl:e=d:=by simpa [hj,hd] using h2
    exact Ai hg hj hd hv h3 (.inr h5) h4 x
end
section
variable {S:Nat→Prop} {Pre:Nat→GH→Prop} {Φ:List IE} {cl:List Nat} {k d:Nat} {h h':GH} {σ:Nat→Value} {ds:List Deferred} {v:Value}
theorem fS (p:GF Φ k (putS σ (some d) v) v h):ds=ds∧St (D5 S) Pre Φ cl k h h∧∃w,putS σ (some d) v=putS σ (some d) w∧GF Φ k (putS σ (some d) v) w h∧((some d:Option Nat)=none→w=undef):=
 ⟨rfl,St.same,_,rfl,p,fun e=>by cases e⟩
theorem fT (l:h.Le h') (m:D0 GH.Le Φ) (p:GF Φ k (putS σ (some d) v) v h'):ds=ds∧St (D5 S) (fun _ _=>True) Φ cl k h h'∧∃w,putS σ (some d) v=putS σ (some d) w∧GF Φ k (putS σ (some d) v) w h'∧((some d:Option Nat)=none→w=undef):=
 ⟨rfl,St.ofLe l m (fun _ _ _ _ _=>trivial),_,rfl,p,fun e=>by cases e⟩
theorem fL {Φ:List PK} (p:LC Φ k v h):ds=ds∧GH.Le h h∧∃w,putS σ (some d) v=putS σ (some d) w∧LC Φ k w h:=⟨rfl,GH.Le.refl _,_,rfl,p⟩
theorem L1 {R:GH→GH→Prop} {a:Value} (x:D0 R Φ):D0 R (lE a ::Φ):=⟨fun _ _ _ _ _ y=>y,x⟩
theorem L2 {R:GH→GH→Prop} {a b:Value} (x:D0 R Φ):D0 R (lE a ::lE b ::Φ):=L1 (L1 x)
theorem L4 {R:GH→GH→Prop} {a b c d:Value} (x:D0 R Φ):D0 R (lE a ::lE b ::lE c ::lE d ::Φ):=L2 (L2 x)
theorem L8 {R:GH→GH→Prop} {a b c d a' b' c' d':Value} (x:D0 R Φ):D0 R (lE a ::lE b ::lE c ::lE d ::lE a' ::lE b' ::lE c' ::lE d' ::Φ):=L4 (L4 x)
theorem K1 {R:GH→GH→Prop} {Φ:List PK} {a:Value} (x:FZ R Φ):FZ R (lF a ::Φ):=⟨fun _ _ _ _ y=>y,x⟩
theorem K2 {R:GH→GH→Prop} {Φ:List PK} {a b:Value} (x:FZ R Φ):FZ R (lF a ::lF b ::Φ):=K1 (K1 x)
theorem K4 {R:GH→GH→Prop} {Φ:List PK} {a b c d:Value} (x:FZ R Φ):FZ R (lF a ::lF b ::lF c ::lF d ::Φ):=K2 (K2 x)
theorem K8 {R:GH→GH→Prop} {Φ:List PK} {a b c d a' b' c' d':Value} (x:FZ R Φ):FZ R (lF a ::lF b ::lF c ::lF d ::lF a' ::lF b' ::lF c' ::lF d' ::Φ):=K4 (K4 x)
end
theorem Dk {P:Program} {E:HI P} {S:Nat→Prop} {id:Nat} {l:List Oper} {σ:Nat→Value} {ds:List Deferred} {h:GH} {Q:Post} {Φ:List IE} (_:D0 GH.Le Φ) (n:Nat) (cls:List (List Nat)) (Pre:Nat→GH→Prop)
  (hm:P.follows .mixedOrders=true) (ok:FQ E.N l n cls=true) (p0:∀k,k<n→Pre k h) (ind:RI l n cls Φ) (x:JI (D5 S) Pre E l n Φ σ ds h Q n 0 l cls):Tr E (.region id l.toArray true) σ ds h Q:=
 Wo n cls Φ Pre hm ok p0 ind x
end Go.Ns
namespace Go.Ns
open Go.Conc
abbrev J (x:Int):Value:=.int .i64 x
abbrev Pt (b:Nat):Value:=.pointer (some ⟨b,0,none⟩)
abbrev Sc (b:Nat) (n c:Nat):Value:=.slice (some ⟨b,0,none⟩) n c
abbrev Q10 (a:List Good) (b:Nat):=decide (((¬(0≤((a.getD b Good.z).cost)∧((a.getD b Good.z).cost)≤999))∨(¬(1≤((a.getD b Good.z).pack)∧((a.getD b Good.z).pack)≤20)))∨(¬(FC ((a.getD b Good.z).low) ((a.getD b Good.z).high))))
abbrev Z7 (a:Int) (b:Int) (c:List Good) (d:List AC) (e:List AH) (f:Int) (g:Int) (h:Int):=Ao a b c d e [if (decide (0≤f∧f≤(c.length:Int)-1)) then (0:Int) else 6,if (decide (1≤g∧g≤a)) then (0:Int) else 1,if (decide (g≤h∧h≤a)) then (0:Int) else 1]
abbrev IK (a:Int) (b:List Good) (c:List AC) (d:List AH) (e:Int) (f:Nat):=(AV a b c d e).getD ((f:Int)).toNat AW.zero
abbrev YQ:Array Value:=#[J 0,J 0,J 0,J 0,J 0,J 0,J 0,J 0,J 0,.bool false,.bool false,.bool false,.bool false,.bool false,.bool false]
abbrev Tv (a:Int) (b:List AC):=decide ((0≤a∧a≤(b.length:Int)-1)∧(b.getD a.toNat AC.z).kind=0)
abbrev Z8 (a:Int) (b:Int) (c:List Good) (d:List AC) (e:List AH) (f:Int) (g:Int):=Ao a b c d e [if (decide (0≤f∧f≤(c.length:Int)-1)) then (0:Int) else 6,if (decide (0≤g∧g≤a)) then (0:Int) else 1]
abbrev Q1c (a:List Good) (b:Nat):Array Value:=#[.string ((a.getD b Good.z).name),J ((a.getD b Good.z).cost),J ((a.getD b Good.z).pack),J ((a.getD b Good.z).low),J ((a.getD b Good.z).high)]
abbrev Rm (a:Int):=J1 (J1 a (EV a 13)) ((J1 a (EV a 13)) / 128)
abbrev Q1f (a:List AC) (b:Nat):Array Value:=#[J ((a.getD b AC.z).kind),J ((a.getD b AC.z).good),J ((a.getD b AC.z).day),J ((a.getD b AC.z).low),J ((a.getD b AC.z).high)]
abbrev Z9 (a:Int) (b:Int) (c:List Good) (d:List AC) (e:List AH) (f:Int):=Ao a b c d e [if (decide (0≤f∧f≤(d.length:Int)-1)) then (0:Int) else 6]
abbrev JD (a:List AC) (b:Nat):=(a.getD b AC.z).day
abbrev Q1m (a:List AH) (b:Nat):Array Value:=#[J ((a.getD b AH.z).good),J ((a.getD b AH.z).day),J ((a.getD b AH.z).low),J ((a.getD b AH.z).high)]
abbrev Q1n (a:Int) (b:Int) (c:List Good) (d:List AC) (e:List AH) (f:Int):=Ao a b c d e [if (decide (0≤f∧f≤a)) then (0:Int) else 1]
abbrev Q1p (a:List Good) (b:Nat):=FC ((a.getD b Good.z).low) ((a.getD b Good.z).high)
abbrev PZ (a:List AW) (b:Int):=a.getD (b.toNat) AW.zero
abbrev Q1u (a:List Int) (b:List Int):=decide ((((a).length:Int)<((b).length:Int))∨((((a).length:Int)=((b).length:Int))∧(JB a b<0)))
abbrev Rn (a:List AC) (b:Nat):=(a.getD b AC.z).good
abbrev NE (a:List Good) (b:Nat):=(a.getD b Good.z).pack
abbrev Q1z (a:List Int) (b:List Int):=decide (((a.length:Int)<(b.length:Int))∨(((a.length:Int)=(b.length:Int))∧((JB a b)<0)))
abbrev YR (a:Int) (b:List Good):=decide (0≤a∧a≤(b.length:Int)-1)
abbrev Oa (a:List AC) (b:Nat):=(a.getD b AC.z).kind
abbrev Q24 (a:Int) (b:Int):=decide (((0≤a∧a≤b)∧b≤99)∧((b-a)<3))
abbrev Q25 (a:Array Int) (b:Nat) (c:Nat):=(a.setIfInBounds b (a[c]!)).setIfInBounds c (a[b]!)
abbrev QT (a:List Good) (b:Nat):=(a.getD b Good.z).cost
abbrev Q27 (a:ByteArray) (b:Nat):=decide ((¬(FI ((bytesOf a).getD b 0)))∧(((b:Int)=0)∨(¬(FR ((bytesOf a).getD b 0)))))
abbrev ZX (a:List Int) (b:List Int):=(AW.zero.setFirsts a).setManys b
abbrev Pa:Value:=.slice none 0 0
abbrev Q2c (a:Int) (b:Int) (c:Int) (d:Int):=decide (((a≤b)∧(b≤c))∧(c≤d))
abbrev Tw (a:Int) (b:Int):Value:=.bool (decide (a≤b))
abbrev Q2e (a:Int) (b:Int):=decide ((¬(1≤a∧a≤99))∨(¬(0≤b∧b≤2)))
abbrev Tx (a:List Good) (b:Nat):=(a.getD b Good.z).name
abbrev Q2j (a:List AC) (b:Nat):=(a.getD (((b:Int)-1).toNat) AC.z).day
abbrev XV (a:List AC) (b:AW) (c:AH):=(AM a b c.good c.day).1
abbrev Q2l (a:Nat) (b:Nat) (c:Array Int) (d:Nat):=decide (((a:Int)≤(b:Int))∧(¬((c[b]!)<(c[d]!))))
abbrev Q2m (a:List AC) (b:List Int) (c:List Int) (d:List Int) (e:List AH) (f:Nat):=Ar a b c d ((e.getD f AH.z).good) ((e.getD f AH.z).day) a.length
abbrev YS (a:Int) (b:Int):=decide (0≤a∧a≤b)
abbrev M4 (a:List Int) (b:Nat):=J (a.getD b 0)
abbrev Q2q (a:List Good) (b:List AC) (c:List AH):=decide (((20<(a.length:Int))∨(20<(b.length:Int)))∨(20<(c.length:Int)))
abbrev Q2r (a:AH) (b:Int):=decide ((¬(0≤a.day∧a.day≤b))∨(¬((0≤a.low∧a.low≤a.high)∧a.high≤999)))
abbrev Q2s (a:List Int):=a.getD (((a.length:Int)-1).toNat) 0
abbrev Q2t (a:Int) (b:List AC):=decide (0≤a∧a≤(b.length:Int)-1)
abbrev YT (a:ByteArray) (b:Nat):=(bytesOf a).getD b 0
abbrev Q2v (a:List Good) (b:Nat):Array Value:=#[J ((a.getD b Good.z).low),J ((a.getD b Good.z).high)]
abbrev Ob (a:Int) (b:Int) (c:Value) (d:Value) (e:Value):Value:=.agg #[J a,J b,c,d,e]
abbrev Q2x:=Ap AW.zero
abbrev Q2y (a:Nat) (b:Nat):=J ((a:Int)+((((b:Int)-(a:Int)) / 4)*2))
abbrev Q2z (a:Int):=J1 a (EV a 13)
abbrev Q30 (a:Nat) (b:Int) (c:Array Int) (d:Nat):=decide (((((2*(a:Int))+1)+1)<b)∧((c[(d+((2*a)+1))]!)<(c[((d+((2*a)+1))+1)]!)))
abbrev Q31:Array Value:=#[.func (.func 194) #[] #[],.func (.func 195) #[] #[],.func (.func 196) #[] #[],.func (.func 197) #[] #[]]
abbrev Wb (a:List AH) (b:Nat):=a.getD b AH.z
abbrev Q33 (a:Int) (b:Int) (c:Int):=decide ((a≤b)∧(b≤c))
abbrev Q34 (a:Array Int) (b:Nat) (c:Nat):=a.setIfInBounds b (a[c]!)
abbrev Kk (a:Int) (b:Int) (c:List Good) (d:List AC) (e:List AH):=Av a b c d e
abbrev Q36 (a:AH):Array Value:=#[J a.good,J a.day,J a.low,J a.high]
abbrev Q37 (a:Nat) (b:Nat):=J ((a:Int)-(b:Int))
abbrev Q38 (a:Nat) (b:Nat) (c:Array Int):=decide (((a:Int)<(b:Int))∧((c[b]!)<(c[((b:Int)-1).toNat]!)))
abbrev Q39 (a:Nat) (b:List Int) (c:List Int):=decide (((a:Int)<((b).length:Int))∧((a:Int)<((c).length:Int)))
abbrev Q3a (a:Nat) (b:Array Int) (c:Nat):=decide ((0<(a:Int))∧(¬((b[((a:Int)-1).toNat]!)<(b[c]!))))
abbrev Q3b (a:List Int) (b:Nat) (c:List Int):=M2 (a.getD b 0) (c.getD b 0)
abbrev Q3c (a:ByteArray):=decide (((a.size:Int)<1)∨(10<(a.size:Int)))
abbrev Q3d (a:Int):=decide ((97≤a)∧(a≤122))
abbrev Q3e (a:Array Int) (b:Nat) (c:Nat):=decide (¬((a[b]!)<(a[c]!)))
abbrev Q3f (a:Int):=decide ((48≤a)∧(a≤57))
abbrev Q3g (a:Int) (b:Int) (c:Int):=decide (a≤b∧b≤c)
abbrev Q3h (a:List Int) (b:List Good):=BG a (b.length:Int)
abbrev Q3i (a:List Int) (b:List AC):=BG a (b.length:Int)
abbrev Q3j (a:Int):=decide (¬(0≤a∧a≤99))
abbrev Q3k (a:Int) (b:Int):=decide (1≤a∧a≤b)
abbrev Q3l (a:Nat) (b:Nat):=decide ((a:Int)≤(b:Int))
abbrev Q3m (a:Int):=decide (¬(0≤a∧a≤2))
abbrev Q3n (a:List AC) (b:AW) (c:Nat) (d:Int):Array Value:=#[J ((AM a b (c:Int) d).1),J ((AM a b (c:Int) d).2)]
abbrev Q3o (a:List AH):=Cz a 0 a.length
end Go.Ns
namespace Go.Ns
open Go.Conc Go.Proofs Go.Proofs.Tryz
theorem KK:J4 prog 102 102=some (27,1,24):=by kernel_rfl
theorem Pb:J4 prog 105 105=some (119,15,80):=by kernel_rfl
theorem fx_app22_22:J4 prog 22 22=some (99,5,48):=by kernel_rfl
theorem TM:J4 prog 23 23=some (75,5,40):=by kernel_rfl
theorem Mo:J4 prog 24 24=some (79,4,32):=by kernel_rfl
theorem Dw:J4 prog 27 27=some (3,1,8):=by kernel_rfl
theorem XW:WE prog 117=some (6,false,1):=by kernel_rfl
theorem XX:WE prog 135=some (4,false,1):=by kernel_rfl
theorem IL:MX prog 115=some (3,1):=by kernel_rfl
theorem IM:MX prog 116=some (6,1):=by kernel_rfl
theorem HF:MX prog 117=some (6,1):=by kernel_rfl
theorem XY:MX prog 174=some (5,2):=by kernel_rfl
theorem U1:AR Tryz.f100=true:=by kernel_rfl
theorem Oc:AR Tryz.f101=true:=by kernel_rfl
theorem Od:AR Tryz.f102=true:=by kernel_rfl
theorem U2:AR Tryz.f104=true:=by kernel_rfl
theorem Km:AR Tryz.f105=true:=by kernel_rfl
theorem U3:AR Tryz.f106=true:=by kernel_rfl
theorem Oe:AR Tryz.f108=true:=by kernel_rfl
theorem U4:AR Tryz.f109=true:=by kernel_rfl
theorem Ix:AR Tryz.f110=true:=by kernel_rfl
theorem Of:AR Tryz.f112=true:=by kernel_rfl
theorem Og:AR Tryz.f113=true:=by kernel_rfl
theorem Oh:AR Tryz.f114=true:=by kernel_rfl
theorem Kn:AR Tryz.f115=true:=by kernel_rfl
theorem U5:AR Tryz.f116=true:=by kernel_rfl
theorem Oi:AR Tryz.f117=true:=by kernel_rfl
theorem U6:AR Tryz.f118=true:=by kernel_rfl
theorem U7:AR Tryz.f119=true:=by kernel_rfl
theorem XZ:AR Tryz.f12=true:=by kernel_rfl
theorem Ko:AR Tryz.f120=true:=by kernel_rfl
theorem U8:AR Tryz.f121=true:=by kernel_rfl
theorem U9:AR Tryz.f122=true:=by kernel_rfl
theorem VA:AR Tryz.f123=true:=by kernel_rfl
theorem fx_call126:AR Tryz.f126=true:=by kernel_rfl
theorem fx_call127:AR Tryz.f127=true:=by kernel_rfl
theorem Oj:AR Tryz.f129=true:=by kernel_rfl
theorem Jq:AR Tryz.f13=true:=by kernel_rfl
theorem VB:AR Tryz.f136=true:=by kernel_rfl
theorem VC:AR Tryz.f137=true:=by kernel_rfl
theorem VD:AR Tryz.f138=true:=by kernel_rfl
theorem VE:AR Tryz.f139=true:=by kernel_rfl
theorem QU:AR Tryz.f14=true:=by kernel_rfl
theorem Ok:AR Tryz.f140=true:=by kernel_rfl
theorem VF:AR Tryz.f142=true:=by kernel_rfl
theorem Ol:AR Tryz.f143=true:=by kernel_rfl
theorem VG:AR Tryz.f144=true:=by kernel_rfl
theorem VH:AR Tryz.f145=true:=by kernel_rfl
theorem VI:AR Tryz.f146=true:=by kernel_rfl
theorem Kp:AR Tryz.f147=true:=by kernel_rfl
theorem Om:AR Tryz.f148=true:=by kernel_rfl
theorem Kq:AR Tryz.f149=true:=by kernel_rfl
theorem fx_call151:AR Tryz.f151=true:=by kernel_rfl
theorem fx_call152:AR Tryz.f152=true:=by kernel_rfl
theorem Kr:AR Tryz.f153=true:=by kernel_rfl
theorem On:AR Tryz.f154=true:=by kernel_rfl
theorem VJ:AR Tryz.f155=true:=by kernel_rfl
theorem VK:AR Tryz.f156=true:=by kernel_rfl
theorem VL:AR Tryz.f157=true:=by kernel_rfl
theorem VM:AR Tryz.f158=true:=by kernel_rfl
theorem VN:AR Tryz.f159=true:=by kernel_rfl
theorem QV:AR Tryz.f16=true:=by kernel_rfl
theorem VO:AR Tryz.f160=true:=by kernel_rfl
theorem VP:AR Tryz.f161=true:=by kernel_rfl
theorem VQ:AR Tryz.f162=true:=by kernel_rfl
theorem VR:AR Tryz.f163=true:=by kernel_rfl
theorem VS:AR Tryz.f164=true:=by kernel_rfl
theorem VT:AR Tryz.f165=true:=by kernel_rfl
theorem Cn:AR Tryz.f166=true:=by kernel_rfl
theorem VU:AR Tryz.f167=true:=by kernel_rfl
theorem VV:AR Tryz.f168=true:=by kernel_rfl
theorem VW:AR Tryz.f170=true:=by kernel_rfl
theorem Ks:AR Tryz.f171=true:=by kernel_rfl
theorem Oo:AR Tryz.f172=true:=by kernel_rfl
theorem VX:AR Tryz.f173=true:=by kernel_rfl
theorem VY:AR Tryz.f174=true:=by kernel_rfl
theorem Kt:AR Tryz.f175=true:=by kernel_rfl
theorem Ku:AR Tryz.f176=true:=by kernel_rfl
theorem Kv:AR Tryz.f177=true:=by kernel_rfl
theorem QW:AR Tryz.f18=true:=by kernel_rfl
theorem VZ:AR Tryz.f194=true:=by kernel_rfl
theorem Va:AR Tryz.f195=true:=by kernel_rfl
theorem Vb:AR Tryz.f196=true:=by kernel_rfl
theorem Vc:AR Tryz.f197=true:=by kernel_rfl
theorem Vd:AR Tryz.f198=true:=by kernel_rfl
theorem Ve:AR Tryz.f199=true:=by kernel_rfl
theorem Xa:AR Tryz.f20=true:=by kernel_rfl
theorem Vf:AR Tryz.f200=true:=by kernel_rfl
theorem Oq:AR Tryz.f201=true:=by kernel_rfl
theorem Vg:AR Tryz.f202=true:=by kernel_rfl
theorem Or:AR Tryz.f203=true:=by kernel_rfl
theorem Kw:AR Tryz.f204=true:=by kernel_rfl
theorem Xb:AR Tryz.f22=true:=by kernel_rfl
theorem QX:AR Tryz.f23=true:=by kernel_rfl
theorem HG:AR Tryz.f25=true:=by kernel_rfl
theorem Xc:AR Tryz.f26=true:=by kernel_rfl
theorem Xd:AR Tryz.f27=true:=by kernel_rfl
theorem Xe:AR Tryz.f29=true:=by kernel_rfl
theorem QY:AR Tryz.f31=true:=by kernel_rfl
theorem QZ:AR Tryz.f33=true:=by kernel_rfl
theorem Jr:AR Tryz.f35=true:=by kernel_rfl
theorem Xf:AR Tryz.f37=true:=by kernel_rfl
theorem Xg:AR Tryz.f38=true:=by kernel_rfl
theorem Xh:AR Tryz.f39=true:=by kernel_rfl
theorem Qa:AR Tryz.f40=true:=by kernel_rfl
theorem Qb:AR Tryz.f41=true:=by kernel_rfl
theorem Js:AR Tryz.f42=true:=by kernel_rfl
theorem IN:AR Tryz.f43=true:=by kernel_rfl
theorem MF:AR Tryz.f44=true:=by kernel_rfl
theorem Xi:AR Tryz.f45=true:=by kernel_rfl
theorem Xj:AR Tryz.f46=true:=by kernel_rfl
theorem Xk:AR Tryz.f47=true:=by kernel_rfl
theorem Xl:AR Tryz.f48=true:=by kernel_rfl
theorem Qc:AR Tryz.f50=true:=by kernel_rfl
theorem Xm:AR Tryz.f58=true:=by kernel_rfl
theorem Dr:AR Tryz.f59=true:=by kernel_rfl
theorem Ds:AR Tryz.f60=true:=by kernel_rfl
theorem fx_call63:AR Tryz.f63=true:=by kernel_rfl
theorem Qd:AR Tryz.f65=true:=by kernel_rfl
theorem Xn:AR Tryz.f73=true:=by kernel_rfl
theorem Xo:AR Tryz.f74=true:=by kernel_rfl
theorem C1:AR Tryz.f75=true:=by kernel_rfl
theorem IO:AR Tryz.f76=true:=by kernel_rfl
theorem IP:AR Tryz.f77=true:=by kernel_rfl
theorem GM:AR Tryz.f78=true:=by kernel_rfl
theorem CB:AR Tryz.f79=true:=by kernel_rfl
theorem MG:AR Tryz.f80=true:=by kernel_rfl
theorem IQ:AR Tryz.f81=true:=by kernel_rfl
theorem Xp:AR Tryz.f82=true:=by kernel_rfl
theorem MH:AR Tryz.f83=true:=by kernel_rfl
theorem Xq:AR Tryz.f88=true:=by kernel_rfl
theorem Jt:AR Tryz.f89=true:=by kernel_rfl
theorem Qe:AR Tryz.f90=true:=by kernel_rfl
theorem Qf:AR Tryz.f92=true:=by kernel_rfl
theorem Xr:AR Tryz.f93=true:=by kernel_rfl
theorem Qg:AR Tryz.f94=true:=by kernel_rfl
theorem Ju:AR Tryz.f95=true:=by kernel_rfl
theorem Xs:AR Tryz.f98=true:=by kernel_rfl
theorem Xu:AR Tryz.f99=true:=by kernel_rfl
theorem Xv:prog.eqGuardType prog.depth 115=false:=by kernel_rfl
theorem Xw:prog.eqGuardType prog.depth 116=false:=by kernel_rfl
theorem Ot:prog.eqGuardType prog.depth 31=false:=by kernel_rfl
theorem fx_eqg75:prog.eqGuardType prog.depth 75=false:=by kernel_rfl
theorem fx_eqg79:prog.eqGuardType prog.depth 79=false:=by kernel_rfl
theorem fx_eqg99:prog.eqGuardType prog.depth 99=false:=by kernel_rfl
theorem GN:Eg prog 102=some 1:=by kernel_rfl
theorem Jv:Eg prog 105=some 15:=by kernel_rfl
theorem Qh:Eg prog 165=some 1:=by kernel_rfl
theorem EB:Eg prog 22=some 5:=by kernel_rfl
theorem Ch:Eg prog 23=some 5:=by kernel_rfl
theorem Xx:Eg prog 230=some 1:=by kernel_rfl
theorem IR:Eg prog 24=some 4:=by kernel_rfl
theorem AX:Eg prog 27=some 1:=by kernel_rfl
theorem ZY:Eg prog 55=some 1:=by kernel_rfl
theorem BA:DR prog 104 0=some 0:=by kernel_rfl
theorem Hw:DR prog 108 0=some 0:=by kernel_rfl
theorem C4:DR prog 108 1=some 5:=by kernel_rfl
theorem Mp:DR prog 108 2=some 6:=by kernel_rfl
theorem E0:DR prog 119 0=some 0:=by kernel_rfl
theorem E1:DR prog 119 1=some 3:=by kernel_rfl
theorem E2:DR prog 119 2=some 9:=by kernel_rfl
theorem TN:DR prog 173 1=some 1:=by kernel_rfl
theorem CW:DR prog 26 0=some 0:=by kernel_rfl
theorem Fh:DR prog 26 1=some 1:=by kernel_rfl
theorem BR:DR prog 26 2=some 2:=by kernel_rfl
theorem BF:DR prog 26 3=some 3:=by kernel_rfl
theorem CF:DR prog 26 4=some 4:=by kernel_rfl
theorem CX:DR prog 31 0=some 0:=by kernel_rfl
theorem Cf:DR prog 31 1=some 1:=by kernel_rfl
theorem HY:DR prog 57 0=some 0:=by kernel_rfl
theorem GO:DR prog 57 1=some 1:=by kernel_rfl
theorem E3:DR prog 57 2=some 2:=by kernel_rfl
theorem Df:DR prog 75 0=some 0:=by kernel_rfl
theorem Fi:DR prog 75 1=some 1:=by kernel_rfl
theorem Co:DR prog 75 2=some 2:=by kernel_rfl
theorem E4:DR prog 75 3=some 3:=by kernel_rfl
theorem HZ:DR prog 79 0=some 0:=by kernel_rfl
theorem Ha:DR prog 79 1=some 1:=by kernel_rfl
theorem EO:DR prog 79 2=some 2:=by kernel_rfl
theorem Fj:DR prog 99 0=some 0:=by kernel_rfl
theorem Hb:DR prog 99 1=some 1:=by kernel_rfl
theorem Hc:DR prog 99 2=some 2:=by kernel_rfl
theorem Fk:DR prog 99 3=some 3:=by kernel_rfl
theorem Xy:(prog.info? 27).isSome=true:=by kernel_rfl
theorem Qi:(prog.info? 27).map (·.zero)=some (some (.slice none 0 0)):=by kernel_rfl
theorem Ou:Lu prog 188=some .u64:=by kernel_rfl
theorem Vh:Lu prog 204=some .u64:=by kernel_rfl
theorem DO:Lu prog 3=some .i64:=by kernel_rfl
theorem Gh:Lu prog 5=some .u8:=by kernel_rfl
theorem Qj:J5 prog 106=some (168,3):=by kernel_rfl
theorem MI:J5 prog 159=some (3,3):=by kernel_rfl
theorem Qk:∀a:Key,Ym prog 3 168 (J0 a)=true:=by intros;kernel_rfl
theorem MJ:∀a:Int,Ym prog 3 3 (Ee a)=true:=by intros;kernel_rfl
theorem MK:∀a b:Int,NU prog 3 3 (Ee a) (Ee b)=some (a==b):=by intros;kernel_rfl
theorem Ql:∀a b:Key,NU prog 3 168 (J0 a) (J0 b)=some (a.1==b.1 && (a.2.1==b.2.1 && (a.2.2==b.2.2 && true))):=by intros;kernel_rfl
theorem Am:prog.follows .mixedOrders=true:=by kernel_rfl
theorem ZZ:(prog.info? 3).bind (·.zero)=some (.int .i64 0):=by kernel_rfl
theorem TO:(prog.info? 3).bind (·.zero)=some (.int .i64 0):=by kernel_rfl
theorem Dg:Es prog 104=some [(0,5)]:=by kernel_rfl
theorem Gi:Es prog 108=some [(0,5),(5,1),(6,1)]:=by kernel_rfl
theorem IS:Es prog 119=some [(0,3),(3,6),(9,6)]:=by kernel_rfl
theorem Za:Es prog 168=some [(0,1),(1,1),(2,1)]:=by kernel_rfl
theorem fx_pl26:Es prog 26=some [(0,1),(1,1),(2,1),(3,1),(4,1)]:=by kernel_rfl
theorem Iy:Es prog 31=some [(0,1),(1,1)]:=by kernel_rfl
theorem NF:Es prog 75=some [(0,1),(1,1),(2,1),(3,2)]:=by kernel_rfl
theorem Wc:Es prog 79=some [(0,1),(1,1),(2,2)]:=by kernel_rfl
theorem Wd:Es prog 99=some [(0,1),(1,1),(2,1),(3,2)]:=by kernel_rfl
theorem TP:Yk prog 9 230=some 5:=by kernel_rfl
theorem Jw:Eh prog 102=some (1,#[.slice none 0 0],27):=by kernel_rfl
theorem Xz:Eh prog 105=some (15,#[.int .i64 0,.int .i64 0,.int .i64 0,.int .i64 0,.int .i64 0,.int .i64 0,.int .i64 0,.int .i64 0,.int .i64 0,.bool false,.bool false,.bool false,.bool false,.bool false,.bool false],119):=by kernel_rfl
theorem GP:Eh prog 165=some (1,#[.int .i64 0],32):=by kernel_rfl
theorem Zb:Eh prog 22=some (5,#[.string ⟨#[]⟩,.int .i64 0,.int .i64 0,.int .i64 0,.int .i64 0],99):=by kernel_rfl
theorem TQ:Eh prog 23=some (5,#[.int .i64 0,.int .i64 0,.int .i64 0,.int .i64 0,.int .i64 0],75):=by kernel_rfl
theorem Ov:Eh prog 24=some (4,#[.int .i64 0,.int .i64 0,.int .i64 0,.int .i64 0],79):=by kernel_rfl
theorem Ci:Eh prog 27=some (1,#[.int .i64 0],3):=by kernel_rfl
theorem Ja:KP prog 102=true:=by kernel_rfl
theorem Gj:KP prog 105=true:=by kernel_rfl
theorem TR:KP prog 165=true:=by kernel_rfl
theorem Cr:KP prog 22=true:=by kernel_rfl
theorem C7:KP prog 23=true:=by kernel_rfl
theorem Zc:KP prog 230=true:=by kernel_rfl
theorem GX:KP prog 24=true:=by kernel_rfl
theorem B0:KP prog 27=true:=by kernel_rfl
theorem fx_sl55:KP prog 55=true:=by kernel_rfl
theorem EP:NP prog 9=true:=by kernel_rfl
theorem Jb:CZ prog 102=some (false,1):=by kernel_rfl
theorem B1:CZ prog 104=some (true,5):=by kernel_rfl
theorem Dh:CZ prog 105=some (false,1):=by kernel_rfl
theorem TS:CZ prog 106=some (false,1):=by kernel_rfl
theorem BP:CZ prog 108=some (true,7):=by kernel_rfl
theorem TT:CZ prog 115=some (true,3):=by kernel_rfl
theorem TU:CZ prog 116=some (true,6):=by kernel_rfl
theorem Zd:CZ prog 117=some (true,6):=by kernel_rfl
theorem Bc:CZ prog 119=some (true,15):=by kernel_rfl
theorem Ze:CZ prog 120=some (false,1):=by kernel_rfl
theorem Zf:CZ prog 135=some (true,4):=by kernel_rfl
theorem Zg:CZ prog 138=some (false,1):=by kernel_rfl
theorem Lk:CZ prog 147=some (false,1):=by kernel_rfl
theorem Ow:CZ prog 168=some (true,3):=by kernel_rfl
theorem Zh:CZ prog 179=some (false,1):=by kernel_rfl
theorem Hd:CZ prog 181=some (false,1):=by kernel_rfl
theorem E5:CZ prog 204=some (false,1):=by kernel_rfl
theorem CG:CZ prog 22=some (false,1):=by kernel_rfl
theorem Bj:CZ prog 23=some (false,1):=by kernel_rfl
theorem DQ:CZ prog 24=some (false,1):=by kernel_rfl
theorem Ay:CZ prog 26=some (true,5):=by kernel_rfl
theorem CT:CZ prog 27=some (false,1):=by kernel_rfl
theorem AL:CZ prog 3=some (false,1):=by kernel_rfl
theorem Bf:CZ prog 31=some (true,2):=by kernel_rfl
theorem We:CZ prog 32=some (false,1):=by kernel_rfl
theorem H5:CZ prog 4=some (false,1):=by kernel_rfl
theorem fx_ty5:CZ prog 5=some (false,1):=by kernel_rfl
theorem D1:CZ prog 57=some (true,3):=by kernel_rfl
theorem F3:CZ prog 73=some (false,1):=by kernel_rfl
theorem Ek:CZ prog 75=some (true,5):=by kernel_rfl
theorem FS:CZ prog 79=some (true,4):=by kernel_rfl
theorem Kx:CZ prog 9=some (false,1):=by kernel_rfl
theorem F4:CZ prog 99=some (true,5):=by kernel_rfl
theorem X2:(prog.underlying 179).isSome=true:=by kernel_rfl
theorem X3:(prog.underlying 188).isSome=true:=by kernel_rfl
theorem Fs:(prog.underlying 203).isSome=true:=by kernel_rfl
theorem Ro:(prog.underlying 3).isSome=true:=by kernel_rfl
theorem El:(prog.underlying 5).isSome=true:=by kernel_rfl
theorem He:prog.underlying 147=some (.chan .both 27):=by kernel_rfl
theorem Vi:CE prog 102=some #[.slice none 0 0]:=by kernel_rfl
theorem Bw:CE prog 104=some #[.int .i64 0,.int .i64 0,.slice none 0 0,.slice none 0 0,.slice none 0 0]:=by kernel_rfl
theorem Vj:CE prog 105=some #[.slice none 0 0]:=by kernel_rfl
theorem BX:CE prog 108=some #[.int .i64 0,.int .i64 0,.slice none 0 0,.slice none 0 0,.slice none 0 0,.slice none 0 0,.map none]:=by kernel_rfl
theorem DB:CE prog 119=some #[.int .i64 0,.int .i64 0,.int .i64 0,.int .i64 0,.int .i64 0,.int .i64 0,.int .i64 0,.int .i64 0,.int .i64 0,.bool false,.bool false,.bool false,.bool false,.bool false,.bool false]:=by kernel_rfl
theorem Vk:CE prog 147=some #[.chan none]:=by kernel_rfl
theorem Ox:CE prog 168=some #[.int .i64 0,.int .i64 0,.int .i64 0]:=by kernel_rfl
theorem Oy:CE prog 181=some #[.nilFunc]:=by kernel_rfl
theorem Vl:CE prog 204=some #[.int .u64 0]:=by kernel_rfl
theorem IT:CE prog 26=some #[.int .i64 0,.int .i64 0,.slice none 0 0,.slice none 0 0,.slice none 0 0]:=by kernel_rfl
theorem X4:CE prog 27=some #[.slice none 0 0]:=by kernel_rfl
theorem Zi:CE prog 3=some #[.int .i64 0]:=by kernel_rfl
theorem CR:CE prog 31=some #[.int .i64 0,.int .i64 0]:=by kernel_rfl
theorem fx_zero32:CE prog 32=some #[.int .i64 0]:=by kernel_rfl
theorem Zj:CE prog 4=some #[.bool false]:=by kernel_rfl
theorem ML:CE prog 57=some #[.slice none 0 0,.slice none 0 0,.slice none 0 0]:=by kernel_rfl
theorem EC:CE prog 75=some #[.int .i64 0,.int .i64 0,.int .i64 0,.int .i64 0,.int .i64 0]:=by kernel_rfl
theorem HH:CE prog 79=some #[.int .i64 0,.int .i64 0,.int .i64 0,.int .i64 0]:=by kernel_rfl
theorem GQ:CE prog 99=some #[.string ⟨#[]⟩,.int .i64 0,.int .i64 0,.int .i64 0,.int .i64 0]:=by kernel_rfl
end Go.Ns
namespace Go.Ns
open Go.Conc Go.Proofs Go.Proofs.Tryz
attribute [local irreducible] Br ER Tr Ah Ct CH
theorem Bi {W:Wk prog} {h:GH} (n:Int) (lo:Int) (hi:Int):Ah W 79 #[J n,J lo,J hi] h (fun v h'=>v=(.bool (decide (lo≤n∧n≤hi)):Value)∧h=h'):=by
 refine AN func79 Z (Nb Z) (Sq (Rg (As (.bool false) Z Z (Nl (BK (fun σ' ds' h'=>ds'=[]∧h=h'∧σ' 6=.bool (Q33 lo n hi)) ?_ ?_)))))
 ·refine Rg (Mv (J lo) Z Z (Mv (J n) Z Z (Pl Z (Dj (a:=lo) (b:=n) Z Z (Mv (Tw lo n) Z Z (BM (p:=lo≤n) ?_ ?_))))))
  ·intro aa;exact Gg 3 10 (AG Z aa) Z (AB (v:=J n) Z (Gg 3 10 (AG Z aa) Z (AB (v:=J hi) Z (Gg 3 10 (AG Z aa) Z (Dj (a:=n) (b:=hi) Z Z (Pk true (Tw n hi) Z (AG Z aa) Z (As (Tw n hi) Z Z (Nl (⟨Z,Z,Et (b:=(.bool (decide (n≤hi)):Value)) Z (congrArg Value.bool (by (simp [aa];done):decide (n≤hi)=(Q33 lo n hi)))⟩)))))))))
  ·intro aa;exact Gs 3 10 (AF Z aa) Z (Gs 3 10 (AF Z aa) Z (Gs 3 10 (AF Z aa) Z (Pk false (.bool false) Z (AF Z aa) Z (As (.bool false) Z Z (Nl (⟨Z,Z,Et (b:=(.bool false:Value)) Z (congrArg Value.bool (by (simp [aa];done):false=(Q33 lo n hi)))⟩))))))
 ·rintro _ _ _ ⟨ac,ab,ad⟩;subst ac;subst ab;exact Rt (⟨.inr Z,Aj Z (v:=.bool (Q33 lo n hi)) ad (⟨(by rfl),Z⟩)⟩)
theorem Oz {W:Wk prog} {h:GH} (xl:Int) (xh:Int) (lo:Int) (hi:Int):Ah W 129 #[.agg #[J xl,J xh],J lo,J hi] h (fun v h'=>v=(.bool (decide ((lo≤xl∧xl≤xh)∧xh≤hi)):Value)∧h.Le h'):=by
 refine AN func129 Z (Nb Z) (Sq (Rg (Pl Z (Az (v:=.agg #[J xl,J xh]) (c:=#[J xl,J xh]) Z Z fun _ h2 _ ae ad _=>As (.bool false) Z Z (Nl (BK (fun σ' ds' h'=>ds'=[]∧h2=h'∧σ' 6=.bool (Q2c lo xl xh hi)) ?_ ?_))))))
 ·refine Rg (Mv (J lo) Z Z (Fa CX Z Z (Ld (J xl) Z Z (Rd.one AL ad Z) (Pl Z (Dj (a:=lo) (b:=xl) Z Z (Mv (Tw lo xl) Z Z (BM (p:=lo≤xl) ?_ ?_)))))))
  ·intro aa;refine Gg 4 11 (AG Z aa) Z (AD CX Z (Gg 4 11 (AG Z aa) Z (AE (v:=J xl) Z (Rd.one AL ad Z) (Gg 4 11 (AG Z aa) Z (AD Cf Z (Gg 4 11 (AG Z aa) Z (AE (v:=J xh) Z (Rd.one AL ad Z) (Gg 4 11 (AG Z aa) Z (Dj (a:=xl) (b:=xh) Z Z (Pk true (Tw xl xh) Z (AG Z aa) Z (Mv (Tw xl xh) Z Z (BM (p:=xl≤xh) ?_ ?_))))))))))))
   ·intro ab;exact Gg 11 18 (AG Z ab) Z (AD Cf Z (Gg 11 18 (AG Z ab) Z (AE (v:=J xh) Z (Rd.one AL ad Z) (Gg 11 18 (AG Z ab) Z (AB (v:=J hi) Z (Gg 11 18 (AG Z ab) Z (Dj (a:=xh) (b:=hi) Z Z (Pk true (Tw xh hi) Z (AG Z ab) Z (As (Tw xh hi) Z Z (Nl (⟨Z,Z,Et (b:=(.bool (decide (xh≤hi)):Value)) Z (congrArg Value.bool (by (simp [aa,ab];done):decide (xh≤hi)=(Q2c lo xl xh hi)))⟩)))))))))))
   ·intro ab;exact Gs 11 18 (AF Z ab) Z (Gs 11 18 (AF Z ab) Z (Gs 11 18 (AF Z ab) Z (Gs 11 18 (AF Z ab) Z (Pk false (.bool false) Z (AF Z ab) Z (As (.bool false) Z Z (Nl (⟨Z,Z,Et (b:=(.bool false:Value)) Z (congrArg Value.bool (by (simp [aa,ab];done):false=(Q2c lo xl xh hi)))⟩)))))))
  ·intro aa;exact Gs 4 11 (AF Z aa) Z (Gs 4 11 (AF Z aa) Z (Gs 4 11 (AF Z aa) Z (Gs 4 11 (AF Z aa) Z (Gs 4 11 (AF Z aa) Z (Pk false (.bool false) Z (AF Z aa) Z (Mv (.bool false) Z Z (Gs 11 18 Z Z (Gs 11 18 Z Z (Gs 11 18 Z Z (Gs 11 18 Z Z (Pk false (.bool false) Z Z Z (As (.bool false) Z Z (Nl (⟨Z,Z,Et (b:=(.bool false:Value)) Z (congrArg Value.bool (by (simp [aa];done):false=(Q2c lo xl xh hi)))⟩))))))))))))))
 ·rintro _ _ _ ⟨af,ac,ag⟩;subst af;subst ac;exact Rt (⟨.inr Z,Aj Z (v:=.bool (Q2c lo xl xh hi)) ag (⟨(by rfl),ae⟩)⟩)
theorem TV {W:Wk prog} {h:GH} (xl:Int) (xh:Int):Ah W 201 #[.agg #[J xl,J xh]] h (fun v h'=>v=(.bool (decide (FC xl xh)):Value)∧h.Le h'):=by
 refine AN func201 Z (Nb Z) (Sq (Rg (Pl Z (Az (v:=.agg #[J xl,J xh]) (c:=#[J xl,J xh]) Z Z fun _ h2 _ ae ah _=>As (.bool false) Z Z (Nl (BK (fun σ' ds' h'=>ds'=[]∧GH.Le h2 h'∧σ' 2=.bool (Q24 xl xh)) ?_ ?_))))))
 ·refine Rg (Ld (.agg #[J xl,J xh]) Z Z (AP Bf (Bx ah Z)) (Pl Z (A8 func129 Oj Z Z Z ((Oz xl xh 0 99 ).mono fun _ _ ai=>?_))));obtain ⟨rfl,ab⟩:=ai;refine Mv (.bool (decide ((0≤xl∧xl≤xh)∧xh≤99))) Z Z (BM (p:=(0≤xl∧xl≤xh)∧xh≤99) ?_ ?_)
  ·intro aa;exact Gg 2 5 (AG Z aa) Z (AD Cf Z (have ac:=ab.keep ah Z;Gg 2 5 (AG Z aa) Z (AE (v:=J xh) Z (Rd.one AL ac Z) (Gg 2 5 (AG Z aa) Z (AD CX Z (Gg 2 5 (AG Z aa) Z (AE (v:=J xl) Z (Rd.one AL ac Z) (Gg 2 5 (AG Z aa) Z (BV (a:=xh) (b:=xl) Z Z (by omega) (Gg 2 5 (AG Z aa) Z (BC (a:=xh-xl) (b:=3) Z Z (Pk true (.bool (decide ((xh-xl)<3))) Z (AG Z aa) Z (As (.bool (decide ((xh-xl)<3))) Z Z (Nl (⟨Z,ab,Et (b:=(.bool (decide ((xh-xl)<3)):Value)) Z (congrArg Value.bool (by (simp [aa];done):decide ((xh-xl)<3)=(Q24 xl xh)))⟩)))))))))))))))
  ·intro aa;exact Gs 2 5 (AF Z aa) Z (Gs 2 5 (AF Z aa) Z (Gs 2 5 (AF Z aa) Z (Gs 2 5 (AF Z aa) Z (Gs 2 5 (AF Z aa) Z (Gs 2 5 (AF Z aa) Z (Pk false (.bool false) Z (AF Z aa) Z (As (.bool false) Z Z (Nl (⟨Z,ab,Et (b:=(.bool false:Value)) Z (congrArg Value.bool (by (simp [aa];done):false=(Q24 xl xh)))⟩)))))))))
 ·rintro _ _ _ ⟨af,ad,ag⟩;subst af;exact Rt (⟨.inr Z,Aj Z (v:=.bool (Q24 xl xh)) ag (⟨(by rfl),(ae.trans ad)⟩)⟩)
theorem F5 {W:Wk prog} {h:GH} (b:Bool):Ah W 76 #[.bool b] h (fun v h'=>v=(J (if b then (0:Int) else 6):Value)∧h=h'):=by
 refine AN func76 Z (Nb Z) (Sq (Rg (As (J 0) Z Z (Nl (Sq (Sq (Rg (Mv (.bool b) Z Z (Pl Z (DG (b:=b) Z (Nl (DF (t:= !b) Z (fun aa=>?_) (fun aa=>?_)))))))))))))
 ·have hc1_:b=false:=by simpa using aa
  exact Sq (Rg (As (J 6) Z Z (Nl (Rt (⟨.inr Z,Aj Z (v:=J 6) Z (⟨(by simp_all),Z⟩)⟩)))))
 ·have hc1_:b=true:=by simpa using aa
  exact Sk (Sq (Rg (As (J 0) Z Z (Nl (Rt (⟨.inr Z,Aj Z (v:=J 0) Z (⟨(by simp_all),Z⟩)⟩))))))
theorem Fl {W:Wk prog} {h:GH} (b:Bool):Ah W 78 #[.bool b] h (fun v h'=>v=(J (if b then (0:Int) else 1):Value)∧h=h'):=by
 refine AN func78 Z (Nb Z) (Sq (Rg (As (J 0) Z Z (Nl (Sq (Sq (Rg (Mv (.bool b) Z Z (Pl Z (DG (b:=b) Z (Nl (DF (t:= !b) Z (fun aa=>?_) (fun aa=>?_)))))))))))))
 ·have hc1_:b=false:=by simpa using aa
  exact Sq (Rg (As (J 1) Z Z (Nl (Rt (⟨.inr Z,Aj Z (v:=J 1) Z (⟨(by simp_all),Z⟩)⟩)))))
 ·have hc1_:b=true:=by simpa using aa
  exact Sk (Sq (Rg (As (J 0) Z Z (Nl (Rt (⟨.inr Z,Aj Z (v:=J 0) Z (⟨(by simp_all),Z⟩)⟩))))))
theorem Gk {W:Wk prog} {h:GH} (d:Int) (m:Int) (gs:List Good) (gsv:Value) (ms:List AC) (msv:Value) (cs:List AH) (csv:Value) (n:Int) (hgs:AO h gsv 5 BT gs) (hms:AO h msv 5 BN ms) (hcs:AO h csv 4 BD cs):Ah W 77 #[.agg #[J d,J m,gsv,msv,csv],J n] h (fun v h'=>v=(.bool (decide (0≤n∧n≤(gs.length:Int)-1)):Value)∧h.Le h'):=by
 have ab:=hgs.len;have ac:=hms.len;have ad:=hcs.len;refine AN func77 Z (Nb Z) (Sq (Rg (Pl Z (Az (v:=.agg #[J d,J m,gsv,msv,csv]) (c:=#[J d,J m,gsv,msv,csv]) Z Z fun _ _ _ aa af _=>As (.bool false) Z Z (Nl (Sq (Rg (Mv (J n) Z Z (Fa BA Z Z (Fa BR Z Z (Ld gsv Z Z (Rd.one CG af Z) (Pl Z (Ae Cr (hgs.le aa) Z (Pl Z (BV (a:=(gs.length:Int)) (b:=1) Z Z (by omega) (Pl Z (A8 func79 CB Z Z Z ((Bi n 0 ((gs.length:Int)-1) ).mono fun _ _ ae=>?_))))))))))))))))));obtain ⟨rfl,rfl⟩:=ae;exact As (.bool (decide (0≤n∧n≤((gs.length:Int)-1)))) Z Z (Nl (Rt (⟨.inr Z,Aj Z (v:=.bool (decide (0≤n∧n≤((gs.length:Int)-1)))) Z (⟨(by rfl),aa⟩)⟩)))
theorem Mq {W:Wk prog} {h:GH} (d:Int) (m:Int) (gs:List Good) (gsv:Value) (ms:List AC) (msv:Value) (cs:List AH) (csv:Value) (n:Int) (hgs:AO h gsv 5 BT gs) (hms:AO h msv 5 BN ms) (hcs:AO h csv 4 BD cs):Ah W 108 #[.agg #[J d,J m,gsv,msv,csv],J n] h (fun v h'=>v=(.bool (decide (0≤n∧n≤(ms.length:Int)-1)):Value)∧h.Le h'):=by
 have ab:=hgs.len;have ac:=hms.len;have ad:=hcs.len;refine AN func108 Z (Nb Z) (Sq (Rg (Pl Z (Az (v:=.agg #[J d,J m,gsv,msv,csv]) (c:=#[J d,J m,gsv,msv,csv]) Z Z fun _ _ _ aa af _=>As (.bool false) Z Z (Nl (Sq (Rg (Mv (J n) Z Z (Fa BA Z Z (Fa BF Z Z (Ld msv Z Z (Rd.one Bj af Z) (Pl Z (Ae C7 (hms.le aa) Z (Pl Z (BV (a:=(ms.length:Int)) (b:=1) Z Z (by omega) (Pl Z (A8 func79 CB Z Z Z ((Bi n 0 ((ms.length:Int)-1) ).mono fun _ _ ae=>?_))))))))))))))))));obtain ⟨rfl,rfl⟩:=ae;exact As (.bool (decide (0≤n∧n≤((ms.length:Int)-1)))) Z Z (Nl (Rt (⟨.inr Z,Aj Z (v:=.bool (decide (0≤n∧n≤((ms.length:Int)-1)))) Z (⟨(by rfl),aa⟩)⟩)))
theorem MM {W:Wk prog} {h:GH} (p:AW) (i:Int) (hi0:0≤i) (hi1:i<6):Ah W 83 #[.agg (Ap p),J i] h (fun v h'=>v=(J (Bz p ((i).toNat)):Value)∧h.Le h'):=by
 refine AN func83 Z (Nb Z) (Sq (Rg (Pl Z (Az (v:=.agg (Ap p)) (c:=Ap p) Z Z fun _ _ _ aa ad _=>As (J 0) Z Z (Nl (Sq (Sq (Rg (Mv (J i) Z Z (Fa E2 Z Z ?_))))))))));have ae:(0:Int)≤i:=by omega
 have af:i<((6:Nat):Int):=by omega
 refine Pl Z (CV HF Z Z ae af (Ld (.bool (p.lies (i.toNat))) Z Z (Rd.one H5 ad (KZ (i:=i.toNat) (by omega))) (Nl (DF (t:=p.lies (i.toNat)) Z (fun ag=>?_) (fun ag=>?_)))))
 ·exact Sq (Rg (As (J 0) Z Z (Nl (Rt (⟨.inr Z,Aj Z (v:=J 0) Z (⟨(by simp_all [Bz]),aa⟩)⟩)))))
 ·refine Sk (Sq (Rg (Mv (J i) Z Z (Fa E1 Z Z ?_))));have ab:(0:Int)≤i:=by omega
  have ac:i<((6:Nat):Int):=by omega
  exact Pl Z (CV IM Z Z ab ac (Ld (J (p.many (i.toNat))) Z Z (Rd.one AL ad (Nd (i:=i.toNat) (by omega))) (As (J (p.many (i.toNat))) Z Z (Nl (Rt (⟨.inr Z,Aj Z (v:=J (p.many (i.toNat))) Z (⟨(by simp_all [Bz]),aa⟩)⟩))))))
theorem O0 {W:Wk prog} {h:GH} (p:AW):Ah W 101 #[.agg (Ap p)] h (fun v h'=>v=(J (Aw p 6:Int):Value)∧h.Le h'):=by
 refine AN func101 Z (Nb Z) (Sq (Rg (Pl Z (Az (v:=.agg (Ap p)) (c:=Ap p) Z Z fun _ h2 _ ab al _=>As (J 0) Z Z (Nl (Sq (Rg (As (J 0) Z Z (Nl (Sq (Sq (Rg (Fa E2 Z Z (Ld (.agg #[.bool (p.lies 0),.bool (p.lies 1),.bool (p.lies 2),.bool (p.lies 3),.bool (p.lies 4),.bool (p.lies 5)]) Z Z (FE (o:=9) (ws:=#[.bool (p.lies 0),.bool (p.lies 1),.bool (p.lies 2),.bool (p.lies 3),.bool (p.lies 4),.bool (p.lies 5)]) Zd (Bx al Z) (Nb Z) Z) (Mv (J 0) Z Z (Nl (Bk (A6 (fun nn σ' ds' h'=>∃(k:Nat),nn=6-k∧(k≤6)∧ds'=[]∧GH.Le h2 h'∧σ' 2=J 0∧σ' 7=.agg #[.bool (p.lies 0),.bool (p.lies 1),.bool (p.lies 2),.bool (p.lies 3),.bool (p.lies 4),.bool (p.lies 5)]∧σ' 3=J (Aw p k:Int)∧σ' 8=J k) ⟨0,Z,(by omega),Z,Lr,Z,Z,Z,Z⟩ (fun nn _ _ _ ac=>?_)))))))))))))))))));obtain ⟨k,rfl,hk,am,ad,ak,ae,af,aa⟩:=ac;subst am;have hly:=Ng p k;refine Sq (Rg (Pl Z (BC (a:=(k:Int)) (b:=6) aa Z (Nl (Sq (Ag (p:=(k:Int)<6) Z (fun ag=>?_) (fun ag=>?_)))))))
 ·refine Sk (Sq (Bk (Sq (Rg ?_))));have ah:(0:Int)≤(k:Int):=by omega
  have ai:(k:Int)<((6:Nat):Int):=by omega
  refine Pl Z (Pw XW ae aa ah ai (SL (by omega)) (As (.bool (p.lies k)) Z Z (Nl (Sq (Rg (Mv (.bool (p.lies k)) Z Z (Nl (DF (t:=p.lies k) Z (fun aj=>?_) (fun aj=>?_)))))))))
  ·exact Rg (Mv (J (Aw p k:Int)) Z af (Ad (Aw p k:Int) 1 Z Z Z (by omega) (As (J ((Aw p k:Int)+1)) Z Z (Nl (Rg (Ad (k:Int) 1 Z aa Z (by omega) (Mv (J ((k:Int)+1)) Z Z (Nl (⟨_,by omega,k+1,Z,(by omega),Z,ad,ak,ae,(Et (b:=(J ((Aw p k:Int)+1):Value)) Z (by congr 1;simp_all [Aw])),Z⟩)))))))))
  ·exact Sk (Rg (Ad (k:Int) 1 Z aa Z (by omega) (Mv (J ((k:Int)+1)) Z Z (Nl (⟨_,by omega,k+1,Z,(by omega),Z,ad,ak,ae,(Et (b:=(J (Aw p k:Int):Value)) af (by congr 1;simp_all [Aw])),Z⟩)))))
 ·exact Xt (Sq (Rg (Mv (J (Aw p k:Int)) Z af (As (J (Aw p k:Int)) Z Z (Nl (Rt (⟨.inr Z,Aj Z (v:=J (Aw p k:Int)) Z (⟨(by obtain rfl:k=6:=(by omega);rfl),(ab.trans ad)⟩)⟩)))))))
theorem Pc {W:Wk prog} {h:GH} (a:List Int) (av:Value) (b:List Int) (bv:Value) (ha:AO h av 1 eI a) (hb:AO h bv 1 eI b):Ah W 22 #[av,bv] h (fun v h'=>v=(.bool (decide (a=b)):Value)∧h.Le h'):=by
 have ad:=ha.len;have ae:=hb.len;refine AN func22 Z (Nb Z) (Sq (Rg (As (.bool false) Z Z (Nl (Sq (Sq (Rg (Mv av Z Z (Pl Z (Ae B0 ha Z (Mv bv Z Z (Pl Z (Ae B0 hb Z (Pl Z (BJ (a:=(a.length:Int)) (b:=(b.length:Int)) Z Z (Nl (Ag (p:=¬(a.length:Int)=(b.length:Int)) Z (fun ar=>?_) (fun ar=>?_))))))))))))))))))
 ·exact Sq (Rg (As (.bool false) Z Z (Nl (Rt (⟨.inr Z,Aj Z (v:=.bool false) Z (⟨(by (rw [decide_eq_false (ne_len (by omega))];done)),Lr⟩)⟩)))))
 ·refine Sk (Sq (Sq (Rg (As (J 0) Z Z (Nl (Bk (A6 (fun nn σ' ds' h'=>∃(k:Nat),nn=a.length-k∧(k≤a.length)∧(a.take k=b.take k)∧ds'=[]∧GH.Le h h'∧σ' 0=av∧σ' 1=bv∧σ' 5=J k) ⟨0,Z,(by omega),(by rfl),Z,Lr,Z,Z,Z⟩ (fun nn _ _ _ au=>?_))))))));obtain ⟨k,rfl,hk,hs,x8,x9,af,aq,ac⟩:=au;subst x8;refine Sq (Sq (Rg (Mv (J k) Z ac (Mv av Z af (Pl Z (Ae B0 (ha.le x9) Z (Pl Z (BC (a:=(k:Int)) (b:=(a.length:Int)) Z Z (Nl (Ag (p:=(k:Int)<(a.length:Int)) Z (fun ag=>?_) (fun ag=>?_)))))))))))
  ·refine Sk (Sq (Bk (Sq (BS 8 false [1,6,10,16,21,26,30,36] Am (by kernel_rfl) (tR Z Z (AB (v:=av) af vz) (tR Z Z (AB (v:=J k) ac vz) ?_))))));have ah:(0:Int)≤(k:Int):=by omega
   have ai:(k:Int)<((a.length:Nat):Int):=by omega
   refine tI Z Z AX ha Z Z ah ai fun aw aa aj=>have ak:Ac _ aw aa 1 (eI (a.getD k 0)):=Ac.getD 0 aj;tR Z Z (AE (v:=J (a.getD k 0)) Z (Bu AL (ak.le x9) Z) vz) (tR Z Z (AB (v:=bv) aq vz) (tR Z Z (AB (v:=J k) ac vz) ?_));have al:(0:Int)≤(k:Int):=by omega
   have am:(k:Int)<((b.length:Nat):Int):=by omega
   refine tI Z Z AX hb Z Z al am fun ax ab an=>have ao:Ac _ ax ab 1 (eI (b.getD k 0)):=Ac.getD 0 an;tR Z Z (AE (v:=J (b.getD k 0)) Z (Bu AL (ao.le x9) Z) vz) (tN (Pl Z (BJ (a:=a.getD k 0) (b:=b.getD k 0) Z Z (Nl (Ag (p:=¬(a.getD k 0)=(b.getD k 0)) Z (fun ap=>?_) (fun ap=>?_))))))
   ·exact Sq (Rg (As (.bool false) Z Z (Nl (Rt (⟨.inr Z,Aj Z (v:=.bool false) Z (⟨(by (rw [decide_eq_false (ne_getD (k:=k) (d:=0) ‹_›)])),x9⟩)⟩)))))
   ·exact Sk (Rg (Mv (J k) Z ac (Ad (k:Int) 1 Z Z Z (by omega) (As (J ((k:Int)+1)) Z Z (Nl (⟨_,by omega,k+1,Z,(by omega),(by exact Nh 0 hs (by omega) (by omega) (by simp_all)),Z,x9,af,aq,Z⟩))))))
  ·exact Xt (Sq (Rg (As (.bool true) Z Z (Nl (Rt (⟨.inr Z,Aj Z (v:=.bool true) Z (⟨(by (rw [decide_eq_true (Q8 hs hk ‹_› (by omega))];done)),x9⟩)⟩))))))
theorem Ll {W:Wk prog} {h:GH} (a:List Int) (av:Value) (n:Int) (ha:AO h av 1 eI a):Ah W 42 #[av,J n] h (fun v h'=>v=(.bool (decide (n ∈ a)):Value)∧h.Le h'):=by
 have ab:=ha.len;refine AN func42 Z (Nb Z) (Sq (Rg (As (.bool false) Z Z (Nl (Sq (Sq (Rg (As (J 0) Z Z (Nl (Bk (A6 (fun nn σ' ds' h'=>∃(k:Nat),nn=a.length-k∧(k≤a.length)∧(¬n ∈ a.take k)∧ds'=[]∧GH.Le h h'∧σ' 0=av∧σ' 1=J n∧σ' 5=J k) ⟨0,Z,(by omega),(by simp),Z,Lr,Z,Z,Z⟩ (fun nn _ _ _ aj=>?_))))))))))));obtain ⟨k,rfl,hk,hs,x6,x7,x8,x9,ac⟩:=aj;subst x6;refine Sq (Sq (Rg (Mv (J k) Z ac (Mv av Z x8 (Pl Z (Ae B0 (ha.le x7) Z (Pl Z (BC (a:=(k:Int)) (b:=(a.length:Int)) Z Z (Nl (Ag (p:=(k:Int)<(a.length:Int)) Z (fun ad=>?_) (fun ad=>?_)))))))))))
 ·refine Sk (Sq (Bk (Sq (Rg (Mv av Z x8 (Mv (J k) Z ac ?_))))));have ae:(0:Int)≤(k:Int):=by omega
  have af:(k:Int)<((a.length:Nat):Int):=by omega
  refine Pl Z (A3 AX ha Z Z ae af fun ak aa ag=>have ah:Ac _ ak aa 1 (eI (a.getD k 0)):=Ac.getD 0 ag;Ld (M4 a k) Z Z (Bu AL (ah.le x7) Z) (Mv (J n) Z x9 (Pl Z (B5 (a:=a.getD k 0) (b:=n) Z Z (Nl (Ag (p:=(a.getD k 0)=n) Z (fun ai=>?_) (fun ai=>?_)))))))
  ·exact Sq (Rg (As (.bool true) Z Z (Nl (Rt (⟨.inr Z,Aj Z (v:=.bool true) Z (⟨(by (rw [decide_eq_true (has_hit (k:=k) ‹_› ‹_›)];done)),x7⟩)⟩)))))
  ·exact Sk (Rg (Mv (J k) Z ac (Ad (k:Int) 1 Z Z Z (by omega) (As (J ((k:Int)+1)) Z Z (Nl (⟨_,by omega,k+1,Z,(by omega),(by exact Yp ‹_› hs ‹_›),Z,x7,x8,x9,Z⟩))))))
 ·exact Xt (Sq (Rg (As (.bool false) Z Z (Nl (Rt (⟨.inr Z,Aj Z (v:=.bool false) Z (⟨(by (rw [decide_eq_false (has_end (k:=k) ‹_› hs)])),x7⟩)⟩))))))
theorem FT {W:Wk prog} {h:GH} (n:Int) (lo:Int) (hi:Int):Ah W 59 #[J n,J lo,J hi] h (fun v h'=>v=(.bool (decide (lo≤n∧n≤hi)):Value)∧h=h'):=by
 refine AN func59 Z (Nb Z) (Sq (Rg (As (.bool false) Z Z (Nl (BK (fun σ' ds' h'=>ds'=[]∧h=h'∧σ' 6=.bool (Q33 lo n hi)) ?_ ?_)))))
 ·refine Rg (Mv (J n) Z Z (Mv (J lo) Z Z (Pl Z (C5 (a:=n) (b:=lo) Z Z (Mv (Tw lo n) Z Z (BM (p:=lo≤n) ?_ ?_))))))
  ·intro aa;exact Gg 3 10 (AG Z aa) Z (AB (v:=J n) Z (Gg 3 10 (AG Z aa) Z (AB (v:=J hi) Z (Gg 3 10 (AG Z aa) Z (Dj (a:=n) (b:=hi) Z Z (Pk true (Tw n hi) Z (AG Z aa) Z (As (Tw n hi) Z Z (Nl (⟨Z,Z,Et (b:=(.bool (decide (n≤hi)):Value)) Z (congrArg Value.bool (by (simp [aa];done):decide (n≤hi)=(Q33 lo n hi)))⟩)))))))))
  ·intro aa;exact Gs 3 10 (AF Z aa) Z (Gs 3 10 (AF Z aa) Z (Gs 3 10 (AF Z aa) Z (Pk false (.bool false) Z (AF Z aa) Z (As (.bool false) Z Z (Nl (⟨Z,Z,Et (b:=(.bool false:Value)) Z (congrArg Value.bool (by (simp [aa];done):false=(Q33 lo n hi)))⟩))))))
 ·rintro _ _ _ ⟨ac,ab,ad⟩;subst ac;subst ab;exact Rt (⟨.inr Z,Aj Z (v:=.bool (Q33 lo n hi)) ad (⟨(by rfl),Z⟩)⟩)
theorem Mr {W:Wk prog} {h:GH} (xl:Int) (xh:Int) (lo:Int) (hi:Int):Ah W 65 #[.agg #[J xl,J xh],J lo,J hi] h (fun v h'=>v=(.bool (decide ((lo≤xl∧xl≤xh)∧xh≤hi)):Value)∧h.Le h'):=by
 refine AN func65 Z (Nb Z) (Sq (Rg (Pl Z (Az (v:=.agg #[J xl,J xh]) (c:=#[J xl,J xh]) Z Z fun _ h2 _ ae ad _=>As (.bool false) Z Z (Nl (BK (fun σ' ds' h'=>ds'=[]∧h2=h'∧σ' 6=.bool (Q2c lo xl xh hi)) ?_ ?_))))))
 ·refine Rg (Fa CX Z Z (Ld (J xl) Z Z (Rd.one AL ad Z) (Mv (J lo) Z Z (Pl Z (C5 (a:=xl) (b:=lo) Z Z (Mv (Tw lo xl) Z Z (BM (p:=lo≤xl) ?_ ?_)))))))
  ·intro aa;refine Gg 4 11 (AG Z aa) Z (AD Cf Z (Gg 4 11 (AG Z aa) Z (AE (v:=J xh) Z (Rd.one AL ad Z) (Gg 4 11 (AG Z aa) Z (AD CX Z (Gg 4 11 (AG Z aa) Z (AE (v:=J xl) Z (Rd.one AL ad Z) (Gg 4 11 (AG Z aa) Z (C5 (a:=xh) (b:=xl) Z Z (Pk true (Tw xl xh) Z (AG Z aa) Z (Mv (Tw xl xh) Z Z (BM (p:=xl≤xh) ?_ ?_))))))))))))
   ·intro ab;exact Gg 11 18 (AG Z ab) Z (AD Cf Z (Gg 11 18 (AG Z ab) Z (AE (v:=J xh) Z (Rd.one AL ad Z) (Gg 11 18 (AG Z ab) Z (AB (v:=J hi) Z (Gg 11 18 (AG Z ab) Z (Dj (a:=xh) (b:=hi) Z Z (Pk true (Tw xh hi) Z (AG Z ab) Z (As (Tw xh hi) Z Z (Nl (⟨Z,Z,Et (b:=(.bool (decide (xh≤hi)):Value)) Z (congrArg Value.bool (by (simp [aa,ab];done):decide (xh≤hi)=(Q2c lo xl xh hi)))⟩)))))))))))
   ·intro ab;exact Gs 11 18 (AF Z ab) Z (Gs 11 18 (AF Z ab) Z (Gs 11 18 (AF Z ab) Z (Gs 11 18 (AF Z ab) Z (Pk false (.bool false) Z (AF Z ab) Z (As (.bool false) Z Z (Nl (⟨Z,Z,Et (b:=(.bool false:Value)) Z (congrArg Value.bool (by (simp [aa,ab];done):false=(Q2c lo xl xh hi)))⟩)))))))
  ·intro aa;exact Gs 4 11 (AF Z aa) Z (Gs 4 11 (AF Z aa) Z (Gs 4 11 (AF Z aa) Z (Gs 4 11 (AF Z aa) Z (Gs 4 11 (AF Z aa) Z (Pk false (.bool false) Z (AF Z aa) Z (Mv (.bool false) Z Z (Gs 11 18 Z Z (Gs 11 18 Z Z (Gs 11 18 Z Z (Gs 11 18 Z Z (Pk false (.bool false) Z Z Z (As (.bool false) Z Z (Nl (⟨Z,Z,Et (b:=(.bool false:Value)) Z (congrArg Value.bool (by (simp [aa];done):false=(Q2c lo xl xh hi)))⟩))))))))))))))
 ·rintro _ _ _ ⟨af,ac,ag⟩;subst af;subst ac;exact Rt (⟨.inr Z,Aj Z (v:=.bool (Q2c lo xl xh hi)) ag (⟨(by rfl),ae⟩)⟩)
theorem O1 {W:Wk prog} {h:GH} (xl:Int) (xh:Int):Ah W 143 #[.agg #[J xl,J xh]] h (fun v h'=>v=(.bool (decide (FC xl xh)):Value)∧h.Le h'):=by
 refine AN func143 Z (Nb Z) (Sq (Rg (Pl Z (Az (v:=.agg #[J xl,J xh]) (c:=#[J xl,J xh]) Z Z fun _ h2 _ ae ah _=>As (.bool false) Z Z (Nl (BK (fun σ' ds' h'=>ds'=[]∧GH.Le h2 h'∧σ' 2=.bool (Q24 xl xh)) ?_ ?_))))))
 ·refine Rg (Ld (.agg #[J xl,J xh]) Z Z (AP Bf (Bx ah Z)) (Pl Z (A8 func65 Qd Z Z Z ((Mr xl xh 0 99 ).mono fun _ _ ai=>?_))));obtain ⟨rfl,ab⟩:=ai;refine Mv (.bool (decide ((0≤xl∧xl≤xh)∧xh≤99))) Z Z (BM (p:=(0≤xl∧xl≤xh)∧xh≤99) ?_ ?_)
  ·intro aa;exact Gg 2 5 (AG Z aa) Z (AD Cf Z (have ac:=ab.keep ah Z;Gg 2 5 (AG Z aa) Z (AE (v:=J xh) Z (Rd.one AL ac Z) (Gg 2 5 (AG Z aa) Z (AD CX Z (Gg 2 5 (AG Z aa) Z (AE (v:=J xl) Z (Rd.one AL ac Z) (Gg 2 5 (AG Z aa) Z (BV (a:=xh) (b:=xl) Z Z (by omega) (Gg 2 5 (AG Z aa) Z (BC (a:=xh-xl) (b:=3) Z Z (Pk true (.bool (decide ((xh-xl)<3))) Z (AG Z aa) Z (As (.bool (decide ((xh-xl)<3))) Z Z (Nl (⟨Z,ab,Et (b:=(.bool (decide ((xh-xl)<3)):Value)) Z (congrArg Value.bool (by (simp [aa];done):decide ((xh-xl)<3)=(Q24 xl xh)))⟩)))))))))))))))
  ·intro aa;exact Gs 2 5 (AF Z aa) Z (Gs 2 5 (AF Z aa) Z (Gs 2 5 (AF Z aa) Z (Gs 2 5 (AF Z aa) Z (Gs 2 5 (AF Z aa) Z (Gs 2 5 (AF Z aa) Z (Pk false (.bool false) Z (AF Z aa) Z (As (.bool false) Z Z (Nl (⟨Z,ab,Et (b:=(.bool false:Value)) Z (congrArg Value.bool (by (simp [aa];done):false=(Q24 xl xh)))⟩)))))))))
 ·rintro _ _ _ ⟨af,ad,ag⟩;subst af;exact Rt (⟨.inr Z,Aj Z (v:=.bool (Q24 xl xh)) ag (⟨(by rfl),(ae.trans ad)⟩)⟩)
theorem TW {W:Wk prog} {h:GH} (c:Int):Ah W 156 #[.int .u8 c] h (fun v h'=>v=(.bool (decide (FI c)):Value)∧h=h'):=by
 refine AN func156 Z (Nb Z) (Sq (Rg (As (.bool false) Z Z (Nl (BK (fun σ' ds' h'=>ds'=[]∧h=h'∧σ' 2=.bool (Q3d c)) ?_ ?_)))))
 ·refine Rg (Mv (.int .u8 c) Z Z (Pl Z (C5 (a:=c) (b:=97) Z Z (Mv (.bool (decide (97≤c))) Z Z (BM (p:=97≤c) ?_ ?_)))))
  ·intro aa;exact Gg 2 5 (AG Z aa) Z (AB (v:=.int .u8 c) Z (Gg 2 5 (AG Z aa) Z (Dj (a:=c) (b:=122) Z Z (Pk true (.bool (decide (c≤122))) Z (AG Z aa) Z (As (.bool (decide (c≤122))) Z Z (Nl (⟨Z,Z,Et (b:=(.bool (decide (c≤122)):Value)) Z (congrArg Value.bool (by (simp [aa];done):decide (c≤122)=(Q3d c)))⟩)))))))
  ·intro aa;exact Gs 2 5 (AF Z aa) Z (Gs 2 5 (AF Z aa) Z (Pk false (.bool false) Z (AF Z aa) Z (As (.bool false) Z Z (Nl (⟨Z,Z,Et (b:=(.bool false:Value)) Z (congrArg Value.bool (by (simp [aa];done):false=(Q3d c)))⟩)))))
 ·rintro _ _ _ ⟨ac,ab,ad⟩;subst ac;subst ab;exact Rt (⟨.inr Z,Aj Z (v:=.bool (Q3d c)) ad (⟨(by rfl),Z⟩)⟩)
theorem Vm {W:Wk prog} {h:GH} (c:Int):Ah W 157 #[.int .u8 c] h (fun v h'=>v=(.bool (decide (FR c)):Value)∧h=h'):=by
 refine AN func157 Z (Nb Z) (Sq (Rg (As (.bool false) Z Z (Nl (BK (fun σ' ds' h'=>ds'=[]∧h=h'∧σ' 2=.bool (Q3f c)) ?_ ?_)))))
 ·refine Rg (Mv (.int .u8 c) Z Z (Pl Z (C5 (a:=c) (b:=48) Z Z (Mv (.bool (decide (48≤c))) Z Z (BM (p:=48≤c) ?_ ?_)))))
  ·intro aa;exact Gg 2 5 (AG Z aa) Z (AB (v:=.int .u8 c) Z (Gg 2 5 (AG Z aa) Z (Dj (a:=c) (b:=57) Z Z (Pk true (.bool (decide (c≤57))) Z (AG Z aa) Z (As (.bool (decide (c≤57))) Z Z (Nl (⟨Z,Z,Et (b:=(.bool (decide (c≤57)):Value)) Z (congrArg Value.bool (by (simp [aa];done):decide (c≤57)=(Q3f c)))⟩)))))))
  ·intro aa;exact Gs 2 5 (AF Z aa) Z (Gs 2 5 (AF Z aa) Z (Pk false (.bool false) Z (AF Z aa) Z (As (.bool false) Z Z (Nl (⟨Z,Z,Et (b:=(.bool false:Value)) Z (congrArg Value.bool (by (simp [aa];done):false=(Q3f c)))⟩)))))
 ·rintro _ _ _ ⟨ac,ab,ad⟩;subst ac;subst ab;exact Rt (⟨.inr Z,Aj Z (v:=.bool (Q3f c)) ad (⟨(by rfl),Z⟩)⟩)
theorem FU {W:Wk prog} {h:GH} (a:Int) (b:Int):Ah W 60 #[J a,J b] h (fun v h'=>v=(.agg #[J a,J b]:Value)∧h.Le h'):=by
 exact AN func60 Z (Nb Z) (Sq (Rg (Pl Z (An CR fun _ _ ab aa ac _=>Nl (Sq (Rg (Mv (J a) Z Z (Mv (J b) Z Z (Pl Z (BO (cells:=#[J a,J b]) Iy CR (by kernel_rfl) (Pl Z (AJ (v:=.agg #[J a,J b]) (c':=#[J a,J b]) Bf Z Z ac Z Z (by simp) Z fun _ ad ae=>Nl (Rt (⟨.inr Z,KT Z (v:=.agg #[J a,J b]) Z (AP Bf (Bx ad Z)) (⟨Z,(aa.upd (Ln Lr ab) ae)⟩)⟩))))))))))))))
theorem TX {W:Wk prog} {h:GH} (xl:Int) (xh:Int) (n:Int) (hs:0≤xl∧xl≤xh∧xh≤99) (hn:0≤n∧n≤65535):Ah W 112 #[.agg #[J xl,J xh],J n] h (fun v h'=>v=(J (xl+n%(xh-xl+1)):Value)∧h.Le h'):=by
 have ac:=Int.emod_nonneg n (show xh-xl+1≠0 by omega);have ad:=Int.emod_lt_of_pos n (show 0<xh-xl+1 by omega);exact AN func112 Z (Nb Z) (Sq (Rg (Pl Z (Az (v:=.agg #[J xl,J xh]) (c:=#[J xl,J xh]) Z Z fun _ _ _ aa ab _=>As (J 0) Z Z (Nl (Sq (BS 10 false [1,6,11,16,21,26,31,36,41,46] Am (by kernel_rfl) (tR Z Z (AD CX Z vz) (tR Z Z (AE (v:=J xl) Z (Rd.one AL ab Z) vz) (tR Z Z (AB (v:=J n) Z vz) (tR Z Z (AD Cf Z vz) (tR Z Z (AE (v:=J xh) Z (Rd.one AL ab Z) vz) (tR Z Z (AD CX Z vz) (tR Z Z (AE (v:=J xl) Z (Rd.one AL ab Z) vz) (tR Z Z (BV (a:=xh) (b:=xl) Z Z (by omega) vz) (tR Z Z (Bt (a:=xh-xl) (b:=1) Z Z (by omega) vz) (tR Z Z (NM (a:=n) (b:=(xh-xl)+1) Z Z (by omega) (by omega) vz) (tN (Ad xl (n%((xh-xl)+1)) Z Z Z (by omega) (As (J (xl+(n%((xh-xl)+1)))) Z Z (Nl (Rt (⟨.inr Z,Aj Z (v:=J (xl+(n%((xh-xl)+1)))) Z (⟨(by rfl),aa⟩)⟩)))))))))))))))))))))))
theorem Ms {W:Wk prog} {h:GH} (p:List Int) (pv:Value) (k:Int) (hp:AO h pv 1 eH p) (hk:0≤k) (hp0:∀i,0≤p.getD i 0∧p.getD i 0≤65535):Ah W 113 #[pv,J k] h (fun v h'=>v=(J (if k<(p.length:Int) then p.getD (k).toNat 0 else 0):Value)∧h.Le h'):=by
 have hpk:=hp0 k.toNat;have aa:=hp.len;refine AN func113 Z (Nb Z) (Sq (Rg (As (J 0) Z Z (Nl (Sq (Sq (Rg (Mv (J k) Z Z (Mv pv Z Z (Pl Z (Ae fx_sl55 hp Z (Pl Z (BC (a:=k) (b:=(p.length:Int)) Z Z (Nl (Ag (p:=k<(p.length:Int)) Z (fun ac=>?_) (fun ac=>?_))))))))))))))))
 ·refine Sq (Rg (Mv pv Z Z (Mv (J k) Z Z ?_)));have ad:(0:Int)≤k:=by omega
  have ae:k<((p.length:Nat):Int):=by omega
  exact Pl Z (A3 ZY hp Z Z ad ae fun b5 ab af=>have ag:Ac _ b5 ab 1 (eH (p.getD (k.toNat) 0)):=Ac.getD 0 af;Ld (.int .u16 (p.getD (k.toNat) 0)) Z Z (Bu Zh ag Z) (Pl Z (Be (r:=p.getD (k.toNat) 0) X2 DO Z (by rw [IntWalk.i64_in _ (by omega)]) (As (J (p.getD (k.toNat) 0)) Z Z (Nl (Rt (⟨.inr Z,Aj Z (v:=J (p.getD (k.toNat) 0)) Z (⟨(by simp_all),Lr⟩)⟩)))))))
 ·exact Sk (Sq (Rg (As (J 0) Z Z (Nl (Rt (⟨.inr Z,Aj Z (v:=J 0) Z (⟨(by simp_all),Lr⟩)⟩))))))
theorem Hx {W:Wk prog} {h:GH} (d:Int) (m:Int) (gs:List Good) (gsv:Value) (ms:List AC) (msv:Value) (cs:List AH) (csv:Value) (n:Int) (hgs:AO h gsv 5 BT gs) (hms:AO h msv 5 BN ms) (hcs:AO h csv 4 BD cs):Ah W 110 #[.agg #[J d,J m,gsv,msv,csv],J n] h (fun v h'=>v=(.bool (decide ((0≤n∧n≤(ms.length:Int)-1)∧(ms.getD (n).toNat AC.z).kind=0)):Value)∧h.Le h'):=by
 have af:=hgs.len;have ag:=hms.len;have ah:=hcs.len;refine AN func110 Z (Nb Z) (Sq (Rg (Pl Z (Az (v:=.agg #[J d,J m,gsv,msv,csv]) (c:=#[J d,J m,gsv,msv,csv]) Z Z fun _ h5 _ ac ap _=>As (.bool false) Z Z (Nl (BK (fun σ' ds' h'=>ds'=[]∧GH.Le h5 h'∧σ' 4=.bool (decide ((0≤n∧n≤(ms.length:Int)-1)∧(((ms.getD (n.toNat) AC.z).kind)=0)))) ?_ ?_))))))
 ·refine Rg (Ld (.agg #[J d,J m,gsv,msv,csv]) Z Z (AP B1 (Bx ap Z)) (Mv (J n) Z Z (Pl Z (Ab func108 Oe Z Z ((Mq d m gs gsv ms msv cs csv n (hgs.le ac) (hms.le ac) (hcs.le ac) ).mono fun _ _ ai=>?_)))));obtain ⟨rfl,ab⟩:=ai;refine Mv (.bool (decide (0≤n∧n≤(ms.length:Int)-1))) Z Z (BM (p:=0≤n∧n≤(ms.length:Int)-1) ?_ ?_)
  ·intro aa;refine Gg 3 8 (AG Z aa) Z (AD BA Z (Gg 3 8 (AG Z aa) Z (AD BF Z (Gg 3 8 (AG Z aa) Z (AE (v:=msv) Z (Rd.one Bj (ab.keep ap Z) Z) (Gg 3 8 (AG Z aa) Z (AB (v:=J n) Z ?_)))))));have aj:(0:Int)≤n:=by omega
   have ak:n<((ms.length:Nat):Int):=by omega
   exact Gg 3 8 (AG Z aa) Z (A3 Ch hms Z Z aj ak fun aq ad al=>have am:Ac _ aq ad 5 (BN (ms.getD (n.toNat) AC.z)):=Ac.getD AC.z al;Gg 3 8 (AG Z aa) Z (AD Df Z (Gg 3 8 (AG Z aa) Z (AE (v:=J ((ms.getD (n.toNat) AC.z).kind)) Z (Bu F3 (am.le (ac.trans ab)) Z) (Gg 3 8 (AG Z aa) Z (B5 (a:=(ms.getD (n.toNat) AC.z).kind) (b:=0) Z Z (Pk true (.bool (decide (((ms.getD (n.toNat) AC.z).kind)=0))) Z (AG Z aa) Z (As (.bool (decide (((ms.getD (n.toNat) AC.z).kind)=0))) Z Z (Nl (⟨Z,ab,Et (b:=(.bool (decide (((ms.getD (n.toNat) AC.z).kind)=0)):Value)) Z (congrArg Value.bool (by (simp [aa];done):decide (((ms.getD (n.toNat) AC.z).kind)=0)=(decide ((0≤n∧n≤(ms.length:Int)-1)∧(((ms.getD (n.toNat) AC.z).kind)=0)))))⟩))))))))))
  ·intro aa;exact Gs 3 8 (AF Z aa) Z (Gs 3 8 (AF Z aa) Z (Gs 3 8 (AF Z aa) Z (Gs 3 8 (AF Z aa) Z (Gs 3 8 (AF Z aa) Z (Gs 3 8 (AF Z aa) Z (Gs 3 8 (AF Z aa) Z (Gs 3 8 (AF Z aa) Z (Pk false (.bool false) Z (AF Z aa) Z (As (.bool false) Z Z (Nl (⟨Z,ab,Et (b:=(.bool false:Value)) Z (congrArg Value.bool (by (simp [aa];done):false=(decide ((0≤n∧n≤(ms.length:Int)-1)∧(((ms.getD (n.toNat) AC.z).kind)=0)))))⟩)))))))))))
 ·rintro _ _ _ ⟨an,ae,ao⟩;subst an;exact Rt (⟨.inr Z,Aj Z (v:=.bool (decide ((0≤n∧n≤(ms.length:Int)-1)∧(((ms.getD (n.toNat) AC.z).kind)=0)))) ao (⟨(by rfl),(ac.trans ae)⟩)⟩)
theorem X5 {W:Wk prog} {h:GH} (d:Int) (m:Int) (gs:List Good) (gsv:Value) (ms:List AC) (msv:Value) (cs:List AH) (csv:Value) (hgs:AO h gsv 5 BT gs) (hms:AO h msv 5 BN ms) (hcs:AO h csv 4 BD cs):Ah W 194 #[.agg #[J d,J m,gsv,msv,csv]] h (fun v h'=>v=(J (ET d m):Value)∧h.Le h'):=by
 have ad:=hgs.len;have ae:=hms.len;have af:=hcs.len;refine AN func194 Z (Nb Z) (Sq (Rg (Pl Z (Az (v:=.agg #[J d,J m,gsv,msv,csv]) (c:=#[J d,J m,gsv,msv,csv]) Z Z fun _ h5 _ ab al _=>As (J 0) Z Z (Nl (Sq (BK (fun σ' ds' h'=>ds'=[]∧h5=h'∧σ' 2=J 0∧σ' 14=.bool (Q2e d m)) ?_ ?_)))))))
 ·refine Rg (Fa BA Z Z (Fa CW Z Z (Ld (J d) Z Z (Rd.one AL al Z) (Pl Z (A8 func79 CB Z Z Z ((Bi d 1 99 ).mono fun _ _ ag=>?_))))));obtain ⟨rfl,rfl⟩:=ag;refine Pl Z (BY (p:=1≤d∧d≤99) Z (Mv (.bool (decide (¬(1≤d∧d≤99)))) Z Z (BM (p:=¬(1≤d∧d≤99)) ?_ ?_)))
  ·intro aa;exact Gs 5 8 (AG Z aa) Z (Gs 5 8 (AG Z aa) Z (Gs 5 8 (AG Z aa) Z (Gs 5 8 (AG Z aa) Z (Gs 5 8 (AG Z aa) Z (Pk true (.bool true) Z (AG Z aa) Z (Nl (⟨Z,Z,Z,Et (b:=(.bool true:Value)) Z (congrArg Value.bool (by (simp [aa];done):true=(Q2e d m)))⟩)))))))
  ·intro aa;refine Gg 5 8 (AF Z aa) Z (AD BA Z (Gg 5 8 (AF Z aa) Z (AD Fh Z (Gg 5 8 (AF Z aa) Z (AE (v:=J m) Z (Rd.one AL al Z) (Gg 5 8 (AF Z aa) Z (A8 func79 CB Z Z Z ((Bi m 0 2 ).mono fun _ _ ah=>?_))))))));obtain ⟨rfl,rfl⟩:=ah;exact Gg 5 8 (AF Z aa) Z (BY (p:=0≤m∧m≤2) Z (Pk false (.bool (Q3m m)) Z (AF Z aa) Z (Nl (⟨Z,Z,Z,Et (b:=(.bool (Q3m m):Value)) Z (congrArg Value.bool (by (simp [aa];done):decide (¬(0≤m∧m≤2))=(Q2e d m)))⟩))))
 ·rintro _ _ _ ⟨ai,ac,am,aj⟩;subst ai;subst ac;refine Ag (p:=(¬(1≤d∧d≤99))∨(¬(0≤m∧m≤2))) aj (fun ak=>?_) (fun ak=>?_)
  ·exact Sq (Rg (As (J 1) Z Z (Nl (Rt (⟨.inr Z,Aj Z (v:=J 1) Z (⟨(by simp_all [ET]),ab⟩)⟩)))))
  ·exact Sk (Sq (Rg (As (J 0) Z Z (Nl (Rt (⟨.inr Z,Aj Z (v:=J 0) Z (⟨(by simp_all [ET]),ab⟩)⟩))))))
theorem Pd {W:Wk prog} {h:GH} (xs:List Int) (xsv:Value) (fv:Value) (p:Int→Bool) (hxs:AO h xsv 1 eI xs) (hf:∀x ∈ xs,∀h1,h.Le h1→Ct W fv #[J x] h1 fun v h2=>v=.bool (p x)∧h1.Le h2):Ah W 139 #[xsv,fv] h (fun v h'=>v=(J (idxOf p xs):Value)∧h.Le h'):=by
 have ac:=hxs.len;refine AN func139 Z (Nb Z) (Sq (Rg (As (J 0) Z Z (Nl (Sq (Sq (Rg (Mv xsv Z Z (Pl Z (Ae B0 hxs Z (Mv (J 0) Z Z (Nl (Bk (A6 (fun nn σ' ds' h'=>∃(k:Nat),nn=xs.length-k∧(k≤xs.length)∧((xs.take k).any p=false)∧ds'=[]∧GH.Le h h'∧σ' 0=xsv∧σ' 1=fv∧σ' 7=J (xs.length:Int)∧σ' 8=J k) ⟨0,Z,(by omega),(by simp),Z,Lr,Z,Z,Z,Z⟩ (fun nn _ _ _ am=>?_)))))))))))))));obtain ⟨k,rfl,hk,hs,x6,x7,x8,x9,al,ad⟩:=am;subst x6;refine Sq (Rg (Pl Z (BC (a:=(k:Int)) (b:=(xs.length:Int)) ad al (Nl (Sq (Ag (p:=(k:Int)<(xs.length:Int)) Z (fun ae=>?_) (fun ae=>?_)))))))
 ·refine Sk (Sq (Bk (Sq (Rg (Mv (J k) Z ad (As (J k) Z Z (Nl (Sq (Rg (Mv fv Z x9 (Mv xsv Z x8 (Mv (J k) Z Z ?_))))))))))));have af:(0:Int)≤(k:Int):=by omega
  have ag:(k:Int)<((xs.length:Nat):Int):=by omega
  refine Pl Z (A3 AX hxs Z Z af ag fun an ab ah=>have ai:Ac _ an ab 1 (eI (xs.getD k 0)):=Ac.getD 0 ah;Ld (M4 xs k) Z Z (Bu AL (ai.le x7) Z) (Pl Z (Ig Z (vs:=#[J (xs.getD k 0)]) (by simp only [List.map_toArray,List.map_cons,List.map_nil,AY] <;> rfl) ((hf (xs.getD k 0) (Cd (by omega)) _ x7).mono fun _ _ aj=>?_))));obtain ⟨rfl,aa⟩:=aj;refine Nl (DF (t:=p (xs.getD k 0)) Z (fun ak=>?_) (fun ak=>?_))
  ·exact Sq (Rg (Mv (J k) Z Z (As (J k) Z Z (Nl (Rt (⟨.inr Z,Aj Z (v:=J k) Z (⟨(by (rw [Ly (k:=k) (by omega) hs ‹_›];done)),(x7.trans aa)⟩)⟩))))))
  ·exact Sk (Rg (Ad (k:Int) 1 Z ad Z (by omega) (Mv (J ((k:Int)+1)) Z Z (Nl (⟨_,by omega,k+1,Z,(by omega),(by exact LI (d:=0) (by omega) hs ‹_›),Z,(x7.trans aa),x8,x9,al,Z⟩)))))
 ·exact Xt (Sq (Rg (As (J (-1)) Z Z (Nl (Rt (⟨.inr Z,Aj Z (v:=J (-1)) Z (⟨(by (rw [Ka (k:=k) (by omega) hs])),x7⟩)⟩))))))
theorem IU {W:Wk prog} {h:GH} (xs:List Int) (xsv:Value) (fv:Value) (p:Int→Bool) (hxs:AO h xsv 1 eI xs) (hf:∀x ∈ xs,∀h1,h.Le h1→Ct W fv #[J x] h1 fun v h2=>v=.bool (p x)∧h1.Le h2):Ah W 92 #[xsv,fv] h (fun v h'=>v=(.bool (xs.any p):Value)∧h.Le h'):=by
 have aa:=hxs.len;refine AN func92 Z (Nb Z) (Sq (Rg (As (.bool false) Z Z (Nl (Sq (Rg (Mv xsv Z Z (Mv fv Z Z (Pl Z (Ab func139 VE Z Z ((Pd xs xsv fv p hxs (fun x hx h1 l1=>hf x hx h1 (GH.Le.trans Lr l1))).mono fun _ _ ac=>?_)))))))))));obtain ⟨rfl,ab⟩:=ac;exact Pl Z (C5 (a:=idxOf p xs) (b:=0) Z Z (As (.bool (decide (0≤(idxOf p xs)))) Z Z (Nl (Rt (⟨.inr Z,Aj Z (v:=.bool (decide (0≤(idxOf p xs)))) Z (⟨(by rw [show decide (0≤idxOf p xs)=xs.any p from by rw [Bool.eq_iff_iff];simp [ID]]),ab⟩)⟩)))))
theorem M5 {W:Wk prog} {h:GH} (xs:List AH) (xsv:Value) (fv:Value) (p:AH→Bool) (hxs:AO h xsv 4 BD xs) (hf:∀x ∈ xs,∀h1,h.Le h1→Ct W fv #[.agg #[J x.good,J x.day,J x.low,J x.high]] h1 fun v h2=>v=.bool (p x)∧h1.Le h2):Ah W 158 #[xsv,fv] h (fun v h'=>v=(J (idxOf p xs):Value)∧h.Le h'):=by
 have ac:=hxs.len;refine AN func158 Z (Nb Z) (Sq (Rg (As (J 0) Z Z (Nl (Sq (Sq (Rg (Mv xsv Z Z (Pl Z (Ae GX hxs Z (Mv (J 0) Z Z (Nl (Bk (A6 (fun nn σ' ds' h'=>∃(k:Nat),nn=xs.length-k∧(k≤xs.length)∧((xs.take k).any p=false)∧ds'=[]∧GH.Le h h'∧σ' 0=xsv∧σ' 1=fv∧σ' 7=J (xs.length:Int)∧σ' 8=J k) ⟨0,Z,(by omega),(by simp),Z,Lr,Z,Z,Z,Z⟩ (fun nn _ _ _ am=>?_)))))))))))))));obtain ⟨k,rfl,hk,hs,x6,x7,x8,x9,al,ad⟩:=am;subst x6;refine Sq (Rg (Pl Z (BC (a:=(k:Int)) (b:=(xs.length:Int)) ad al (Nl (Sq (Ag (p:=(k:Int)<(xs.length:Int)) Z (fun ae=>?_) (fun ae=>?_)))))))
 ·refine Sk (Sq (Bk (Sq (Rg (Mv (J k) Z ad (As (J k) Z Z (Nl (Sq (Rg (Mv fv Z x9 (Mv xsv Z x8 (Mv (J k) Z Z ?_))))))))))));have af:(0:Int)≤(k:Int):=by omega
  have ag:(k:Int)<((xs.length:Nat):Int):=by omega
  refine Pl Z (A3 IR hxs Z Z af ag fun an ab ah=>have ai:Ac _ an ab 4 (BD (Wb xs k)):=Ac.getD AH.z ah;Ld (.agg (Q1m xs k)) Z Z (AP FS (ai.le x7)) (Pl Z (Ig Z (vs:=#[.agg (Q1m xs k)]) (by simp only [List.map_toArray,List.map_cons,List.map_nil,AY] <;> rfl) ((hf (Wb xs k) (Cd (by omega)) _ x7).mono fun _ _ aj=>?_))));obtain ⟨rfl,aa⟩:=aj;refine Nl (DF (t:=p (Wb xs k)) Z (fun ak=>?_) (fun ak=>?_))
  ·exact Sq (Rg (Mv (J k) Z Z (As (J k) Z Z (Nl (Rt (⟨.inr Z,Aj Z (v:=J k) Z (⟨(by (rw [Ly (k:=k) (by omega) hs ‹_›];done)),(x7.trans aa)⟩)⟩))))))
  ·exact Sk (Rg (Ad (k:Int) 1 Z ad Z (by omega) (Mv (J ((k:Int)+1)) Z Z (Nl (⟨_,by omega,k+1,Z,(by omega),(by exact LI (d:=AH.z) (by omega) hs ‹_›),Z,(x7.trans aa),x8,x9,al,Z⟩)))))
 ·exact Xt (Sq (Rg (As (J (-1)) Z Z (Nl (Rt (⟨.inr Z,Aj Z (v:=J (-1)) Z (⟨(by (rw [Ka (k:=k) (by omega) hs])),x7⟩)⟩))))))
theorem Ky {W:Wk prog} {h:GH} (xs:List AH) (xsv:Value) (fv:Value) (p:AH→Bool) (hxs:AO h xsv 4 BD xs) (hf:∀x ∈ xs,∀h1,h.Le h1→Ct W fv #[.agg #[J x.good,J x.day,J x.low,J x.high]] h1 fun v h2=>v=.bool (p x)∧h1.Le h2):Ah W 144 #[xsv,fv] h (fun v h'=>v=(.bool (xs.any p):Value)∧h.Le h'):=by
 have aa:=hxs.len;refine AN func144 Z (Nb Z) (Sq (Rg (As (.bool false) Z Z (Nl (Sq (Rg (Mv xsv Z Z (Mv fv Z Z (Pl Z (Ab func158 VM Z Z ((M5 xs xsv fv p hxs (fun x hx h1 l1=>hf x hx h1 (GH.Le.trans Lr l1))).mono fun _ _ ac=>?_)))))))))));obtain ⟨rfl,ab⟩:=ac;exact Pl Z (C5 (a:=idxOf p xs) (b:=0) Z Z (As (.bool (decide (0≤(idxOf p xs)))) Z Z (Nl (Rt (⟨.inr Z,Aj Z (v:=.bool (decide (0≤(idxOf p xs)))) Z (⟨(by rw [show decide (0≤idxOf p xs)=xs.any p from by rw [Bool.eq_iff_iff];simp [ID]]),ab⟩)⟩)))))
theorem O2 {W:Wk prog} {h:GH} (xs:List Good) (xsv:Value) (fv:Value) (p:Good→Bool) (hxs:AO h xsv 5 BT xs) (hf:∀x ∈ xs,∀h1,h.Le h1→Ct W fv #[.agg #[.string x.name,J x.cost,J x.pack,J x.low,J x.high]] h1 fun v h2=>v=.bool (p x)∧h1.Le h2):Ah W 202 #[xsv,fv] h (fun v h'=>v=(J (idxOf p xs):Value)∧h.Le h'):=by
 have ac:=hxs.len;refine AN func202 Z (Nb Z) (Sq (Rg (As (J 0) Z Z (Nl (Sq (Sq (Rg (Mv xsv Z Z (Pl Z (Ae Cr hxs Z (Mv (J 0) Z Z (Nl (Bk (A6 (fun nn σ' ds' h'=>∃(k:Nat),nn=xs.length-k∧(k≤xs.length)∧((xs.take k).any p=false)∧ds'=[]∧GH.Le h h'∧σ' 0=xsv∧σ' 1=fv∧σ' 7=J (xs.length:Int)∧σ' 8=J k) ⟨0,Z,(by omega),(by simp),Z,Lr,Z,Z,Z,Z⟩ (fun nn _ _ _ am=>?_)))))))))))))));obtain ⟨k,rfl,hk,hs,x6,x7,x8,x9,al,ad⟩:=am;subst x6;refine Sq (Rg (Pl Z (BC (a:=(k:Int)) (b:=(xs.length:Int)) ad al (Nl (Sq (Ag (p:=(k:Int)<(xs.length:Int)) Z (fun ae=>?_) (fun ae=>?_)))))))
 ·refine Sk (Sq (Bk (Sq (Rg (Mv (J k) Z ad (As (J k) Z Z (Nl (Sq (Rg (Mv fv Z x9 (Mv xsv Z x8 (Mv (J k) Z Z ?_))))))))))));have af:(0:Int)≤(k:Int):=by omega
  have ag:(k:Int)<((xs.length:Nat):Int):=by omega
  refine Pl Z (A3 EB hxs Z Z af ag fun an ab ah=>have ai:Ac _ an ab 5 (BT (xs.getD k Good.z)):=Ac.getD Good.z ah;Ld (.agg (Q1c xs k)) Z Z (AP F4 (ai.le x7)) (Pl Z (Ig Z (vs:=#[.agg (Q1c xs k)]) (by simp only [List.map_toArray,List.map_cons,List.map_nil,AY] <;> rfl) ((hf (xs.getD k Good.z) (Cd (by omega)) _ x7).mono fun _ _ aj=>?_))));obtain ⟨rfl,aa⟩:=aj;refine Nl (DF (t:=p (xs.getD k Good.z)) Z (fun ak=>?_) (fun ak=>?_))
  ·exact Sq (Rg (Mv (J k) Z Z (As (J k) Z Z (Nl (Rt (⟨.inr Z,Aj Z (v:=J k) Z (⟨(by (rw [Ly (k:=k) (by omega) hs ‹_›];done)),(x7.trans aa)⟩)⟩))))))
  ·exact Sk (Rg (Ad (k:Int) 1 Z ad Z (by omega) (Mv (J ((k:Int)+1)) Z Z (Nl (⟨_,by omega,k+1,Z,(by omega),(by exact LI (d:=Good.z) (by omega) hs ‹_›),Z,(x7.trans aa),x8,x9,al,Z⟩)))))
 ·exact Xt (Sq (Rg (As (J (-1)) Z Z (Nl (Rt (⟨.inr Z,Aj Z (v:=J (-1)) Z (⟨(by (rw [Ka (k:=k) (by omega) hs])),x7⟩)⟩))))))
theorem Lm {W:Wk prog} {h:GH} (xs:List Good) (xsv:Value) (fv:Value) (p:Good→Bool) (hxs:AO h xsv 5 BT xs) (hf:∀x ∈ xs,∀h1,h.Le h1→Ct W fv #[.agg #[.string x.name,J x.cost,J x.pack,J x.low,J x.high]] h1 fun v h2=>v=.bool (p x)∧h1.Le h2):Ah W 199 #[xsv,fv] h (fun v h'=>v=(.bool (xs.any p):Value)∧h.Le h'):=by
 have aa:=hxs.len;refine AN func199 Z (Nb Z) (Sq (Rg (As (.bool false) Z Z (Nl (Sq (Rg (Mv xsv Z Z (Mv fv Z Z (Pl Z (Ab func202 Vg Z Z ((O2 xs xsv fv p hxs (fun x hx h1 l1=>hf x hx h1 (GH.Le.trans Lr l1))).mono fun _ _ ac=>?_)))))))))));obtain ⟨rfl,ab⟩:=ac;exact Pl Z (C5 (a:=idxOf p xs) (b:=0) Z Z (As (.bool (decide (0≤(idxOf p xs)))) Z Z (Nl (Rt (⟨.inr Z,Aj Z (v:=.bool (decide (0≤(idxOf p xs)))) Z (⟨(by rw [show decide (0≤idxOf p xs)=xs.any p from by rw [Bool.eq_iff_iff];simp [ID]]),ab⟩)⟩)))))
theorem Pe {W:Wk prog} {h:GH} (n:Int):Ah W 155 #[J n] h (fun v h'=>v=(.bool (decide (¬(0≤n∧n≤99))):Value)∧h=h'):=by
 refine AN func155 Z (Nb Z) (Sq (Rg (As (.bool false) Z Z (Nl (Sq (Rg (Mv (J n) Z Z (Pl Z (A8 func79 CB Z Z Z ((Bi n 0 99 ).mono fun _ _ aa=>?_))))))))));obtain ⟨rfl,rfl⟩:=aa;exact Pl Z (BY (p:=0≤n∧n≤99) Z (As (.bool (Q3j n)) Z Z (Nl (Rt (⟨.inr Z,Aj Z (v:=.bool (Q3j n)) Z (⟨Z,Z⟩)⟩)))))
theorem Lo {W:Wk prog} {h:GH} (l:List Int) (lv:Value) (m:Int) (hl:AO h lv 1 eI l):Ah W 140 #[lv,J m] h (fun v h'=>v=(J (BG l m):Value)∧h.Le h'):=by
 have ab:=hl.len;refine AN func140 Z (Nb Z) (Sq (Rg (As (J 0) Z Z (Nl (Sq (Bk (Sq (Rg (Mv lv Z Z (Pl Z (Ae B0 hl Z (Mv (J m) Z Z (Pl Z (BJ (a:=(l.length:Int)) (b:=m) Z Z (As (.bool (decide (¬(l.length:Int)=m))) Z Z (Nl (Ag (p:=¬(l.length:Int)=m) Z (fun ac=>?_) (fun ac=>?_))))))))))))))))))
 ·exact Sq (Rg (As (J 2) Z Z (Nl (Rt (⟨.inr Z,Aj Z (v:=J 2) Z (⟨(by simp_all [BG]),Lr⟩)⟩)))))
 ·refine Sq (Rg (Mv lv Z Z ?_));have ad:∀x ∈ l,∀h1,GH.Le h h1→Ct W (.func (.func 155) #[] #[]) #[J x] h1 fun v h2=>v=.bool ((fun x=>decide (¬(0≤x∧x≤99))) x)∧h1.Le h2:=by
   intro x hx h1 _;exact CM func155 VJ Z ((Pe x ).mono fun v h2 hp=>⟨hp.1,by rw [←hp.2];exact GH.Le.refl _⟩)
  refine Pl Z (Ab func92 Qf Z Z ((IU l lv (.func (.func 155) #[] #[]) (fun x=>decide (¬(0≤x∧x≤99))) hl ad).mono fun _ _ ae=>?_));obtain ⟨rfl,aa⟩:=ae;refine As (.bool (l.any (fun x=>decide (¬(0≤x∧x≤99))))) Z Z (Nl (DF (t:=l.any (fun x=>decide (¬(0≤x∧x≤99)))) Z (fun af=>?_) (fun af=>?_)))
  ·exact Sq (Rg (As (J 1) Z Z (Nl (Rt (⟨.inr Z,Aj Z (v:=J 1) Z (⟨(by simp_all [BG]),aa⟩)⟩)))))
  ·exact Sk (Sq (Rg (As (J 0) Z Z (Nl (Rt (⟨.inr Z,Aj Z (v:=J 0) Z (⟨(by simp_all [BG]),aa⟩)⟩))))))
end Go.Ns
namespace Go.Ns
open Go.Conc Go.Proofs Go.Proofs.Tryz
attribute [local irreducible] Br ER Tr Ah Ct CH
theorem Vn {W:Wk prog} {h:GH} (d:Int) (m:Int) (gs:List Good) (gsv:Value) (ms:List AC) (msv:Value) (cs:List AH) (csv:Value) (hgs:AO h gsv 5 BT gs) (hms:AO h msv 5 BN ms) (hcs:AO h csv 4 BD cs):Ah W 196 #[.agg #[J d,J m,gsv,msv,csv]] h (fun v h'=>v=(J (BW d gs ms):Value)∧h.Le h'):=by
 have av:=hgs.len;have aw:=hms.len;have ax:=hcs.len;refine AN func196 Z (Nb Z) (Sq (Rg (Pl Z (Az (v:=.agg #[J d,J m,gsv,msv,csv]) (c:=#[J d,J m,gsv,msv,csv]) Z Z fun r4 h5 _ af ay _=>As (J 0) Z Z (Nl (Sq (Sq (Rg (Fa BA Z Z (Fa BF Z Z (Ld msv Z Z (Rd.one Bj ay Z) (have ak:=hms.le af;Pl Z (Ae C7 ak Z (Pl Z (Dl (a:=(ms.length:Int)) (b:=6) Z Z (Nl (Ag (p:=6<(ms.length:Int)) Z (fun az=>?_) (fun az=>?_))))))))))))))))))
 ·exact Sq (Rg (As (J 2) Z Z (Nl (Rt (⟨.inr Z,Aj Z (v:=J 2) Z (⟨(by (symm;congr 1;rw [BW,if_pos ‹_›];done)),af⟩)⟩)))))
 ·refine Sk (Sq (Rg (As (J 0) Z Z (Nl (Sq (Sq (Rg (Fa BA Z Z (Fa BF Z Z (Ld msv Z Z (Rd.one Bj ay Z) (Pl Z (Ae C7 ak Z (Mv (J 0) Z Z (Nl (Bk (A6 (fun nn σ' ds' h'=>∃(k:Nat),nn=ms.length-k∧(k≤ms.length)∧(∀j,j<k→DZ d gs ms j=0)∧ds'=[]∧GH.Le h5 h'∧σ' 1=Pt r4∧σ' 13=msv∧σ' 14=J (ms.length:Int)∧σ' 3=J (Du ms k)∧σ' 15=J k) ⟨0,Z,(by omega),(by (intro j hj;omega)),Z,Lr,Z,Z,Z,Z,Z⟩ (fun nn _ _ _ a0=>?_)))))))))))))))));obtain ⟨k,rfl,hk,hs,bi,al,a1,bg,bh,bj,a2⟩:=a0;subst bi;refine Sq (Rg (Pl Z (BC (a:=(k:Int)) (b:=(ms.length:Int)) a2 bh (Nl (Sq (Ag (p:=(k:Int)<(ms.length:Int)) Z (fun a3=>?_) (fun a3=>?_)))))))
  ·refine Sk (Sq (Bk (Sq (Rg ?_))));have a4:(0:Int)≤(k:Int):=by omega
   have a5:(k:Int)<((ms.length:Nat):Int):=by omega
   refine Pl Z (A3 Ch hms bg a2 a4 a5 fun bk am a6=>have a7:Ac _ bk am 5 (BN (ms.getD k AC.z)):=Ac.getD AC.z a6;have ad:=af.trans al;Ld (.agg #[J ((ms.getD k AC.z).kind),J ((ms.getD k AC.z).good),J ((ms.getD k AC.z).day),J ((ms.getD k AC.z).low),J ((ms.getD k AC.z).high)]) Z Z (AP Ek (a7.le ad)) (have an:=al.keep ay Z;Pl Z (An EC fun bl _ ag ac a8 _=>have a9:r4≠bl:=DX an ag;Pl Z (AJ (v:=.agg #[J ((ms.getD k AC.z).kind),J ((ms.getD k AC.z).good),J ((ms.getD k AC.z).day),J ((ms.getD k AC.z).low),J ((ms.getD k AC.z).high)]) (c':=#[J ((ms.getD k AC.z).kind),J ((ms.getD k AC.z).good),J ((ms.getD k AC.z).day),J ((ms.getD k AC.z).low),J ((ms.getD k AC.z).high)]) Ek Z Z a8 Z Z (by simp) Z fun _ aj ah=>Nl (Sq (Bk (Sq (Rg (Fa Df Z Z (Ld (J ((ms.getD k AC.z).kind)) Z Z (Rd.one F3 aj Z) (Pl Z (A8 func79 CB Z Z Z ((Bi ((ms.getD k AC.z).kind) 0 4 ).mono fun _ _ ba=>?_)))))))))))));obtain ⟨rfl,rfl⟩:=ba;refine Pl Z (BY (p:=0≤((ms.getD k AC.z).kind)∧((ms.getD k AC.z).kind)≤4) Z (As (.bool (decide (¬(0≤((ms.getD k AC.z).kind)∧((ms.getD k AC.z).kind)≤4)))) Z Z (Nl (Ag (p:=¬(0≤((ms.getD k AC.z).kind)∧((ms.getD k AC.z).kind)≤4)) Z (fun ao=>?_) (fun ao=>?_)))))
   ·exact Sq (Rg (As (J 1) Z Z (Nl (Rt (⟨.inr Z,Aj Z (v:=J 1) Z (⟨(by (symm;congr 1;rw [BW,if_neg ‹_›];exact Bd (k:=k) hs (by omega) (by unfold DZ;(simp only [*,not_true_eq_false,not_false_eq_true,if_true,if_false,true_or,or_true,reduceCtorEq,Bool.false_eq_true];done)) (by decide))),((ad.trans ac).upd (Ln ad ag) ah)⟩)⟩)))))
   ·have hc48_:=Dn ao;refine Sq (Rg (have ap:=(ah _ a9).trans (ac.keep an Z);Ld (.agg #[J d,J m,gsv,msv,csv]) Z a1 (AP B1 (Bx ap Z)) (Fa Fi Z Z (Ld (J ((ms.getD k AC.z).good)) Z Z (Rd.one AL aj Z) (have ab:=(ad.trans ac).upd (Ln ad ag) ah;Pl Z (Ab func77 IP Z Z ((Gk d m gs gsv ms msv cs csv ((ms.getD k AC.z).good) (hgs.le ab) (hms.le ab) (hcs.le ab) ).mono fun _ _ bb=>?_)))))));obtain ⟨rfl,aa⟩:=bb;refine Pl Z (BY (p:=0≤((ms.getD k AC.z).good)∧((ms.getD k AC.z).good)≤(gs.length:Int)-1) Z (As (.bool (decide (¬(0≤((ms.getD k AC.z).good)∧((ms.getD k AC.z).good)≤(gs.length:Int)-1)))) Z Z (Nl (Ag (p:=¬(0≤((ms.getD k AC.z).good)∧((ms.getD k AC.z).good)≤(gs.length:Int)-1)) Z (fun aq=>?_) (fun aq=>?_)))))
    ·exact Sq (Rg (As (J 6) Z Z (Nl (Rt (⟨.inr Z,Aj Z (v:=J 6) Z (⟨(by (symm;congr 1;rw [BW,if_neg ‹_›];exact Bd (k:=k) hs (by omega) (by unfold DZ;(clear hs;simp_all;done)) (by decide))),(ab.trans aa)⟩)⟩)))))
    ·have hc59_:=Dn aq;refine Sq (Rg (Fa Co Z Z (have ai:=aa.keep aj Z;Ld (J ((ms.getD k AC.z).day)) Z Z (Rd.one AL ai Z) (Fa BA Z a1 (Fa CW Z Z (Ld (J d) Z Z (Rd.one AL (aa.keep ap Z) Z) (Pl Z (A8 func79 CB Z Z Z ((Bi ((ms.getD k AC.z).day) 1 d ).mono fun _ _ bc=>?_)))))))));obtain ⟨rfl,rfl⟩:=bc;refine Pl Z (BY (p:=1≤((ms.getD k AC.z).day)∧((ms.getD k AC.z).day)≤d) Z (As (.bool (decide (¬(1≤((ms.getD k AC.z).day)∧((ms.getD k AC.z).day)≤d)))) Z Z (Nl (Ag (p:=¬(1≤((ms.getD k AC.z).day)∧((ms.getD k AC.z).day)≤d)) Z (fun ar=>?_) (fun ar=>?_)))))
     ·exact Sq (Rg (As (J 1) Z Z (Nl (Rt (⟨.inr Z,Aj Z (v:=J 1) Z (⟨(by (symm;congr 1;rw [BW,if_neg ‹_›];exact Bd (k:=k) hs (by omega) (by unfold DZ;(clear hs;simp_all;done)) (by decide))),(ab.trans aa)⟩)⟩)))))
     ·have hc67_:=Dn ar;refine Sq (Rg (Fa Co Z Z (Ld (J ((ms.getD k AC.z).day)) Z Z (Rd.one AL ai Z) (Mv (J (Du ms k)) Z bj (Pl Z (BC (a:=(ms.getD k AC.z).day) (b:=Du ms k) Z Z (As (.bool (decide (((ms.getD k AC.z).day)<(Du ms k)))) Z Z (Nl (Ag (p:=((ms.getD k AC.z).day)<(Du ms k)) Z (fun bd=>?_) (fun bd=>?_))))))))))
      ·exact Sq (Rg (As (J 7) Z Z (Nl (Rt (⟨.inr Z,Aj Z (v:=J 7) Z (⟨(by (symm;congr 1;rw [BW,if_neg ‹_›];exact Bd (k:=k) hs (by omega) (by unfold DZ;(clear hs;simp_all;done)) (by decide))),(ab.trans aa)⟩)⟩)))))
      ·refine Sq (Rg (Fa E4 Z Z (Ld (.agg #[J ((ms.getD k AC.z).low),J ((ms.getD k AC.z).high)]) Z Z (FE (o:=3) (ws:=#[J ((ms.getD k AC.z).low),J ((ms.getD k AC.z).high)]) Bf (Bx ai Z) (Nb Z) Z) (Pl Z (A5 func201 Oq Z ((TV ((ms.getD k AC.z).low) ((ms.getD k AC.z).high) ).mono fun _ _ be=>?_))))));obtain ⟨rfl,ae⟩:=be;refine Pl Z (BY (p:=FC ((ms.getD k AC.z).low) ((ms.getD k AC.z).high)) Z (As (.bool (decide (¬(FC ((ms.getD k AC.z).low) ((ms.getD k AC.z).high))))) Z Z (Nl (Ag (p:=¬(FC ((ms.getD k AC.z).low) ((ms.getD k AC.z).high))) Z (fun au=>?_) (fun au=>?_)))))
       ·exact Sq (Rg (As (J 1) Z Z (Nl (Rt (⟨.inr Z,Aj Z (v:=J 1) Z (⟨(by (symm;congr 1;rw [BW,if_neg ‹_›];exact Bd (k:=k) hs (by omega) (by unfold DZ;(clear hs;simp_all;done)) (by decide))),((ab.trans aa).trans ae)⟩)⟩)))))
       ·have hc75_:=Dn au;exact Sk (Rg (Fa Co Z Z (Ld (J ((ms.getD k AC.z).day)) Z Z (Rd.one AL (ae.keep ai Z) Z) (As (J ((ms.getD k AC.z).day)) Z Z (Nl (Rg (Ad (k:Int) 1 Z a2 Z (by omega) (Mv (J ((k:Int)+1)) Z Z (Nl (have bf:=(((al.trans ac).upd (Ln al ag) ah).trans aa).trans ae;⟨_,by omega,k+1,Z,(by omega),(by exact Dq hs (by unfold DZ;(clear hs;simp_all;done))),Z,bf,a1,bg,bh,(Et (b:=(J ((ms.getD k AC.z).day):Value)) Z (by simp [Du])),Z⟩))))))))))
  ·exact Xt (Sq (Rg (As (J 0) Z Z (Nl (Rt (⟨.inr Z,Aj Z (v:=J 0) Z (⟨(by (symm;congr 1;rw [BW,if_neg ‹_›];exact Ck (k:=k) hs (by omega))),(af.trans al)⟩)⟩))))))
theorem TY {W:Wk prog} {h:GH} (d:Int) (m:Int) (gs:List Good) (gsv:Value) (ms:List AC) (msv:Value) (cs:List AH) (csv:Value) (hgs:AO h gsv 5 BT gs) (hms:AO h msv 5 BN ms) (hcs:AO h csv 4 BD cs):Ah W 197 #[.agg #[J d,J m,gsv,msv,csv]] h (fun v h'=>v=(J (CN d gs cs):Value)∧h.Le h'):=by
 have aw:=hgs.len;have ax:=hms.len;have ay:=hcs.len;refine AN func197 Z (Nb Z) (Sq (Rg (Pl Z (Az (v:=.agg #[J d,J m,gsv,msv,csv]) (c:=#[J d,J m,gsv,msv,csv]) Z Z fun r4 h5 _ ae az _=>As (J 0) Z Z (Nl (Sq (Sq (Rg (Fa BA Z Z (Fa CF Z Z (Ld csv Z Z (Rd.one DQ az Z) (have aj:=hcs.le ae;Pl Z (Ae GX aj Z (Pl Z (Dl (a:=(cs.length:Int)) (b:=4) Z Z (Nl (Ag (p:=4<(cs.length:Int)) Z (fun a0=>?_) (fun a0=>?_))))))))))))))))))
 ·exact Sq (Rg (As (J 2) Z Z (Nl (Rt (⟨.inr Z,Aj Z (v:=J 2) Z (⟨(by (symm;congr 1;rw [CN,if_pos ‹_›];done)),ae⟩)⟩)))))
 ·refine Sk (Sq (Sq (Rg (Fa BA Z Z (Fa CF Z Z (Ld csv Z Z (Rd.one DQ az Z) (Pl Z (Ae GX aj Z (Mv (J 0) Z Z (Nl (Bk (A6 (fun nn σ' ds' h'=>∃(k:Nat),nn=cs.length-k∧(k≤cs.length)∧(∀j,j<k→Ei d gs cs j=0)∧ds'=[]∧GH.Le h5 h'∧σ' 1=Pt r4∧σ' 12=csv∧σ' 13=J (cs.length:Int)∧σ' 14=J k) ⟨0,Z,(by omega),(by (intro j hj;omega)),Z,Lr,Z,Z,Z,Z⟩ (fun nn _ _ _ a1=>?_)))))))))))));obtain ⟨k,rfl,hk,hs,bm,ak,au,a2,a3,av⟩:=a1;subst bm;refine Sq (Rg (Pl Z (BC (a:=(k:Int)) (b:=(cs.length:Int)) av a3 (Nl (Sq (Ag (p:=(k:Int)<(cs.length:Int)) Z (fun a4=>?_) (fun a4=>?_)))))))
  ·refine Sk (Sq (Bk (Sq (Rg ?_))));have a5:(0:Int)≤(k:Int):=by omega
   have a6:(k:Int)<((cs.length:Nat):Int):=by omega
   refine Pl Z (A3 IR hcs a2 av a5 a6 fun bn al a7=>have a8:Ac _ bn al 4 (BD (cs.getD k AH.z)):=Ac.getD AH.z a7;have ag:=ae.trans ak;Ld (.agg #[J ((cs.getD k AH.z).good),J ((cs.getD k AH.z).day),J ((cs.getD k AH.z).low),J ((cs.getD k AH.z).high)]) Z Z (AP FS (a8.le ag)) (have am:=ak.keep az Z;Pl Z (An HH fun bo _ ah ac a9 _=>have ba:r4≠bo:=DX am ah;Pl Z (AJ (v:=.agg #[J ((cs.getD k AH.z).good),J ((cs.getD k AH.z).day),J ((cs.getD k AH.z).low),J ((cs.getD k AH.z).high)]) (c':=#[J ((cs.getD k AH.z).good),J ((cs.getD k AH.z).day),J ((cs.getD k AH.z).low),J ((cs.getD k AH.z).high)]) FS Z Z a9 Z Z (by simp) Z fun _ an ai=>Nl (Bk (Sq (Rg (have ao:=(ai _ ba).trans (ac.keep am Z);Ld (.agg #[J d,J m,gsv,msv,csv]) Z au (AP B1 (Bx ao Z)) (Fa HZ Z Z (Ld (J ((cs.getD k AH.z).good)) Z Z (Rd.one AL an Z) (have ad:=(ag.trans ac).upd (Ln ag ah) ai;Pl Z (Ab func77 IP Z Z ((Gk d m gs gsv ms msv cs csv ((cs.getD k AH.z).good) (hgs.le ad) (hms.le ad) (hcs.le ad) ).mono fun _ bp bb=>?_)))))))))))));obtain ⟨rfl,ab⟩:=bb;refine Pl Z (BY (p:=0≤((cs.getD k AH.z).good)∧((cs.getD k AH.z).good)≤(gs.length:Int)-1) Z (As (.bool (decide (¬(0≤((cs.getD k AH.z).good)∧((cs.getD k AH.z).good)≤(gs.length:Int)-1)))) Z Z (Nl (Ag (p:=¬(0≤((cs.getD k AH.z).good)∧((cs.getD k AH.z).good)≤(gs.length:Int)-1)) Z (fun ap=>?_) (fun ap=>?_)))))
   ·exact Sq (Rg (As (J 6) Z Z (Nl (Rt (⟨.inr Z,Aj Z (v:=J 6) Z (⟨(by (symm;congr 1;rw [CN,if_neg ‹_›];exact Bd (k:=k) hs (by omega) (by unfold Ei;(simp only [*,not_true_eq_false,not_false_eq_true,if_true,if_false,true_or,or_true,reduceCtorEq,Bool.false_eq_true];done)) (by decide))),(ad.trans ab)⟩)⟩)))))
   ·have hc52_:=Dn ap;refine BK (fun σ' ds' h'=>ds'=[]∧GH.Le bp h'∧σ' 1=Pt r4∧σ' 12=csv∧σ' 13=J (cs.length:Int)∧σ' 14=J k∧σ' 24=.bool (decide ((¬(0≤((cs.getD k AH.z).day)∧((cs.getD k AH.z).day)≤d))∨(¬((0≤((cs.getD k AH.z).low)∧((cs.getD k AH.z).low)≤((cs.getD k AH.z).high))∧((cs.getD k AH.z).high)≤999))))) ?_ ?_
    ·refine Rg (Fa Ha Z Z (have aq:=ab.keep an Z;Ld (J ((cs.getD k AH.z).day)) Z Z (Rd.one AL aq Z) (Fa BA Z au (Fa CW Z Z (Ld (J d) Z Z (Rd.one AL (ab.keep ao Z) Z) (Pl Z (A8 func79 CB Z Z Z ((Bi ((cs.getD k AH.z).day) 0 d ).mono fun _ _ bc=>?_))))))));obtain ⟨rfl,rfl⟩:=bc;refine Pl Z (BY (p:=0≤((cs.getD k AH.z).day)∧((cs.getD k AH.z).day)≤d) Z (Mv (.bool (decide (¬(0≤((cs.getD k AH.z).day)∧((cs.getD k AH.z).day)≤d)))) Z Z (BM (p:=¬(0≤((cs.getD k AH.z).day)∧((cs.getD k AH.z).day)≤d)) ?_ ?_)))
     ·intro aa;exact Gs 7 32 (AG Z aa) Z (Gs 7 32 (AG Z aa) Z (Gs 7 32 (AG Z aa) Z (Gs 7 32 (AG Z aa) Z (Pk true (.bool true) Z (AG Z aa) Z (As (.bool true) Z Z (Nl (⟨Z,Lr,au,a2,a3,av,Et (b:=(.bool true:Value)) Z (congrArg Value.bool (by grind:true=(decide ((¬(0≤((cs.getD k AH.z).day)∧((cs.getD k AH.z).day)≤d))∨(¬((0≤((cs.getD k AH.z).low)∧((cs.getD k AH.z).low)≤((cs.getD k AH.z).high))∧((cs.getD k AH.z).high)≤999))))))⟩)))))))
     ·intro aa;refine Gg 7 32 (AF Z aa) Z (AD EO Z (Gg 7 32 (AF Z aa) Z (AE (v:=.agg #[J ((cs.getD k AH.z).low),J ((cs.getD k AH.z).high)]) Z (FE (o:=2) (ws:=#[J ((cs.getD k AH.z).low),J ((cs.getD k AH.z).high)]) Bf (Bx aq Z) (Nb Z) Z) (Gg 7 32 (AF Z aa) Z (A8 func129 Oj Z Z Z ((Oz ((cs.getD k AH.z).low) ((cs.getD k AH.z).high) 0 999 ).mono fun _ _ bd=>?_))))));obtain ⟨rfl,ar⟩:=bd;exact Gg 7 32 (AF Z aa) Z (BY (p:=(0≤((cs.getD k AH.z).low)∧((cs.getD k AH.z).low)≤((cs.getD k AH.z).high))∧((cs.getD k AH.z).high)≤999) Z (Pk false (.bool (decide (¬((0≤((cs.getD k AH.z).low)∧((cs.getD k AH.z).low)≤((cs.getD k AH.z).high))∧((cs.getD k AH.z).high)≤999)))) Z (AF Z aa) Z (As (.bool (decide (¬((0≤((cs.getD k AH.z).low)∧((cs.getD k AH.z).low)≤((cs.getD k AH.z).high))∧((cs.getD k AH.z).high)≤999)))) Z Z (Nl (⟨Z,ar,au,a2,a3,av,Et (b:=(.bool (decide (¬((0≤((cs.getD k AH.z).low)∧((cs.getD k AH.z).low)≤((cs.getD k AH.z).high))∧((cs.getD k AH.z).high)≤999))):Value)) Z (congrArg Value.bool (by grind:decide (¬((0≤((cs.getD k AH.z).low)∧((cs.getD k AH.z).low)≤((cs.getD k AH.z).high))∧((cs.getD k AH.z).high)≤999))=(decide ((¬(0≤((cs.getD k AH.z).day)∧((cs.getD k AH.z).day)≤d))∨(¬((0≤((cs.getD k AH.z).low)∧((cs.getD k AH.z).low)≤((cs.getD k AH.z).high))∧((cs.getD k AH.z).high)≤999))))))⟩)))))
    ·rintro _ _ _ ⟨be,af,bf,bg,bh,bi,bj⟩;subst be;refine Ag (p:=(¬(0≤((cs.getD k AH.z).day)∧((cs.getD k AH.z).day)≤d))∨(¬((0≤((cs.getD k AH.z).low)∧((cs.getD k AH.z).low)≤((cs.getD k AH.z).high))∧((cs.getD k AH.z).high)≤999))) bj (fun bk=>?_) (fun bk=>?_)
     ·exact Sq (Rg (As (J 1) Z Z (Nl (Rt (⟨.inr Z,Aj Z (v:=J 1) Z (⟨(by (symm;congr 1;rw [CN,if_neg ‹_›];exact Bd (k:=k) hs (by omega) (by unfold Ei;(clear hs;simp_all;done)) (by decide))),((ad.trans ab).trans af)⟩)⟩)))))
     ·exact Sk (Rg (Ad (k:Int) 1 Z bi Z (by omega) (Mv (J ((k:Int)+1)) Z Z (Nl (have bl:=(((ak.trans ac).upd (Ln ak ah) ai).trans ab).trans af;⟨_,by omega,k+1,Z,(by omega),(by exact Dq hs (by unfold Ei;(clear hs;simp_all;done))),Z,bl,bf,bg,bh,Z⟩)))))
  ·exact Xt (Sq (Rg (As (J 0) Z Z (Nl (Rt (⟨.inr Z,Aj Z (v:=J 0) Z (⟨(by (symm;congr 1;rw [CN,if_neg ‹_›];exact Ck (k:=k) hs (by omega))),(ae.trans ak)⟩)⟩))))))
theorem TZ {W:Wk prog} {h:GH} (s:ByteArray) (hsz:s.size≤1000):Ah W 198 #[.string s] h (fun v h'=>v=(.bool (Dx s):Value)∧h.Le h'):=by
 have hbl:=Cv s;refine AN func198 Z (Nb Z) (Sq (Rg (As (.bool false) Z Z (Nl (Sq (Sq (Rg (Mv (.string s) Z Z (Pl Z (Yl TP Z (by omega) fun a1 h2 ad a2=>Pl Z (Ae Zc a2 Z (Mv (J 0) Z Z (Nl (Bk (A6 (fun nn σ' ds' h'=>∃(k:Nat),nn=(bytesOf s).length-k∧(k≤(bytesOf s).length)∧(∀j,j<k→H1 s j=0)∧ds'=[]∧GH.Le h2 h'∧σ' 0=.string s∧σ' 6=a1∧σ' 7=J ((bytesOf s).length:Int)∧σ' 8=J k) ⟨0,Z,(by omega),(by (intro j hj;omega)),Z,Lr,Z,Z,Z,Z⟩ (fun nn _ _ h7 a3=>?_))))))))))))))));obtain ⟨k,rfl,hk,hs,x9,ag,ah,ai,aj,ac⟩:=a3;subst x9;have hby:=J8 s k;refine Sq (Rg (Pl Z (BC (a:=(k:Int)) (b:=((bytesOf s).length:Int)) ac aj (Nl (Sq (Ag (p:=(k:Int)<((bytesOf s).length:Int)) Z (fun ak=>?_) (fun ak=>?_)))))))
 ·refine Sk (Sq (Bk (Sq (Rg (Mv (J k) Z ac ?_)))));have al:(0:Int)≤(k:Int):=by omega
  have am:(k:Int)<(((bytesOf s).length:Nat):Int):=by omega
  refine Pl Z (A3 Xx a2 ai ac al am fun a4 ae an=>have ao:Ac _ a4 ae 1 (eB ((bytesOf s).getD k 0)):=Ac.getD 0 an;Ld (.int .u8 ((bytesOf s).getD k 0)) Z Z (Bu fx_ty5 (ao.le ag) Z) (As (J k) Z Z (As (.int .u8 ((bytesOf s).getD k 0)) Z Z (Nl (BK (fun σ' ds' h'=>ds'=[]∧h7=h'∧σ' 0=.string s∧σ' 6=a1∧σ' 7=J ((bytesOf s).length:Int)∧σ' 8=J k∧σ' 26=.bool (decide ((¬(97≤((bytesOf s).getD k 0)∧((bytesOf s).getD k 0)≤122))∧(((k:Int)=0)∨(¬(48≤((bytesOf s).getD k 0)∧((bytesOf s).getD k 0)≤57)))))) ?_ ?_)))))
  ·refine Rg (Mv (.int .u8 ((bytesOf s).getD k 0)) Z Z (Pl Z (Be (r:=(bytesOf s).getD k 0) El DO Z (by rw [IntWalk.i64_in _ (by omega)]) (Pl Z (A8 func79 CB Z Z Z ((Bi ((bytesOf s).getD k 0) 97 122 ).mono fun _ _ ap=>?_))))));obtain ⟨rfl,rfl⟩:=ap;refine Pl Z (BY (p:=97≤((bytesOf s).getD k 0)∧((bytesOf s).getD k 0)≤122) Z (Mv (.bool (decide (¬(97≤((bytesOf s).getD k 0)∧((bytesOf s).getD k 0)≤122)))) Z Z (BM (p:=¬(97≤((bytesOf s).getD k 0)∧((bytesOf s).getD k 0)≤122)) ?_ ?_)))
   ·intro aa;refine Gg 4 17 (AG Z aa) Z (AB (v:=J k) Z (Gg 4 17 (AG Z aa) Z (B5 (a:=(k:Int)) (b:=0) Z Z (Gg 4 17 (AG Z aa) Z (AB (v:=.bool (decide ((k:Int)=0))) Z (BM (p:=(k:Int)=0) ?_ ?_))))))
    ·intro ab;exact Gs 7 20 (AG Z ab) Z (Gs 7 20 (AG Z ab) Z (Gs 7 20 (AG Z ab) Z (Gs 7 20 (AG Z ab) Z (Gg 4 17 (AG Z aa) Z (Al (t:=true) (v:=.bool true) (AG Z ab) Z (Pk true (.bool true) Z (AG Z aa) Z (Nl (⟨Z,Z,ah,ai,aj,ac,Et (b:=(.bool true:Value)) Z (congrArg Value.bool (by grind:true=(decide ((¬(97≤((bytesOf s).getD k 0)∧((bytesOf s).getD k 0)≤122))∧(((k:Int)=0)∨(¬(48≤((bytesOf s).getD k 0)∧((bytesOf s).getD k 0)≤57)))))))⟩))))))))
    ·intro ab;refine Gg 7 20 (AF Z ab) Z (AB (v:=.int .u8 ((bytesOf s).getD k 0)) Z (Gg 7 20 (AF Z ab) Z (Be (r:=(bytesOf s).getD k 0) El DO Z (by rw [IntWalk.i64_in _ (by omega)]) (Gg 7 20 (AF Z ab) Z (A8 func79 CB Z Z Z ((Bi ((bytesOf s).getD k 0) 48 57 ).mono fun _ _ aq=>?_))))));obtain ⟨rfl,rfl⟩:=aq;exact Gg 7 20 (AF Z ab) Z (BY (p:=48≤((bytesOf s).getD k 0)∧((bytesOf s).getD k 0)≤57) Z (Gg 4 17 (AG Z aa) Z (Al (t:=false) (v:=.bool (decide (¬(48≤((bytesOf s).getD k 0)∧((bytesOf s).getD k 0)≤57)))) (AF Z ab) Z (Pk true (.bool (decide (¬(48≤((bytesOf s).getD k 0)∧((bytesOf s).getD k 0)≤57)))) Z (AG Z aa) Z (Nl (⟨Z,Z,ah,ai,aj,ac,Et (b:=(.bool (decide (¬(48≤((bytesOf s).getD k 0)∧((bytesOf s).getD k 0)≤57))):Value)) Z (congrArg Value.bool (by grind:decide (¬(48≤((bytesOf s).getD k 0)∧((bytesOf s).getD k 0)≤57))=(decide ((¬(97≤((bytesOf s).getD k 0)∧((bytesOf s).getD k 0)≤122))∧(((k:Int)=0)∨(¬(48≤((bytesOf s).getD k 0)∧((bytesOf s).getD k 0)≤57)))))))⟩))))))
   ·intro aa;exact Gs 4 17 (AF Z aa) Z (Gs 4 17 (AF Z aa) Z (Gs 4 17 (AF Z aa) Z (BZ (j:=7) (d:=20) Z Z Z Z Z Z (BZ (j:=7) (d:=20) Z Z Z Z Z Z (BZ (j:=7) (d:=20) Z Z Z Z Z Z (BZ (j:=7) (d:=20) Z Z Z Z Z Z (Gs 4 17 (AF Z aa) Z (Pk false (.bool false) Z (AF Z aa) Z (Nl (⟨Z,Z,ah,ai,aj,ac,Et (b:=(.bool false:Value)) Z (congrArg Value.bool (by grind:false=(decide ((¬(97≤((bytesOf s).getD k 0)∧((bytesOf s).getD k 0)≤122))∧(((k:Int)=0)∨(¬(48≤((bytesOf s).getD k 0)∧((bytesOf s).getD k 0)≤57)))))))⟩))))))))))
  ·rintro _ _ _ ⟨ar,af,au,av,aw,ax,ay⟩;subst ar;subst af;refine Ag (p:=(¬(97≤((bytesOf s).getD k 0)∧((bytesOf s).getD k 0)≤122))∧(((k:Int)=0)∨(¬(48≤((bytesOf s).getD k 0)∧((bytesOf s).getD k 0)≤57)))) ay (fun az=>?_) (fun az=>?_)
   ·exact Sq (Rg (As (.bool false) Z Z (Nl (Rt (⟨.inr Z,Aj Z (v:=.bool false) Z (⟨(by (symm;congr 1;exact Nk hs (by omega) (by unfold H1;simp only [FI,FR, *,not_true_eq_false,not_false_eq_true,if_true,if_false,or_self,or_true,true_or,and_self,and_true,true_and];simp_all;done))),(ad.trans ag)⟩)⟩)))))
   ·exact Sk (Rg (Ad (k:Int) 1 Z ax Z (by omega) (Mv (J ((k:Int)+1)) Z Z (Nl (⟨_,by omega,k+1,Z,(by omega),(by exact Dq hs (by unfold H1;simp only [FI,FR];simp_all;done)),Z,ag,au,av,aw,Z⟩)))))
 ·refine Xt (Sq (Rg (Mv (.string s) Z ah (Pl Z (LA EP Z (Pl Z (A8 func79 CB Z Z Z ((Bi (s.size:Int) 1 10 ).mono fun _ _ a0=>?_))))))));obtain ⟨rfl,rfl⟩:=a0;exact As (.bool (decide (1≤(s.size:Int)∧(s.size:Int)≤10))) Z Z (Nl (Rt (⟨.inr Z,Aj Z (v:=.bool (decide (1≤(s.size:Int)∧(s.size:Int)≤10))) Z (⟨(by (symm;congr 1;exact Nm hs (by omega))),(ad.trans ag)⟩)⟩)))
theorem Ta {W:Wk prog} {h:GH} (o:Good) (x:Good) (rx:Nat) (hrx:Ac h rx 0 5 #[.string x.name,J x.cost,J x.pack,J x.low,J x.high]):Ah W 200 #[.agg #[.string o.name,J o.cost,J o.pack,J o.low,J o.high],Pt rx] h (fun v h'=>v=(.bool ((o.name).toList==(x.name).toList):Value)∧h.Le h'):=by
 exact AN func200 Z (Nb Z) (Sq (Rg (Pl Z (Az (v:=.agg #[.string o.name,J o.cost,J o.pack,J o.low,J o.high]) (c:=#[.string o.name,J o.cost,J o.pack,J o.low,J o.high]) Z Z fun _ _ _ aa ab _=>As (.bool false) Z Z (Nl (Sq (Rg (Fa Fj Z Z (Ld (.string o.name) Z Z (Rd.one Kx ab Z) (Fa Fj Z Z (Ld (.string x.name) Z Z (B8 (o:=0) Kx (hrx.le aa) Z) (Pl Z (WA (a:=o.name) (b:=x.name) Z Z (As (.bool ((o.name).toList==(x.name).toList)) Z Z (Nl (Rt (⟨.inr Z,Aj Z (v:=.bool ((o.name).toList==(x.name).toList)) Z (⟨Z,aa⟩)⟩)))))))))))))))))
theorem Vo {W:Wk prog} {h:GH} (d:Int) (m:Int) (gs:List Good) (gsv:Value) (ms:List AC) (msv:Value) (cs:List AH) (csv:Value) (hgs:AO h gsv 5 BT gs) (hms:AO h msv 5 BN ms) (hcs:AO h csv 4 BD cs) (hnm:∀k,(gs.getD k Good.z).name.size≤1000):Ah W 195 #[.agg #[J d,J m,gsv,msv,csv]] h (fun v h'=>v=(J (Bg gs):Value)∧h.Le h'):=by
 have a2:=hgs.len;have a3:=hms.len;have a4:=hcs.len;refine AN func195 Z (Nb Z) (Sq (Rg (Pl Z (Az (v:=.agg #[J d,J m,gsv,msv,csv]) (c:=#[J d,J m,gsv,msv,csv]) Z Z fun r4 h5 _ ag a5 _=>As (J 0) Z Z (Nl (Sq (Sq (Rg (Fa BA Z Z (Fa BR Z Z (Ld gsv Z Z (Rd.one CG a5 Z) (have ap:=hgs.le ag;Pl Z (Ae Cr ap Z (Pl Z (A8 func79 CB Z Z Z ((Bi (gs.length:Int) 1 3 ).mono fun _ _ a6=>?_))))))))))))))));obtain ⟨rfl,rfl⟩:=a6;refine Pl Z (BY (p:=1≤(gs.length:Int)∧(gs.length:Int)≤3) Z (Nl (Ag (p:=¬(1≤(gs.length:Int)∧(gs.length:Int)≤3)) Z (fun aq=>?_) (fun aq=>?_))))
 ·exact Sq (Rg (As (J 2) Z Z (Nl (Rt (⟨.inr Z,Aj Z (v:=J 2) Z (⟨(by (symm;congr 1;rw [Bg,if_pos ‹_›];done)),ag⟩)⟩)))))
 ·have hc16_:=Dn aq;refine Sk (Sq (Sq (Rg (Fa BA Z Z (Fa BR Z Z (Ld gsv Z Z (Rd.one CG a5 Z) (Pl Z (Ae Cr ap Z (Mv (J 0) Z Z (Nl (Bk (A6 (fun nn σ' ds' h'=>∃(k:Nat),nn=gs.length-k∧(k≤gs.length)∧(∀j,j<k→Fc gs j=0)∧ds'=[]∧GH.Le h5 h'∧σ' 1=Pt r4∧σ' 13=gsv∧σ' 14=J (gs.length:Int)∧σ' 15=J k) ⟨0,Z,(by omega),(by (intro j hj;omega)),Z,Lr,Z,Z,Z,Z⟩ (fun nn _ _ _ a7=>?_)))))))))))));obtain ⟨k,rfl,hk,hs,bx,ar,ay,az,a0,ao⟩:=a7;subst bx;have hnk:=hnm k;refine Sq (Rg (Pl Z (BC (a:=(k:Int)) (b:=(gs.length:Int)) ao a0 (Nl (Sq (Ag (p:=(k:Int)<(gs.length:Int)) Z (fun a8=>?_) (fun a8=>?_)))))))
  ·refine Sk (Sq (Bk (Sq (Rg (Mv (J k) Z ao ?_)))));have a9:(0:Int)≤(k:Int):=by omega
   have ba:(k:Int)<((gs.length:Nat):Int):=by omega
   refine Pl Z (A3 EB hgs az ao a9 ba fun bz au bb=>have bc:Ac _ bz au 5 (BT (gs.getD k Good.z)):=Ac.getD Good.z bb;have af:=ag.trans ar;Ld (.agg (Q1c gs k)) Z Z (AP F4 (bc.le af)) (have av:=ar.keep a5 Z;Pl Z (An GQ fun a1 _ ah ad bd _=>have be:r4≠a1:=DX av ah;As (J k) Z Z (Pl Z (AJ (v:=.agg (Q1c gs k)) (c':=(Q1c gs k)) F4 Z Z bd Z Z (by simp) Z fun _ ak ai=>Nl (Bk (Sq (Rg (Fa Fj Z Z (Ld (.string (Tx gs k)) Z Z (Rd.one Kx ak Z) (Pl Z (A5 func198 Vd Z ((TZ (Tx gs k) (by omega)).mono fun _ bw bf=>?_)))))))))))));obtain ⟨rfl,ac⟩:=bf;refine Pl Z (DG (b:=Dx (Tx gs k)) Z (As (.bool (!(Dx (Tx gs k)))) Z Z (Nl (DF (t:= !(Dx (Tx gs k))) Z (fun al=>?_) (fun al=>?_)))))
   ·have hc51_:(Dx (Tx gs k))=false:=by simpa using al
    exact Sq (Rg (As (J 4) Z Z (Nl (Rt (⟨.inr Z,Aj Z (v:=J 4) Z (⟨(by (symm;congr 1;rw [Bg,if_neg ‹_›];exact Bd (k:=k) hs (by omega) (by unfold Fc;(simp only [*,not_true_eq_false,not_false_eq_true,if_true,if_false,true_or,or_true,reduceCtorEq,Bool.false_eq_true];done)) (by decide))),(((af.trans ad).upd (Ln af ah) ai).trans ac)⟩)⟩)))))
   ·have hc51_:(Dx (Tx gs k))=true:=by simpa using al
    refine Sq (Rg (Fa BA Z ay (Fa BR Z Z (Ld gsv Z Z (Rd.one CG (ac.keep ((ai _ be).trans (ad.keep av Z)) Z) Z) (Mv (J k) Z Z (have am:=((af.trans ad).upd (Ln af ah) ai).trans ac;Pl Z (Yj (0) k EB (hgs.le am) Z Z (⟨_,Z⟩) (by omega) (by omega) fun aw bg=>?_)))))));have bh:AO bw aw 5 BT (gs.take k):=by simpa using bg
    refine Pl Z (Q1 Z ?_);have bi:∀x ∈ (gs.take k),∀h1,GH.Le bw h1→Ct W (.func (.func 200) #[] #[Pt a1]) #[.agg #[.string x.name,J x.cost,J x.pack,J x.low,J x.high]] h1 fun v h2=>v=.bool ((fun x=>(x.name).toList==((gs.getD k Good.z).name).toList) x)∧h1.Le h2:=by
     intro x hx h1 l1;exact CM func200 Vf Z ((Ta x (gs.getD k Good.z) a1 (Bx (l1.keep (ac.keep ak Z) Z) Z) ).mono fun v h2 hp=>⟨hp.1,hp.2⟩)
    refine Pl Z (Ab func199 Ve Z Z ((Lm (gs.take k) aw (.func (.func 200) #[] #[Pt a1]) (fun x=>(x.name).toList==((gs.getD k Good.z).name).toList) bh bi).mono fun _ b0 bj=>?_));obtain ⟨rfl,ae⟩:=bj;refine As (.bool ((gs.take k).any (fun x=>(x.name).toList==((gs.getD k Good.z).name).toList))) Z Z (Nl (DF (t:=(gs.take k).any (fun x=>(x.name).toList==((gs.getD k Good.z).name).toList)) Z (fun bk=>?_) (fun bk=>?_)))
    ·exact Sq (Rg (As (J 5) Z Z (Nl (Rt (⟨.inr Z,Aj Z (v:=J 5) Z (⟨(by (symm;congr 1;rw [Bg,if_neg ‹_›];exact Bd (k:=k) hs (by omega) (by unfold Fc;(simp only [*,not_true_eq_false,not_false_eq_true,if_true,if_false,true_or,or_true,reduceCtorEq,Bool.false_eq_true];done)) (by decide))),(am.trans ae)⟩)⟩)))))
    ·refine BK (fun σ' ds' h'=>ds'=[]∧GH.Le b0 h'∧σ' 1=Pt r4∧σ' 13=gsv∧σ' 14=J (gs.length:Int)∧σ' 15=J k∧σ' 33=.bool (Q10 gs k)) ?_ ?_
     ·refine Rg (Fa Hb Z Z (have an:=ae.keep (ac.keep ak Z) Z;Ld (J (QT gs k)) Z Z (Rd.one AL an Z) (Pl Z (A8 func79 CB Z Z Z ((Bi (QT gs k) 0 999 ).mono fun _ _ bl=>?_)))));obtain ⟨rfl,rfl⟩:=bl;refine Pl Z (BY (p:=0≤(QT gs k)∧(QT gs k)≤999) Z (Mv (.bool (decide (¬(0≤(QT gs k)∧(QT gs k)≤999)))) Z Z (BM (p:=¬(0≤(QT gs k)∧(QT gs k)≤999)) ?_ ?_)))
      ·intro aa;exact Gs 4 38 (AG Z aa) Z (Gs 4 38 (AG Z aa) Z (Gs 4 38 (AG Z aa) Z (Gs 4 38 (AG Z aa) Z (Pk true (.bool true) Z (AG Z aa) Z (Mv (.bool true) Z Z (Gs 10 44 Z Z (Gs 10 44 Z Z (Gs 10 44 Z Z (Gs 10 44 Z Z (Pk true (.bool true) Z Z Z (As (.bool true) Z Z (Nl (⟨Z,Lr,ay,az,a0,ao,Et (b:=(.bool true:Value)) Z (congrArg Value.bool (by grind:true=(Q10 gs k)))⟩)))))))))))))
      ·intro aa;refine Gg 4 38 (AF Z aa) Z (AD Hc Z (Gg 4 38 (AF Z aa) Z (AE (v:=J (NE gs k)) Z (Rd.one AL an Z) (Gg 4 38 (AF Z aa) Z (A8 func79 CB Z Z Z ((Bi (NE gs k) 1 20 ).mono fun _ _ bm=>?_))))));obtain ⟨rfl,rfl⟩:=bm;refine Gg 4 38 (AF Z aa) Z (BY (p:=1≤(NE gs k)∧(NE gs k)≤20) Z (Pk false (.bool (decide (¬(1≤(NE gs k)∧(NE gs k)≤20)))) Z (AF Z aa) Z (Mv (.bool (decide (¬(1≤(NE gs k)∧(NE gs k)≤20)))) Z Z (BM (p:=¬(1≤(NE gs k)∧(NE gs k)≤20)) ?_ ?_))))
       ·intro ab;exact Gs 10 44 (AG Z ab) Z (Gs 10 44 (AG Z ab) Z (Gs 10 44 (AG Z ab) Z (Gs 10 44 (AG Z ab) Z (Pk true (.bool true) Z (AG Z ab) Z (As (.bool true) Z Z (Nl (⟨Z,Lr,ay,az,a0,ao,Et (b:=(.bool true:Value)) Z (congrArg Value.bool (by grind:true=(Q10 gs k)))⟩)))))))
       ·intro ab;refine Gg 10 44 (AF Z ab) Z (AD Fk Z (Gg 10 44 (AF Z ab) Z (AE (v:=.agg (Q2v gs k)) Z (FE (o:=3) (ws:=(Q2v gs k)) Bf (Bx an Z) (Nb Z) Z) (Gg 10 44 (AF Z ab) Z (A5 func201 Oq Z ((TV ((gs.getD k Good.z).low) ((gs.getD k Good.z).high) ).mono fun _ _ bn=>?_))))));obtain ⟨rfl,ax⟩:=bn;exact Gg 10 44 (AF Z ab) Z (BY (p:=FC ((gs.getD k Good.z).low) ((gs.getD k Good.z).high)) Z (Pk false (.bool (decide (¬(Q1p gs k)))) Z (AF Z ab) Z (As (.bool (decide (¬(Q1p gs k)))) Z Z (Nl (⟨Z,ax,ay,az,a0,ao,Et (b:=(.bool (decide (¬(Q1p gs k))):Value)) Z (congrArg Value.bool (by grind:decide (¬(Q1p gs k))=(Q10 gs k)))⟩)))))
     ·rintro _ _ _ ⟨bo,aj,bp,bq,br,bs,bt⟩;subst bo;refine Ag (p:=((¬(0≤(QT gs k)∧(QT gs k)≤999))∨(¬(1≤(NE gs k)∧(NE gs k)≤20)))∨(¬(Q1p gs k))) bt (fun bu=>?_) (fun bu=>?_)
      ·exact Sq (Rg (As (J 1) Z Z (Nl (Rt (⟨.inr Z,Aj Z (v:=J 1) Z (⟨(by (symm;congr 1;rw [Bg,if_neg ‹_›];exact Bd (k:=k) hs (by omega) (by unfold Fc;(simp only [*,not_true_eq_false,not_false_eq_true,if_true,if_false,true_or,or_true,reduceCtorEq,Bool.false_eq_true];done)) (by decide))),((am.trans ae).trans aj)⟩)⟩)))))
      ·exact Sk (Rg (Ad (k:Int) 1 Z bs Z (by omega) (Mv (J ((k:Int)+1)) Z Z (Nl (have bv:=((((ar.trans ad).upd (Ln ar ah) ai).trans ac).trans ae).trans aj;⟨_,by omega,k+1,Z,(by omega),(by exact Dq hs (by unfold Fc;(simp only [*,not_true_eq_false,not_false_eq_true,if_true,if_false,or_self,reduceCtorEq,Bool.false_eq_true];done))),Z,bv,bp,bq,br,Z⟩)))))
  ·exact Xt (Sq (Rg (As (J 0) Z Z (Nl (Rt (⟨.inr Z,Aj Z (v:=J 0) Z (⟨(by (symm;congr 1;rw [Bg,if_neg ‹_›];exact Ck (k:=k) hs (by omega))),(ag.trans ar)⟩)⟩))))))
end Go.Ns
namespace Go.Ns
open Go.Conc Go.Proofs Go.Proofs.Tryz
attribute [local irreducible] Br ER Tr Ah Ct CH
def Rp:Array Value:=#[.func (.func 194) #[] #[],.func (.func 195) #[] #[],.func (.func 196) #[] #[],.func (.func 197) #[] #[]]
def Rq:Array Value:=#[.string ⟨#[99,97,109,101]⟩,.func (.func 203) #[] #[],.string ⟨#[115,111,108,100]⟩,.func (.func 204) #[] #[],.string ⟨#[108,111,115,116]⟩,.func (.func 204) #[] #[],.string ⟨#[103,105,118,101,110]⟩,.func (.func 204) #[] #[],.string ⟨#[98,97,99,107]⟩,.func (.func 203) #[] #[]]
def Di (h:GH):Prop:=Ac h 0 0 4 Rp∧Ac h 1 0 10 Rq
theorem Di.le {h h':GH} (g:Di h) (l:h.Le h'):Di h':=⟨g.1.le l,g.2.le l⟩
def NG (k:Nat):Value:=Rp.getD k undef
def Vp (k:Nat):Value:=Rq.getD (k*2+1) undef
theorem Vq {k:Nat} (h:k<4):(if false=true then some (Value.agg ((#[.func (.func 194) #[] #[],.func (.func 195) #[] #[],.func (.func 196) #[] #[],.func (.func 197) #[] #[]]:Array Value).extract (k*1) (k*1+1))) else (#[.func (.func 194) #[] #[],.func (.func 195) #[] #[],.func (.func 196) #[] #[],.func (.func 197) #[] #[]]:Array Value)[k*1]?)=some (NG k):=by
 match k,h with
 | 0,_=>rfl
 | 1,_=>rfl
 | 2,_=>rfl
 | 3,_=>rfl
theorem X6 {k:Nat} (h:k<5):Rq[0+k*2+1]? =some (Vp k):=by
 match k,h with
 | 0,_=>rfl
 | 1,_=>rfl
 | 2,_=>rfl
 | 3,_=>rfl
 | 4,_=>rfl
theorem Rr {W:Wk prog} {h:GH} (d m:Int) (gs:List Good) (gsv:Value) (ms:List AC) (msv:Value) (cs:List AH) (csv:Value) (hgs:AO h gsv 5 BT gs) (hms:AO h msv 5 BN ms) (hcs:AO h csv 4 BD cs) (hnm:∀k,(gs.getD k Good.z).name.size≤1000) {k:Nat} (hk:k<4) :
  Ct W (NG k) #[.agg #[J d,J m,gsv,msv,csv]] h fun v h'=>v=J (D3 d m gs ms cs k)∧h.Le h':=by
 match k,hk with
 | 0,_=>exact CM (first:=#[]) (cap:=#[]) func194 VZ rfl (X5 (W:=W) (h:=h) d m gs gsv ms msv cs csv hgs hms hcs)
 | 1,_=>exact CM (first:=#[]) (cap:=#[]) func195 Va rfl (Vo (W:=W) (h:=h) d m gs gsv ms msv cs csv hgs hms hcs hnm)
 | 2,_=>exact CM (first:=#[]) (cap:=#[]) func196 Vb rfl (Vn (W:=W) (h:=h) d m gs gsv ms msv cs csv hgs hms hcs)
 | 3,_=>exact CM (first:=#[]) (cap:=#[]) func197 Vc rfl (TY (W:=W) (h:=h) d m gs gsv ms msv cs csv hgs hms hcs)
theorem Qm {W:Wk prog} {h:GH} (n:Int):Ah W 203 #[J n] h (fun v h'=>v=(J n:Value)∧h=h'):=by
 exact AN func203 Z (Nb Z) (Sq (Rg (As (J 0) Z Z (Nl (Sq (Rg (Mv (J n) Z Z (As (J n) Z Z (Nl (Rt (⟨.inr Z,Aj Z (v:=J n) Z (⟨Z,Z⟩)⟩)))))))))))
theorem MN {W:Wk prog} {h:GH} (n:Int) (hn:0≤n∧n≤99):Ah W 204 #[J n] h (fun v h'=>v=(J (-n):Value)∧h=h'):=by
 exact AN func204 Z (Nb Z) (Sq (Rg (As (J 0) Z Z (Nl (Sq (Rg (Mv (J n) Z Z (Pl Z (ok_neg (a:=n) Z (by omega) (As (J (-n)) Z Z (Nl (Rt (⟨.inr Z,Aj Z (v:=J (-n)) Z (⟨Z,Z⟩)⟩)))))))))))))
theorem ED {W:Wk prog} {h:GH} (d:Int) (m:Int) (gs:List Good) (gsv:Value) (ms:List AC) (msv:Value) (cs:List AH) (csv:Value) (hgs:AO h gsv 5 BT gs) (hms:AO h msv 5 BN ms) (hcs:AO h csv 4 BD cs) (hG:Di h) (hnm:∀k,(gs.getD k Good.z).name.size≤1000):Ah W 25 #[.agg #[J d,J m,gsv,msv,csv]] h (fun v h'=>v=(J (Av d m gs ms cs):Value)∧h.Le h'):=by
 have ae:=hgs.len;have af:=hms.len;have ag:=hcs.len;refine AN func25 Z (Nb Z) (Sq (Rg (Pl Z (Az (v:=.agg #[J d,J m,gsv,msv,csv]) (c:=#[J d,J m,gsv,msv,csv]) Z Z fun r4 h5 _ ac aq _=>As (J 0) Z Z (Nl (Sq (Sq (Rg (Ld (.agg Q31) Z Z (AP Zf (hG.le ac).1) (Mv (J 0) Z Z (Nl (Bk (A6 (fun nn σ' ds' h'=>∃(k:Nat),nn=4-k∧(k≤4)∧(∀j,j<k→D3 d m gs ms cs j=0)∧ds'=[]∧GH.Le h5 h'∧σ' 1=Pt r4∧σ' 6=.agg Q31∧σ' 7=J k) ⟨0,Z,(by omega),(by (intro j hj;omega)),Z,Lr,Z,Z,Z⟩ (fun nn _ _ _ ah=>?_))))))))))))));obtain ⟨k,rfl,hk,hs,ar,ad,ao,ap,ai⟩:=ah;subst ar;refine Sq (Rg (Pl Z (BC (a:=(k:Int)) (b:=4) ai Z (Nl (Sq (Ag (p:=(k:Int)<4) Z (fun aj=>?_) (fun aj=>?_)))))))
 ·refine Sk (Sq (Bk (Sq (Rg ?_))));have ak:(0:Int)≤(k:Int):=by omega
  have al:(k:Int)<((4:Nat):Int):=by omega
  refine Pl Z (Pw XX ap ai ak al (Vq (by omega)) (As (NG k) Z Z (Nl (Sq (Rg (Mv (NG k) Z Z (Ld (Ob d m gsv msv csv) Z ao (AP Ay (Bx (ad.keep aq Z) Z)) (Pl Z (BO (cells:=#[J d,J m,gsv,msv,csv]) Dg Bw (by kernel_rfl) (have aa:=ac.trans ad;Pl Z (Hn Z Z ((Rr d m gs gsv ms msv cs csv (hgs.le aa) (hms.le aa) (hcs.le aa) hnm (k:=k) (by omega)).mono fun _ _ am=>?_))))))))))));obtain ⟨rfl,ab⟩:=am;refine As (J (D3 d m gs ms cs k)) Z Z (Nl (Sq (Rg (Mv (J (D3 d m gs ms cs k)) Z Z (Pl Z (BJ (a:=D3 d m gs ms cs k) (b:=0) Z Z (Nl (Ag (p:=¬(D3 d m gs ms cs k)=0) Z (fun an=>?_) (fun an=>?_)))))))))
  ·exact Sq (Rg (Mv (J (D3 d m gs ms cs k)) Z Z (As (J (D3 d m gs ms cs k)) Z Z (Nl (Rt (⟨.inr Z,Aj Z (v:=J (D3 d m gs ms cs k)) Z (⟨(by (symm;congr 1;exact Bd (k:=k) hs (by omega) Z ‹_›)),(aa.trans ab)⟩)⟩))))))
  ·exact Sk (Rg (Ad (k:Int) 1 Z ai Z (by omega) (Mv (J ((k:Int)+1)) Z Z (Nl (⟨_,by omega,k+1,Z,(by omega),(by exact Dq hs (Dn ‹_›)),Z,(ad.trans ab),ao,ap,Z⟩)))))
 ·exact Xt (Sq (Rg (As (J 0) Z Z (Nl (Rt (⟨.inr Z,Aj Z (v:=J 0) Z (⟨(by (symm;congr 1;exact Ck (k:=k) hs (by omega))),(ac.trans ad)⟩)⟩))))))
end Go.Ns
namespace Go.Ns
open Go.Conc Go.Proofs Go.Proofs.Tryz
attribute [local irreducible] Br ER Tr Ah Ct CH
theorem Tb {W:Wk prog} {h:GH} (n:Int) (hn:0≤n∧n≤99) {k:Nat} (hk:k<5):Ct W (Vp k) #[J n] h fun v h'=>v=J (signed k n)∧h.Le h':=by
 match k,hk with
 | 0,_=>exact CM (first:=#[]) (cap:=#[]) func203 Or rfl ((Qm (W:=W) (h:=h) n).mono fun v h' hp=>⟨hp.1,by rw [←hp.2];exact GH.Le.refl _⟩)
 | 1,_=>exact CM (first:=#[]) (cap:=#[]) func204 Kw rfl ((MN (W:=W) (h:=h) n hn).mono fun v h' hp=>⟨hp.1,by rw [←hp.2];exact GH.Le.refl _⟩)
 | 2,_=>exact CM (first:=#[]) (cap:=#[]) func204 Kw rfl ((MN (W:=W) (h:=h) n hn).mono fun v h' hp=>⟨hp.1,by rw [←hp.2];exact GH.Le.refl _⟩)
 | 3,_=>exact CM (first:=#[]) (cap:=#[]) func204 Kw rfl ((MN (W:=W) (h:=h) n hn).mono fun v h' hp=>⟨hp.1,by rw [←hp.2];exact GH.Le.refl _⟩)
 | 4,_=>exact CM (first:=#[]) (cap:=#[]) func203 Or rfl ((Qm (W:=W) (h:=h) n).mono fun v h' hp=>⟨hp.1,by rw [←hp.2];exact GH.Le.refl _⟩)
theorem Iz {W:Wk prog} {h:GH} (d:Int) (m:Int) (gs:List Good) (gsv:Value) (ms:List AC) (msv:Value) (cs:List AH) (csv:Value) (p:AW) (g:Int) (dy:Int) (hgs:AO h gsv 5 BT gs) (hms:AO h msv 5 BN ms) (hcs:AO h csv 4 BD cs) (hG:Di h) (hg0:0≤g) (hg1:g<3) (hp:Bp p) (hml:ms.length≤6) (hkind:∀k,0≤(ms.getD k AC.z).kind∧(ms.getD k AC.z).kind≤4):Ah W 95 #[.agg #[J d,J m,gsv,msv,csv],.agg (Ap p),J g,J dy] h (fun v h'=>v=(.tuple #[J ((AM ms p g dy).1),J ((AM ms p g dy).2)]:Value)∧h.Le h'):=by
 have hpf:=hp.1 g.toNat;have ez:=hgs.len;have e0:=hms.len;have e1:=hcs.len;refine AN func95 Z (Nb Z) (Sq (Rg (Pl Z (Az (v:=.agg #[J d,J m,gsv,msv,csv]) (c:=#[J d,J m,gsv,msv,csv]) Z Z fun r4 _ _ e2 hu _=>Pl Z (Az (v:=.agg (Ap p)) (c:=Ap p) Z Z fun hl hv _ a2 bs _=>As (J 0) Z Z (As (J 0) Z Z (Nl (Sq (Rg (Mv (J g) Z Z (Fa E0 Z Z ?_)))))))))));have e3:(0:Int)≤g:=by omega
 have e4:g<((3:Nat):Int):=by omega
 refine Pl Z (CV IL Z Z e3 e4 (Ld (J (p.first (g.toNat))) Z Z (Rd.one AL bs (LH (i:=g.toNat) (by omega))) (As (J (p.first (g.toNat))) Z Z (Nl (Sq (Rg (Mv (J (p.first (g.toNat))) Z Z (As (J (p.first (g.toNat))) Z Z (Nl (Sq (Sq (Rg (Fa BA Z Z (Fa BF Z Z (have bt:=a2.keep hu Z;Ld msv Z Z (Rd.one Bj bt Z) (have a7:=e2.trans a2;Pl Z (Ae C7 (hms.le a7) Z (Mv (J 0) Z Z (Nl (Bk (A6 (fun nn σ' ds' h'=>∃(k:Nat) (n:Int) (low:Int),nn=ms.length-k∧(k≤ms.length)∧(-99*((k:Int)+1)≤n∧n≤99*((k:Int)+1))∧(Ce ms p g dy (ms.length-k) k n low=Ce ms p g dy ms.length 0 (p.first g.toNat) (p.first g.toNat))∧ds'=[]∧GH.Le hv h'∧σ' 2=J g∧σ' 3=J dy∧σ' 4=Pt r4∧σ' 5=Pt hl∧σ' 19=msv∧σ' 20=J (ms.length:Int)∧σ' 8=J n∧σ' 9=J low∧σ' 21=J k) ⟨0,p.first g.toNat,p.first g.toNat,Z,(by omega),(by omega),(by rfl),Z,Lr,Z,Z,Z,Z,Z,Z,Z,Z,Z⟩ (fun nn _ _ _ e5=>?_))))))))))))))))))))));obtain ⟨k,n,low,rfl,hk,hn,hrun,hw,an,a8,a9,ay,ba,bb,bc,a3,a4,az⟩:=e5;subst hw;have hkd:=hkind k;have hre:=G2 hp k;have hsg:=LJ (k:=(ms.getD k AC.z).kind.toNat) hre;refine Sq (Rg (Pl Z (BC (a:=(k:Int)) (b:=(ms.length:Int)) az bc (Nl (Sq (Ag (p:=(k:Int)<(ms.length:Int)) Z (fun e6=>?_) (fun e6=>?_)))))))
 ·refine Sk (Sq (Bk (Sq (Rg (Mv (J k) Z az ?_)))));have e7:(0:Int)≤(k:Int):=by omega
  have e8:(k:Int)<((ms.length:Nat):Int):=by omega
  refine Pl Z (A3 Ch hms bb az e7 e8 fun hx bu e9=>have fa:Ac _ hx bu 5 (BN (ms.getD k AC.z)):=Ac.getD AC.z e9;have al:=a7.trans an;Ld (.agg #[J ((ms.getD k AC.z).kind),J ((ms.getD k AC.z).good),J ((ms.getD k AC.z).day),J ((ms.getD k AC.z).low),J ((ms.getD k AC.z).high)]) Z Z (AP Ek (fa.le al)) (have au:=an.keep bt Z;have bv:=an.keep bs Z;Pl Z (An EC fun ey _ ai ac fb _=>have a0:r4≠ey:=DX au ai;have fc:hl≠ey:=DX bv ai;As (J k) Z Z (Pl Z (AJ (v:=.agg #[J ((ms.getD k AC.z).kind),J ((ms.getD k AC.z).good),J ((ms.getD k AC.z).day),J ((ms.getD k AC.z).low),J ((ms.getD k AC.z).high)]) (c':=#[J ((ms.getD k AC.z).kind),J ((ms.getD k AC.z).good),J ((ms.getD k AC.z).day),J ((ms.getD k AC.z).low),J ((ms.getD k AC.z).high)]) Ek Z Z fb Z Z (by simp) Z fun _ av ae=>Nl (Sq (Sq (Rg (Fa Co Z Z (Ld (J ((ms.getD k AC.z).day)) Z Z (Rd.one AL av Z) (Mv (J dy) Z a9 (Pl Z (Dl (a:=(ms.getD k AC.z).day) (b:=dy) Z Z (Nl (Ag (p:=dy<((ms.getD k AC.z).day)) Z (fun fd=>?_) (fun fd=>?_))))))))))))))))
  ·exact Xt (Sq (Rg (Mv (J n) Z a3 (Mv (J low) Z a4 (As (J n) Z Z (As (J low) Z Z (Nl (Rt (have fe:=(al.trans ac).upd (Ln al ai) ae;⟨.inr Z,DS Z (v:=J n) (v':=J low) Z Z (⟨(by (rw [AM,←hrun,PL (ms:=ms) (k:=k) (dy:=dy) (by omega) ‹_›])),fe⟩)⟩)))))))))
  ·refine Sk (Sq (Sq (Rg (Fa Fi Z Z (Ld (J ((ms.getD k AC.z).good)) Z Z (Rd.one AL av Z) (Mv (J g) Z a8 (Pl Z (B5 (a:=(ms.getD k AC.z).good) (b:=g) Z Z (Nl (Ag (p:=((ms.getD k AC.z).good)=g) Z (fun ff=>?_) (fun ff=>?_)))))))))))
   ·refine BS 10 false [0,5,11,15,20,26,31,36,42,47] Am (by kernel_rfl) (tP Z Z (fun _=>AB (v:=J n) a3 vz) (tP Z Z (fun _=>AD Df Z vz) (tR Z Z (AE (v:=J ((ms.getD k AC.z).kind)) Z (Rd.one F3 av Z) vz) ?_)));have fg:(0:Int)≤(ms.getD k AC.z).kind:=by omega
    have fh:(ms.getD k AC.z).kind<((5:Nat):Int):=by omega
    refine tP Z Z (fun _=>CV XY Z Z fg fh vz) (tP Z Z (fun _=>AD TN Z vz) (have bd:=(al.trans ac).upd (Ln al ai) ae;tR Z Z (AE (v:=Vp (((ms.getD k AC.z).kind).toNat)) Z (rd_at0 Ze (hG.le bd).2 (X6 (by omega))) vz) (tR Z Z (AE (v:=.agg (Ap p)) ba (AP Bc (Bx ((ae _ fc).trans (ac.keep bv Z)) Z)) vz) (tR Z Z (AB (v:=J k) Z vz) (tE Z Z (Ab func83 MH Z Z ((MM p (k:Int) (by omega) (by omega)).mono fun _ _ fi=>?_)))))));obtain ⟨rfl,af⟩:=fi;refine eT af (tE Z Z (Hn Z Z ((Tb (Bz p k) (by omega) (k:=(((ms.getD k AC.z).kind).toNat)) (by omega)).mono fun _ _ fj=>?_)));obtain ⟨rfl,ag⟩:=fj;refine eT ag (tN (Ad n (signed (((ms.getD k AC.z).kind).toNat) (Bz p k)) Z Z Z (by omega) (As (J (n+(signed (((ms.getD k AC.z).kind).toNat) (Bz p k)))) Z Z (Nl (Sq (NX 18 [[],[0],[],[2],[2,3],[2,3,4],[0,1,2,3,4,5],[0,1,2,3,4,5,6],[0,1,2,3,4,5,6,7],[0,1,2,3,4,5,6,7,8],[0,1,2,3,4,5,6,7,8,9],[0,1,2,3,4,5,6,7],[0,1,2,3,4,5,6,7,11],[0,1,2,3,4,5,6,7,8,9,10,11,12],[0,1,2,3,4,5,6,7,8,9,10,11,12,13],[0,1,2,3,4,5,6,7,8,9,10,11,12,13,14],[0,1,2,3,4,5,6,7],[0,1,2,3,4,5,6,7,16]] [(lF (J k)),(lF (J ((k:Int)+1))),(lF (Pt r4)),(lF (.pointer (some ⟨r4,3,none⟩))),(lF msv),(lF (J (ms.length:Int))),(lF (.bool (decide (((k:Int)+1)=(ms.length:Int))))),(lF (.bool (decide (((k:Int)+1)=(ms.length:Int))))),(lF (Pt r4)),(lF (.pointer (some ⟨r4,3,none⟩))),(lF msv),(lF (J k)),(lF (J ((k:Int)+1))),(fun v h=>∃(a1:Nat) (ah:Nat),v=(.pointer (some ⟨a1,ah,none⟩):Value)∧Ac h a1 ah 5 #[J ((ms.getD (k+1) AC.z).kind),J ((ms.getD (k+1) AC.z).good),J ((ms.getD (k+1) AC.z).day),J ((ms.getD (k+1) AC.z).low),J ((ms.getD (k+1) AC.z).high)]),(fun v h=>∃(a1:Nat) (ah:Nat),v=(.pointer (some ⟨a1,ah+2,none⟩):Value)∧Ac h a1 ah 5 #[J ((ms.getD (k+1) AC.z).kind),J ((ms.getD (k+1) AC.z).good),J ((ms.getD (k+1) AC.z).day),J ((ms.getD (k+1) AC.z).low),J ((ms.getD (k+1) AC.z).high)]),(lF (J ((ms.getD (k+1) AC.z).day))),(lF (.pointer (some ⟨ey,2,none⟩))),(lF (J ((ms.getD k AC.z).day)))] Am (by kernel_rfl) (K8 (K4 (K1 ⟨(fun _ _ _ l ⟨a1,ah,e,f0⟩=>⟨a1,ah,e,f0.le l⟩),(fun _ _ _ l ⟨a1,ah,e,f0⟩=>⟨a1,ah,e,f0.le l⟩),K2 (K1 trivial)⟩))) ⟨?_,?_,?_,?_,?_,?_,?_,?_,?_,?_,?_,?_,?_,?_,?_,?_,?_,?_,?_⟩))))))
    ·intro _ _ _ fk _ _;exact (AB (v:=J k) (Et (fk 10 Z) Z) (fL Z))
    ·intro _ _ _ _ fl _;obtain ⟨hy,_⟩:=fl;exact (Bt (a:=(k:Int)) (b:=1) (hy trivial) Z (by omega) (fL Z))
    ·intro _ _ _ fm _ _;exact (AD BA (Et (fm 4 Z) ay) (fL Z))
    ·intro _ _ _ _ bw _;obtain ⟨fn,_⟩:=bw;exact (AD BF (fn trivial) (fL Z))
    ·intro _ _ be _ bx _;obtain ⟨_,fo,_⟩:=bx;have bz:=(be.keep (ag.keep (af.keep ((ae _ a0).trans (ac.keep au Z)) Z) Z) Z);exact (AE (v:=msv) (fo trivial) (Rd.one Bj bz Z) (fL Z))
    ·intro _ _ bf _ b0 _;obtain ⟨_,_,fp,_⟩:=b0;exact (Ae C7 (hms.le (((bd.trans af).trans ag).trans bf)) (fp trivial) (fL Z))
    ·intro _ _ _ _ b1 _;obtain ⟨_,fq,_,_,_,fr,_⟩:=b1;exact (B5 (a:=(k:Int)+1) (b:=(ms.length:Int)) (fq trivial) (fr trivial) (fL Z))
    ·intro _ _ _ _ b2 _;obtain ⟨_,_,_,_,_,_,fs,_⟩:=b2;exact (AB (v:=.bool (decide (((k:Int)+1)=(ms.length:Int)))) (fs trivial) (fL Z))
    ·intro _ _ _ b3 b4 b5;obtain ⟨_,_,_,_,_,_,_,ft,_⟩:=b4;have hm:=DJ (ft trivial) b5;exact (AD BA (Et (b3 4 Z) ay) (fL Z))
    ·intro _ _ _ _ b6 b7;obtain ⟨_,_,_,_,_,_,_,fu,fv,_⟩:=b6;have b8:=fu trivial;have b9:=DJ b8 b7;exact (AD BF (fv (AF b8 b9)) (fL Z))
    ·intro _ _ bg _ ca cb;obtain ⟨_,_,_,_,_,_,_,fw,_,fx,_⟩:=ca;have cc:=fw trivial;have cd:=DJ cc cb;have ce:=(bg.keep (ag.keep (af.keep ((ae _ a0).trans (ac.keep au Z)) Z) Z) Z);exact (AE (v:=msv) (fx (AF cc cd)) (Rd.one Bj ce Z) (fL Z))
    ·intro _ _ _ cf cg ch;obtain ⟨_,_,_,_,_,_,_,fy,_⟩:=cg;have ho:=DJ (fy trivial) ch;exact (AB (v:=J k) (Et (cf 10 Z) Z) (fL Z))
    ·intro _ _ _ _ ci cj;obtain ⟨_,_,_,_,_,_,_,fz,f1,_⟩:=ci;have ck:=fz trivial;have cl:=DJ ck cj;exact (Bt (a:=(k:Int)) (b:=1) (f1 (AF ck cl)) Z (by omega) (fL Z))
    ·intro _ _ bh _ cm cn;obtain ⟨_,_,_,_,_,_,_,f2,_,_,f3,_,f4,_⟩:=cm;have bi:=f2 trivial;have a5:=DJ bi cn;have co:(0:Int)≤(k:Int)+1:=by omega
     have cp:(k:Int)+1<((ms.length:Nat):Int):=by omega
     exact (A3 Ch hms (f3 (AF bi a5)) (f4 (AF bi a5)) co cp fun cq aw cr=>have ct:Ac _ cq aw 5 (BN (ms.getD (k+1) AC.z)):=Ac.getD AC.z cr;fL ⟨cq,aw,Z,(ct.le (((bd.trans af).trans ag).trans bh))⟩)
    ·intro _ _ _ _ cu cv;obtain ⟨_,_,_,_,_,_,_,f5,_,_,_,_,_,f6,_⟩:=cu;have cw:=f5 trivial;have cx:=DJ cw cv;obtain ⟨f7,bj,f8,f9⟩:=f6 (AF cw cx);exact (AD Co f8 (fL ⟨f7,bj,Z,f9⟩))
    ·intro _ _ _ _ cy cz;obtain ⟨_,_,_,_,_,_,_,ga,_,_,_,_,_,_,gb,_⟩:=cy;have c0:=ga trivial;have c1:=DJ c0 cz;obtain ⟨_,_,gc,gd⟩:=gb (AF c0 c1);exact (AE (v:=J ((ms.getD (k+1) AC.z).day)) gc (B8 (o:=2) AL gd Z) (fL Z))
    ·intro _ _ _ c2 c3 c4;obtain ⟨_,_,_,_,_,_,_,ge,_⟩:=c3;have hq:=DJ (ge trivial) c4;exact (AD Co (Et (c2 11 Z) Z) (fL Z))
    ·intro _ _ bk _ c5 c6;obtain ⟨_,_,_,_,_,_,_,gf,gg,_⟩:=c5;have c7:=gf trivial;have c8:=DJ c7 c6;exact (AE (v:=J ((ms.getD k AC.z).day)) (gg (AF c7 c8)) (Rd.one AL (bk.keep (ag.keep (af.keep av Z) Z) Z) Z) (fL Z))
    ·intro _ _ ao aa c9;obtain ⟨_,_,_,_,_,_,_,gi,_,_,_,_,_,_,_,gj,_,gk,_⟩:=c9;have aq:=gi trivial;refine BM (p:=((k:Int)+1)=(ms.length:Int)) ?_ ?_
     ·intro aj;exact Gs 7 52 (AG aq aj) Z (Pk true (.bool true) Z (AG aq aj) Z (Nl (EG Z (Rg (Mv (J low) Z (Et (aa 9 Z) a4) (Mv (J (n+(signed (((ms.getD k AC.z).kind).toNat) (Bz p k)))) Z (Et (aa 8 Z) Z) (Pl Z (KQ (a:=low) (b:=n+(signed (((ms.getD k AC.z).kind).toNat) (Bz p k))) Z Z (As (J (min low (n+(signed (((ms.getD k AC.z).kind).toNat) (Bz p k))))) Z Z (Nl (Rg (Ad (k:Int) 1 Z (Et (aa 21 Z) az) Z (by omega) (Mv (J ((k:Int)+1)) Z Z (Nl (have da:=((((an.trans ac).upd (Ln an ai) ae).trans af).trans ag).trans ao;⟨_,by omega,k+1,n+(signed (((ms.getD k AC.z).kind).toNat) (Bz p k)),min low (n+(signed (((ms.getD k AC.z).kind).toNat) (Bz p k))),Z,(by omega),(by omega),(by rw [←hrun,EY (ms:=ms) (k:=k) (dy:=dy) (by omega) ‹_›];unfold Fo Ej;repeat (first | rw [if_pos ‹_›] | rw [if_pos (.inl ‹_›)])),Z,da,(Et (aa 2 Z) a8),(Et (aa 3 Z) a9),(Et (aa 4 Z) ay),(Et (aa 5 Z) ba),(Et (aa 19 Z) bb),(Et (aa 20 Z) bc),(Et (aa 8 Z) Z),Z,Z⟩)))))))))))))))
     ·intro aj;refine Gg 7 52 (AF aq aj) Z (Dl (a:=(ms.getD (k+1) AC.z).day) (b:=(ms.getD k AC.z).day) (gj (AF aq aj)) (gk (AF aq aj)) (Pk false (.bool (decide (((ms.getD k AC.z).day)<((ms.getD (k+1) AC.z).day)))) Z (AF aq aj) Z (Nl (Ag (p:=((ms.getD k AC.z).day)<((ms.getD (k+1) AC.z).day)) Z (fun db=>?_) (fun db=>?_)))))
      ·exact Rg (Mv (J low) Z (Et (aa 9 Z) a4) (Mv (J (n+(signed (((ms.getD k AC.z).kind).toNat) (Bz p k)))) Z (Et (aa 8 Z) Z) (Pl Z (KQ (a:=low) (b:=n+(signed (((ms.getD k AC.z).kind).toNat) (Bz p k))) Z Z (As (J (min low (n+(signed (((ms.getD k AC.z).kind).toNat) (Bz p k))))) Z Z (Nl (Rg (Ad (k:Int) 1 Z (Et (aa 21 Z) az) Z (by omega) (Mv (J ((k:Int)+1)) Z Z (Nl (have dc:=((((an.trans ac).upd (Ln an ai) ae).trans af).trans ag).trans ao;⟨_,by omega,k+1,n+(signed (((ms.getD k AC.z).kind).toNat) (Bz p k)),min low (n+(signed (((ms.getD k AC.z).kind).toNat) (Bz p k))),Z,(by omega),(by omega),(by rw [←hrun,EY (ms:=ms) (k:=k) (dy:=dy) (by omega) ‹_›];unfold Fo Ej;repeat (first | rw [if_pos ‹_›] | rw [if_pos (.inr ‹_›)])),Z,dc,(Et (aa 2 Z) a8),(Et (aa 3 Z) a9),(Et (aa 4 Z) ay),(Et (aa 5 Z) ba),(Et (aa 19 Z) bb),(Et (aa 20 Z) bc),(Et (aa 8 Z) Z),Z,Z⟩)))))))))))
      ·exact Sk (Rg (Ad (k:Int) 1 Z (Et (aa 21 Z) az) Z (by omega) (Mv (J ((k:Int)+1)) Z Z (Nl (have dd:=((((an.trans ac).upd (Ln an ai) ae).trans af).trans ag).trans ao;⟨_,by omega,k+1,n+(signed (((ms.getD k AC.z).kind).toNat) (Bz p k)),low,rfl,(by omega),(by omega),(by rw [←hrun,EY (ms:=ms) (k:=k) (dy:=dy) (by omega) ‹_›];unfold Fo Ej;repeat (first | rw [if_pos ‹_›] | rw [if_neg (by rintro (q | q) <;> contradiction)])),rfl,dd,(Et (aa 2 rfl) a8),(Et (aa 3 rfl) a9),(Et (aa 4 rfl) ay),(Et (aa 5 rfl) ba),(Et (aa 19 rfl) bb),(Et (aa 20 rfl) bc),(Et (aa 8 rfl) rfl),(Et (aa 9 rfl) a4),(Et (b:=(J ((k:Int)+1):Value)) rfl (by rfl))⟩)))))
   ·refine Sk (Sq (NX 18 [[],[0],[],[2],[2,3],[2,3,4],[0,1,2,3,4,5],[0,1,2,3,4,5,6],[0,1,2,3,4,5,6,7],[0,1,2,3,4,5,6,7,8],[0,1,2,3,4,5,6,7,8,9],[0,1,2,3,4,5,6,7],[0,1,2,3,4,5,6,7,11],[0,1,2,3,4,5,6,7,8,9,10,11,12],[0,1,2,3,4,5,6,7,8,9,10,11,12,13],[0,1,2,3,4,5,6,7,8,9,10,11,12,13,14],[0,1,2,3,4,5,6,7],[0,1,2,3,4,5,6,7,16]] [(lF (J k)),(lF (J ((k:Int)+1))),(lF (Pt r4)),(lF (.pointer (some ⟨r4,3,none⟩))),(lF msv),(lF (J (ms.length:Int))),(lF (.bool (decide (((k:Int)+1)=(ms.length:Int))))),(lF (.bool (decide (((k:Int)+1)=(ms.length:Int))))),(lF (Pt r4)),(lF (.pointer (some ⟨r4,3,none⟩))),(lF msv),(lF (J k)),(lF (J ((k:Int)+1))),(fun v h=>∃(am:Nat) (ad:Nat),v=(.pointer (some ⟨am,ad,none⟩):Value)∧Ac h am ad 5 #[J ((ms.getD (k+1) AC.z).kind),J ((ms.getD (k+1) AC.z).good),J ((ms.getD (k+1) AC.z).day),J ((ms.getD (k+1) AC.z).low),J ((ms.getD (k+1) AC.z).high)]),(fun v h=>∃(am:Nat) (ad:Nat),v=(.pointer (some ⟨am,ad+2,none⟩):Value)∧Ac h am ad 5 #[J ((ms.getD (k+1) AC.z).kind),J ((ms.getD (k+1) AC.z).good),J ((ms.getD (k+1) AC.z).day),J ((ms.getD (k+1) AC.z).low),J ((ms.getD (k+1) AC.z).high)]),(lF (J ((ms.getD (k+1) AC.z).day))),(lF (.pointer (some ⟨ey,2,none⟩))),(lF (J ((ms.getD k AC.z).day)))] Am (by kernel_rfl) (K8 (K4 (K1 ⟨(fun _ _ _ l ⟨am,ad,e,f0⟩=>⟨am,ad,e,f0.le l⟩),(fun _ _ _ l ⟨am,ad,e,f0⟩=>⟨am,ad,e,f0.le l⟩),K2 (K1 trivial)⟩))) ⟨?_,?_,?_,?_,?_,?_,?_,?_,?_,?_,?_,?_,?_,?_,?_,?_,?_,?_,?_⟩))
    ·intro _ _ _ de _ _;exact (AB (v:=J k) (Et (de 10 Z) Z) (fL Z))
    ·intro _ _ _ _ df _;obtain ⟨gl,_⟩:=df;exact (Bt (a:=(k:Int)) (b:=1) (gl trivial) Z (by omega) (fL Z))
    ·intro _ _ _ dg _ _;exact (AD BA (Et (dg 4 Z) ay) (fL Z))
    ·intro _ _ _ _ dh _;obtain ⟨gm,_⟩:=dh;exact (AD BF (gm trivial) (fL Z))
    ·intro _ _ bl _ di _;obtain ⟨_,gn,_⟩:=di;exact (AE (v:=msv) (gn trivial) (Rd.one Bj (bl.keep ((ae _ a0).trans (ac.keep au Z)) Z) Z) (fL Z))
    ·intro _ _ bm _ dj _;obtain ⟨_,_,gp,_⟩:=dj;have dk:=hms.le (((al.trans ac).upd (Ln al ai) ae).trans bm);exact (Ae C7 dk (gp trivial) (fL Z))
    ·intro _ _ _ _ dl _;obtain ⟨_,gq,_,_,_,gr,_⟩:=dl;exact (B5 (a:=(k:Int)+1) (b:=(ms.length:Int)) (gq trivial) (gr trivial) (fL Z))
    ·intro _ _ _ _ dm _;obtain ⟨_,_,_,_,_,_,gt,_⟩:=dm;exact (AB (v:=.bool (decide (((k:Int)+1)=(ms.length:Int)))) (gt trivial) (fL Z))
    ·intro _ _ _ dn dp dq;obtain ⟨_,_,_,_,_,_,_,gu,_⟩:=dp;have hr:=DJ (gu trivial) dq;exact (AD BA (Et (dn 4 Z) ay) (fL Z))
    ·intro _ _ _ _ dr ds;obtain ⟨_,_,_,_,_,_,_,gv,gw,_⟩:=dr;have dt:=gv trivial;have du:=DJ dt ds;exact (AD BF (gw (AF dt du)) (fL Z))
    ·intro _ _ bn _ dv dw;obtain ⟨_,_,_,_,_,_,_,gx,_,gy,_⟩:=dv;have dx:=gx trivial;have dz:=DJ dx dw;exact (AE (v:=msv) (gy (AF dx dz)) (Rd.one Bj (bn.keep ((ae _ a0).trans (ac.keep au Z)) Z) Z) (fL Z))
    ·intro _ _ _ d0 d1 d2;obtain ⟨_,_,_,_,_,_,_,gz,_⟩:=d1;have hs:=DJ (gz trivial) d2;exact (AB (v:=J k) (Et (d0 10 Z) Z) (fL Z))
    ·intro _ _ _ _ d3 d4;obtain ⟨_,_,_,_,_,_,_,g0,g1,_⟩:=d3;have d5:=g0 trivial;have d6:=DJ d5 d4;exact (Bt (a:=(k:Int)) (b:=1) (g1 (AF d5 d6)) Z (by omega) (fL Z))
    ·intro _ _ bo _ d7 d8;obtain ⟨_,_,_,_,_,_,_,g2,_,_,g3,_,g4,_⟩:=d7;have bp:=g2 trivial;have a6:=DJ bp d8;have d9:(0:Int)≤(k:Int)+1:=by omega
     have ea:(k:Int)+1<((ms.length:Nat):Int):=by omega
     exact (A3 Ch hms (g3 (AF bp a6)) (g4 (AF bp a6)) d9 ea fun eb ax ec=>have ed:Ac _ eb ax 5 (BN (ms.getD (k+1) AC.z)):=Ac.getD AC.z ec;have ee:=ed.le (((al.trans ac).upd (Ln al ai) ae).trans bo);fL ⟨eb,ax,Z,ee⟩)
    ·intro _ _ _ _ ef eg;obtain ⟨_,_,_,_,_,_,_,g5,_,_,_,_,_,g6,_⟩:=ef;have eh:=g5 trivial;have ei:=DJ eh eg;obtain ⟨g7,bq,g8,g9⟩:=g6 (AF eh ei);exact (AD Co g8 (fL ⟨g7,bq,Z,g9⟩))
    ·intro _ _ _ _ ej ek;obtain ⟨_,_,_,_,_,_,_,ha,_,_,_,_,_,_,hb,_⟩:=ej;have el:=ha trivial;have em:=DJ el ek;obtain ⟨_,_,hc,hd⟩:=hb (AF el em);exact (AE (v:=J ((ms.getD (k+1) AC.z).day)) hc (B8 (o:=2) AL hd Z) (fL Z))
    ·intro _ _ _ en eo ep;obtain ⟨_,_,_,_,_,_,_,he,_⟩:=eo;have ht:=DJ (he trivial) ep;exact (AD Co (Et (en 11 Z) Z) (fL Z))
    ·intro _ _ br _ eq er;obtain ⟨_,_,_,_,_,_,_,hf,hg,_⟩:=eq;have es:=hf trivial;have et:=DJ es er;exact (AE (v:=J ((ms.getD k AC.z).day)) (hg (AF es et)) (Rd.one AL (br.keep av Z) Z) (fL Z))
    ·intro _ _ ap ab eu;obtain ⟨_,_,_,_,_,_,_,hh,_,_,_,_,_,_,_,hi,_,hj,_⟩:=eu;have ar:=hh trivial;refine BM (p:=((k:Int)+1)=(ms.length:Int)) ?_ ?_
     ·intro ak;exact Gs 7 52 (AG ar ak) Z (Pk true (.bool true) Z (AG ar ak) Z (Nl (EG Z (Rg (Mv (J low) Z (Et (ab 9 Z) a4) (Mv (J n) Z (Et (ab 8 Z) a3) (Pl Z (KQ (a:=low) (b:=n) Z Z (As (J (min low n)) Z Z (Nl (Rg (Ad (k:Int) 1 Z (Et (ab 21 Z) az) Z (by omega) (Mv (J ((k:Int)+1)) Z Z (Nl (have ev:=((an.trans ac).upd (Ln an ai) ae).trans ap;⟨_,by omega,k+1,n,min low n,Z,(by omega),(by omega),(by rw [←hrun,EY (ms:=ms) (k:=k) (dy:=dy) (by omega) ‹_›];unfold Fo Ej;repeat (first | rw [if_neg ‹_›] | rw [if_pos (.inl ‹_›)])),Z,ev,(Et (ab 2 Z) a8),(Et (ab 3 Z) a9),(Et (ab 4 Z) ay),(Et (ab 5 Z) ba),(Et (ab 19 Z) bb),(Et (ab 20 Z) bc),(Et (ab 8 Z) a3),Z,Z⟩)))))))))))))))
     ·intro ak;refine Gg 7 52 (AF ar ak) Z (Dl (a:=(ms.getD (k+1) AC.z).day) (b:=(ms.getD k AC.z).day) (hi (AF ar ak)) (hj (AF ar ak)) (Pk false (.bool (decide (((ms.getD k AC.z).day)<((ms.getD (k+1) AC.z).day)))) Z (AF ar ak) Z (Nl (Ag (p:=((ms.getD k AC.z).day)<((ms.getD (k+1) AC.z).day)) Z (fun ew=>?_) (fun ew=>?_)))))
      ·exact Rg (Mv (J low) Z (Et (ab 9 Z) a4) (Mv (J n) Z (Et (ab 8 Z) a3) (Pl Z (KQ (a:=low) (b:=n) Z Z (As (J (min low n)) Z Z (Nl (Rg (Ad (k:Int) 1 Z (Et (ab 21 Z) az) Z (by omega) (Mv (J ((k:Int)+1)) Z Z (Nl (have ex:=((an.trans ac).upd (Ln an ai) ae).trans ap;⟨_,by omega,k+1,n,min low n,Z,(by omega),(by omega),(by rw [←hrun,EY (ms:=ms) (k:=k) (dy:=dy) (by omega) ‹_›];unfold Fo Ej;repeat (first | rw [if_neg ‹_›] | rw [if_pos (.inr ‹_›)])),Z,ex,(Et (ab 2 Z) a8),(Et (ab 3 Z) a9),(Et (ab 4 Z) ay),(Et (ab 5 Z) ba),(Et (ab 19 Z) bb),(Et (ab 20 Z) bc),(Et (ab 8 Z) a3),Z,Z⟩)))))))))))
      ·exact Sk (Rg (Ad (k:Int) 1 Z (Et (ab 21 Z) az) Z (by omega) (Mv (J ((k:Int)+1)) Z Z (Nl (⟨_,by omega,k+1,n,low,rfl,(by omega),(by omega),(by rw [←hrun,EY (ms:=ms) (k:=k) (dy:=dy) (by omega) ‹_›];unfold Fo Ej;repeat (first | rw [if_neg ‹_›] | rw [if_neg (by rintro (q | q) <;> contradiction)])),rfl,(((an.trans ac).upd (Ln an ai) ae).trans ap),(Et (ab 2 rfl) a8),(Et (ab 3 rfl) a9),(Et (ab 4 rfl) ay),(Et (ab 5 rfl) ba),(Et (ab 19 rfl) bb),(Et (ab 20 rfl) bc),(Et (ab 8 rfl) a3),(Et (ab 9 rfl) a4),(Et (b:=(J ((k:Int)+1):Value)) rfl (by rfl))⟩)))))
 ·exact Xt (Sq (Rg (Mv (J n) Z a3 (Mv (J low) Z a4 (As (J n) Z Z (As (J low) Z Z (Nl (Rt (⟨.inr Z,DS Z (v:=J n) (v':=J low) Z Z (⟨(by (rw [AM,←hrun,Q9 (ms:=ms) (k:=k) ‹_›];done)),(a7.trans an)⟩)⟩)))))))))
end Go.Ns
namespace Go.Ns
open Go.Conc Go.Proofs Go.Proofs.Tryz
attribute [local irreducible] Br ER Tr Ah Ct CH
theorem Rs {W:Wk prog} {h:GH} (c:AH) (d:Int) (m:Int) (gs:List Good) (gsv:Value) (ms:List AC) (msv:Value) (cs:List AH) (csv:Value) (r:Nat) (p:AW) (rp:Nat) (hgs:AO h gsv 5 BT gs) (hms:AO h msv 5 BN ms) (hcs:AO h csv 4 BD cs) (hr:Ac h r 0 5 #[J d,J m,gsv,msv,csv]) (hrp:Ac h rp 0 15 (Ap p)) (hG:Di h) (hc0:0≤c.good) (hc1:c.good<3) (hp:Bp p) (hml:ms.length≤6) (hkind:∀k,0≤(ms.getD k AC.z).kind∧(ms.getD k AC.z).kind≤4):Ah W 145 #[.agg #[J c.good,J c.day,J c.low,J c.high],Pt r,Pt rp] h (fun v h'=>v=(.bool (decide (¬(c.low≤(AM ms p c.good c.day).1∧(AM ms p c.good c.day).1≤c.high))):Value)∧h.Le h'):=by
 have ad:=hgs.len;have ae:=hms.len;have af:=hcs.len;refine AN func145 Z (Nb Z) (Sq (Rg (Pl Z (Az (v:=.agg (Q36 c)) (c:=(Q36 c)) Z Z fun _ _ _ aa ag _=>As (.bool false) Z Z (Nl (Sq (Rg (Ld (Ob d m gsv msv csv) Z Z (AP B1 (hr.le aa)) (Ld (.agg (Ap p)) Z Z (AP Bc (hrp.le aa)) (Fa HZ Z Z (Ld (J c.good) Z Z (Rd.one AL ag Z) (Fa Ha Z Z (Ld (J c.day) Z Z (Rd.one AL ag Z) (Pl Z (Bv func95 Ju Z Z Z Z ((Iz d m gs gsv ms msv cs csv p c.good c.day (hgs.le aa) (hms.le aa) (hcs.le aa) (hG.le aa) (by omega) (by omega) (by omega) (by omega) (by omega)).mono fun _ _ ah=>?_))))))))))))))));obtain ⟨rfl,ab⟩:=ah;refine Mv (.tuple #[J (XV ms p c),J ((AM ms p c.good c.day).2)]) Z Z (Pl Z (AQ (vs:=#[J (XV ms p c),J ((AM ms p c.good c.day).2)]) (v:=J (XV ms p c)) Z Z (Pl Z (AQ (vs:=#[J (XV ms p c),J ((AM ms p c.good c.day).2)]) (v:=J ((AM ms p c.good c.day).2)) Z Z (As (J (XV ms p c)) Z Z (As (J ((AM ms p c.good c.day).2)) Z Z (Nl (Sq (Rg (Mv (J (XV ms p c)) Z Z (Fa EO Z Z (Fa CX Z Z (have ac:=ab.keep ag Z;Ld (J c.low) Z Z (Rd.one AL ac Z) (Fa EO Z Z (Fa Cf Z Z (Ld (J c.high) Z Z (Rd.one AL ac Z) (Pl Z (A8 func79 CB Z Z Z ((Bi (XV ms p c) c.low c.high ).mono fun _ _ ai=>?_)))))))))))))))))));obtain ⟨rfl,rfl⟩:=ai;exact Pl Z (BY (p:=c.low≤(XV ms p c)∧(XV ms p c)≤c.high) Z (As (.bool (decide (¬(c.low≤(XV ms p c)∧(XV ms p c)≤c.high)))) Z Z (Nl (Rt (⟨.inr Z,Aj Z (v:=.bool (decide (¬(c.low≤(XV ms p c)∧(XV ms p c)≤c.high)))) Z (⟨(by rfl),(aa.trans ab)⟩)⟩)))))
theorem Mt {W:Wk prog} {h:GH} (d:Int) (m:Int) (gs:List Good) (gsv:Value) (ms:List AC) (msv:Value) (cs:List AH) (csv:Value) (p:AW) (hgs:AO h gsv 5 BT gs) (hms:AO h msv 5 BN ms) (hcs:AO h csv 4 BD cs) (hG:Di h) (hp:Bp p) (hml:ms.length≤6) (hkind:∀k,0≤(ms.getD k AC.z).kind∧(ms.getD k AC.z).kind≤4) (hgl:gs.length≤3) (hcg:∀x ∈ cs,0≤x.good∧x.good<3):Ah W 102 #[.agg #[J d,J m,gsv,msv,csv],.agg (Ap p)] h (fun v h'=>v=(.bool (A7 d gs.length ms cs p):Value)∧h.Le h'):=by
 have ao:=hgs.len;have ap:=hms.len;have aq:=hcs.len;refine AN func102 Z (Nb Z) (Sq (Rg (Pl Z (Az (v:=.agg #[J d,J m,gsv,msv,csv]) (c:=#[J d,J m,gsv,msv,csv]) Z Z fun r4 _ _ ar a3 _=>Pl Z (Az (v:=.agg (Ap p)) (c:=Ap p) Z Z fun an a4 _ ac ai _=>As (.bool false) Z Z (Nl (Sq (Sq (Rg (Fa BA Z Z (Fa BR Z Z (have ae:=ac.keep a3 Z;Ld gsv Z Z (Rd.one CG ae Z) (have af:=ar.trans ac;Pl Z (Ae Cr (hgs.le af) Z (Mv (J 0) Z Z (Nl (Bk (A6 (fun nn σ' ds' h'=>∃(k:Nat),nn=gs.length-k∧(k≤gs.length)∧(∀j,j<k→¬(AM ms p (j:Int) d).2<0)∧ds'=[]∧GH.Le a4 h'∧σ' 2=Pt r4∧σ' 3=Pt an∧σ' 11=J (gs.length:Int)∧σ' 12=J k) ⟨0,Z,(by omega),(by (intro j hj;omega)),Z,Lr,Z,Z,Z,Z⟩ (fun nn _ _ a5 au=>?_)))))))))))))))))));obtain ⟨k,rfl,hk,hs,a6,ag,aj,av,a2,aw⟩:=au;subst a6;refine Sq (Rg (Pl Z (BC (a:=(k:Int)) (b:=(gs.length:Int)) aw a2 (Nl (Sq (Ag (p:=(k:Int)<(gs.length:Int)) Z (fun ax=>?_) (fun ax=>?_)))))))
 ·refine Sk (Sq (Bk (Sq (Rg (Mv (J k) Z aw (As (J k) Z Z (Nl (Sq (Rg (have ak:=ag.keep ae Z;Ld (Ob d m gsv msv csv) Z aj (AP B1 (Bx ak Z)) (Ld (.agg (Ap p)) Z av (AP Bc (Bx (ag.keep ai Z) Z)) (Mv (J k) Z Z (Fa BA Z aj (Fa CW Z Z (Ld (J d) Z Z (Rd.one AL ak Z) (have aa:=af.trans ag;Pl Z (Bv func95 Ju Z Z Z Z ((Iz d m gs gsv ms msv cs csv p (k:Int) d (hgs.le aa) (hms.le aa) (hcs.le aa) (hG.le aa) (by omega) (by omega) (by omega) (by omega) (by omega)).mono fun _ _ ay=>?_))))))))))))))))));obtain ⟨rfl,ad⟩:=ay;refine Mv (.tuple (Q3n ms p k d)) Z Z (Pl Z (AQ (vs:=(Q3n ms p k d)) (v:=J ((AM ms p (k:Int) d).1)) Z Z (Pl Z (AQ (vs:=(Q3n ms p k d)) (v:=J ((AM ms p (k:Int) d).2)) Z Z (As (J ((AM ms p (k:Int) d).1)) Z Z (As (J ((AM ms p (k:Int) d).2)) Z Z (Nl (Sq (Rg (Mv (J ((AM ms p (k:Int) d).2)) Z Z (Pl Z (BC (a:=(AM ms p (k:Int) d).2) (b:=0) Z Z (Nl (Ag (p:=((AM ms p (k:Int) d).2)<0) Z (fun az=>?_) (fun az=>?_)))))))))))))))
  ·exact Sq (Rg (As (.bool false) Z Z (Nl (Rt (⟨.inr Z,Aj Z (v:=.bool false) Z (⟨(by (symm;congr 1;exact UA (k:=k) (by omega) ‹_›)),(aa.trans ad)⟩)⟩)))))
  ·exact Sk (Rg (Ad (k:Int) 1 Z aw Z (by omega) (Mv (J ((k:Int)+1)) Z Z (Nl (⟨_,by omega,k+1,Z,(by omega),(by exact Jm hs ‹_›),Z,(ag.trans ad),aj,av,a2,Z⟩)))))
 ·refine Xt (Sq (Rg (Fa BA Z aj (Fa CF Z Z (have al:=ag.keep ae Z;Ld csv Z Z (Rd.one DQ al Z) (Pl Z (Gy aj av ?_)))))));have ah:=af.trans ag;have a0:∀x ∈ cs,∀h1,GH.Le a5 h1→Ct W (.func (.func 145) #[] #[Pt r4,Pt an]) #[.agg #[J x.good,J x.day,J x.low,J x.high]] h1 fun v h2=>v=.bool ((fun x=>decide (¬(x.low≤(AM ms p x.good x.day).1∧(AM ms p x.good x.day).1≤x.high))) x)∧h1.Le h2:=by
   intro x hx h1 l1;have hcx:=hcg x hx;have ab:=ah.trans l1;exact CM func145 VH Z ((Rs x d m gs gsv ms msv cs csv r4 p an (hgs.le ab) (hms.le ab) (hcs.le ab) (Bx (l1.keep al Z) Z) (Bx (l1.keep (ag.keep ai Z) Z) Z) (hG.le ab) (by omega) (by omega) (by omega) (by omega) (by omega)).mono fun v h2 hp=>⟨hp.1,hp.2⟩)
  refine Pl Z (Ab func144 VG Z Z ((Ky cs csv (.func (.func 145) #[] #[Pt r4,Pt an]) (fun x=>decide (¬(x.low≤(AM ms p x.good x.day).1∧(AM ms p x.good x.day).1≤x.high))) (hcs.le ah) a0).mono fun _ _ a1=>?_));obtain ⟨rfl,am⟩:=a1;exact Pl Z (DG (b:=cs.any (fun x=>decide (¬(x.low≤(AM ms p x.good x.day).1∧(AM ms p x.good x.day).1≤x.high)))) Z (As (.bool (!(cs.any (fun x=>decide (¬(x.low≤(AM ms p x.good x.day).1∧(AM ms p x.good x.day).1≤x.high)))))) Z Z (Nl (Rt (⟨.inr Z,Aj Z (v:=.bool (!(cs.any (fun x=>decide (¬(x.low≤(AM ms p x.good x.day).1∧(AM ms p x.good x.day).1≤x.high)))))) Z (⟨(by (symm;congr 1;exact SM (k:=k) (by omega) hs)),(ah.trans am)⟩)⟩)))))
end Go.Ns
namespace Go.Ns
open Go.Conc Go.Proofs Go.Proofs.Tryz
attribute [local irreducible] Br ER Tr Ah Ct CH
theorem Mu {W:Wk prog} {h:GH} (d:Int) (m:Int) (gs:List Good) (gsv:Value) (ms:List AC) (msv:Value) (cs:List AH) (csv:Value) (f:List Int) (fv:Value) (y:List Int) (yv:Value) (l:List Int) (lv:Value) (hgs:AO h gsv 5 BT gs) (hms:AO h msv 5 BN ms) (hcs:AO h csv 4 BD cs) (hf:AO h fv 1 eI f) (hy:AO h yv 1 eI y) (hl:AO h lv 1 eI l) (hG:Di h) (hnm:∀k,(gs.getD k Good.z).name.size≤1000):Ah W 94 #[.agg #[J d,J m,gsv,msv,csv],fv,yv,lv] h (fun v h'=>v=(.tuple #[.agg (Ap (Ax d m gs ms cs f y l)),J (Ak d m gs ms cs f y l)]:Value)∧h.Le h'):=by
 have br:=hgs.len;have bs:=hms.len;have bt:=hcs.len;have bu:=hf.len;have bv:=hy.len;have bw:=hl.len;refine AN func94 Z (Nb Z) (Sq (Rg (Pl Z (Az (v:=.agg #[J d,J m,gsv,msv,csv]) (c:=#[J d,J m,gsv,msv,csv]) Z Z fun r7 _ _ aa bx _=>Pl Z (An DB fun ck cm ah ag bz _=>have al:cm ck=some (true,.cells Q2x 119 (0,0)):=bz;As (J 0) Z Z (Nl (Sq (Sq (Rg (have aw:=ag.keep bx Z;Ld (Ob d m gsv msv csv) Z Z (AP Ay (Bx aw Z)) (have ai:=aa.trans ag;Pl Z (A5 func25 HG Z ((ED d m gs gsv ms msv cs csv (hgs.le ai) (hms.le ai) (hcs.le ai) (hG.le ai) (by omega)).mono fun _ _ b0=>?_)))))))))))));obtain ⟨rfl,ab⟩:=b0;refine As (J (Kk d m gs ms cs)) Z Z (Nl (Sq (Rg (Mv (J (Kk d m gs ms cs)) Z Z (Pl Z (BJ (a:=Av d m gs ms cs) (b:=0) Z Z (Nl (Ag (p:=¬(Kk d m gs ms cs)=0) Z (fun ax=>?_) (fun ax=>?_)))))))))
 ·exact Sq (Rg (Pl Z (BO (cells:=YQ) IS DB (by kernel_rfl) (Mv (J (Kk d m gs ms cs)) Z Z (Pl Z (AJ (v:=.agg YQ) (c':=Ap AW.zero) Bc Z Z (ab.keep al Z) Z Z (Nb Z) Z fun _ b1 b2=>As (J (Kk d m gs ms cs)) Z Z (Nl (Rt (⟨.inr Z,Ed Z (v:=.agg Q2x) (v':=J (Kk d m gs ms cs)) Z (AP Bc (Bx b1 Z)) Z (⟨(by exact HP (RC ‹_›) ‹_›),((ai.trans ab).upd (Ln aa ah) b2)⟩)⟩)))))))))
 ·have hbk:=Ik (Dn ax);have hgl:=hbk.glen;have hml:=hbk.mlen;have hcl:=hbk.clen;have hdy:=hbk.days;have hmo:=hbk.most;have hkind:=hbk.kind;refine Sk (Sq (Sq (Rg (Mv fv Z Z (Fa BR Z Z (have ay:=ab.keep aw Z;Ld gsv Z Z (Rd.one CG ay Z) (have am:=ai.trans ab;Pl Z (Ae Cr (hgs.le am) Z (Pl Z (Ab func140 Ok Z Z ((Lo f fv (gs.length:Int) (hf.le am) ).mono fun _ _ b3=>?_)))))))))));obtain ⟨rfl,ae⟩:=b3;refine As (J (Q3h f gs)) Z Z (Nl (Sq (Rg (Mv (J (Q3h f gs)) Z Z (Pl Z (BJ (a:=BG f (gs.length:Int)) (b:=0) Z Z (Nl (Ag (p:=¬(Q3h f gs)=0) Z (fun az=>?_) (fun az=>?_)))))))))
  ·exact Sq (Rg (Pl Z (BO (cells:=YQ) IS DB (by kernel_rfl) (Mv (J (Q3h f gs)) Z Z (Pl Z (AJ (v:=.agg YQ) (c':=Ap AW.zero) Bc Z Z (ae.keep (ab.keep al Z) Z) Z Z (Nb Z) Z fun _ b4 b5=>As (J (Q3h f gs)) Z Z (Nl (Rt (⟨.inr Z,Ed Z (v:=.agg Q2x) (v':=J (Q3h f gs)) Z (AP Bc (Bx b4 Z)) Z (⟨(by exact HP (RD ‹_› ‹_›) ‹_›),((am.trans ae).upd (Ln aa ah) b5)⟩)⟩)))))))))
  ·obtain ⟨_,hnb51_⟩:=DU (Dn az);refine Sk (Sq (Sq (Rg (Mv yv Z Z (Fa BF Z Z (have a0:=ae.keep ay Z;Ld msv Z Z (Rd.one Bj a0 Z) (have aj:=am.trans ae;Pl Z (Ae C7 (hms.le aj) Z (Pl Z (Ab func140 Ok Z Z ((Lo y yv (ms.length:Int) (hy.le aj) ).mono fun _ cn b6=>?_)))))))))));obtain ⟨rfl,ac⟩:=b6;refine As (J (Q3i y ms)) Z Z (Nl (Sq (Rg (Mv (J (Q3i y ms)) Z Z (Pl Z (BJ (a:=BG y (ms.length:Int)) (b:=0) Z Z (Nl (Ag (p:=¬(Q3i y ms)=0) Z (fun a1=>?_) (fun a1=>?_)))))))))
   ·exact Sq (Rg (Pl Z (BO (cells:=YQ) IS DB (by kernel_rfl) (Mv (J (Q3i y ms)) Z Z (Pl Z (AJ (v:=.agg YQ) (c':=Ap AW.zero) Bc Z Z (ac.keep (ae.keep (ab.keep al Z) Z) Z) Z Z (Nb Z) Z fun _ b7 b8=>As (J (Q3i y ms)) Z Z (Nl (Rt (⟨.inr Z,Ed Z (v:=.agg Q2x) (v':=J (Q3i y ms)) Z (AP Bc (Bx b7 Z)) Z (⟨(by exact HP (RE ‹_› ‹_› ‹_›) ‹_›),((aj.trans ac).upd (Ln aa ah) b8)⟩)⟩)))))))))
   ·obtain ⟨_,hnb66_⟩:=DU (Dn a1);refine Sk (Sq (Rg (have ap:=(ac.keep (ae.keep (ab.keep al Z) Z) Z);Pl Z (An DB fun b9 co ak an ca _=>have cb:co b9=some (true,.cells Q2x 119 (0,0)):=ca;Nl (Sq (Rg (Fa E0 Z Z (Pl Z (MY IL Z (Mv fv Z Z (have a2:=(aj.trans ac).trans an;Pl Z (SE (enc:=eI) (ys:=f) (c':=Ap (AW.zero.setFirsts f)) AX Z Z cb (Nb Z) (hf.le a2) (by omega) (by intro y hy;rfl) (by intro y hy;rfl) (M0 (by omega)) fun _ cc a3=>Nl (Sq (Rg (Fa E1 Z Z (Pl Z (MY IM Z (Mv yv Z Z (have a4:=a2.upd (Ln ((((aa.trans ag).trans ab).trans ae).trans ac) ak) a3;Pl Z (SE (enc:=eI) (ys:=y) (c':=Ap (ZX f y)) AX Z Z cc (Nb Z) (hy.le a4) (by omega) (by intro y hy;rfl) (by intro y hy;rfl) (Nn (by omega)) fun _ cd a5=>Nl (Sq (Rg (As (J (-1)) Z Z (Nl (Sq (Sq (Rg (Mv lv Z Z (have ce:=a4.upd (Ln ((((aa.trans ag).trans ab).trans ae).trans ac) ak) a5;Pl Z (Ae B0 (hl.le ce) Z (Mv (J 0) Z Z (Nl (Bk (have cf:=(an.upd (Ln Lr ak) a3).upd (Ln Lr ak) a5;A6 (fun nn σ' ds' h'=>∃(k:Nat),nn=l.length-k∧(k≤l.length)∧(∀j,j<k→I7 ms l j=0)∧ds'=[]∧GH.Le cn h'∧σ' 4=Pt r7∧σ' 8=Pt ck∧σ' 13=Pt b9∧σ' 49=lv∧σ' 50=J (l.length:Int)∧σ' 14=J (G3 l k)∧σ' 51=J k∧h' b9=some (true,.cells (Ap (Dp (ZX f y) l k)) 119 (0,0))) ⟨0,Z,(by omega),(by (intro j hj;omega)),Z,cf,Z,Z,Z,Z,Z,Z,Z,(by have e:(Ap (Dp (ZX f y) l 0):Array Value)=Ap (ZX f y):=(by rfl);rw [e];exact cd)⟩ (fun nn _ _ _ cg=>?_)))))))))))))))))))))))))))))))))));obtain ⟨k,rfl,hk,hs,cp,aq,cl,ar,ch,a6,a7,ci,au,a8⟩:=cg;subst cp;refine Sq (Rg (Pl Z (BC (a:=(k:Int)) (b:=(l.length:Int)) au a7 (Nl (Sq (Ag (p:=(k:Int)<(l.length:Int)) Z (fun a9=>?_) (fun a9=>?_)))))))
    ·refine Sk (Sq (Bk (Sq (Rg ?_))));have ba:(0:Int)≤(k:Int):=by omega
     have bb:(k:Int)<((l.length:Nat):Int):=by omega
     refine Pl Z (A3 AX hl a6 au ba bb fun cj av bc=>have bd:Ac _ cj av 1 (eI (l.getD k 0)):=Ac.getD 0 bc;have af:=(aj.trans ac).trans aq;Ld (M4 l k) Z Z (Bu AL (bd.le af) Z) (As (M4 l k) Z Z (Nl (Sq (Bk (Sq (Rg (Ld (Ob d m gsv msv csv) Z cl (AP Ay (Bx (aq.keep (ac.keep a0 Z) Z) Z)) (Pl Z (BO (cells:=#[J d,J m,gsv,msv,csv]) Dg Bw (by kernel_rfl) (Mv (M4 l k) Z Z (Pl Z (Ab func110 Ix Z Z ((Hx d m gs gsv ms msv cs csv (l.getD k 0) (hgs.le af) (hms.le af) (hcs.le af) ).mono fun _ _ be=>?_))))))))))))));obtain ⟨rfl,ad⟩:=be;refine Pl Z (BY (p:=(0≤(l.getD k 0)∧(l.getD k 0)≤(ms.length:Int)-1)∧(ms.getD ((l.getD k 0)).toNat AC.z).kind=0) Z (As (.bool (decide (¬((0≤(l.getD k 0)∧(l.getD k 0)≤(ms.length:Int)-1)∧(ms.getD ((l.getD k 0)).toNat AC.z).kind=0)))) Z Z (Nl (Ag (p:=¬((0≤(l.getD k 0)∧(l.getD k 0)≤(ms.length:Int)-1)∧(ms.getD ((l.getD k 0)).toNat AC.z).kind=0)) Z (fun ao=>?_) (fun ao=>?_)))))
     ·exact Sq (Rg (Pl Z (BO (cells:=YQ) IS DB (by kernel_rfl) (Pl Z (AJ (v:=.agg YQ) (c':=Ap AW.zero) Bc ar Z (ad.keep (aq.keep ap Z) Z) Z Z (Nb Z) Z fun _ bf bg=>As (J 6) Z Z (Nl (Rt (⟨.inr Z,Ed Z (v:=.agg Q2x) (v':=J 6) ar (AP Bc (Bx bf Z)) Z (⟨(by exact HP (G4 ‹_› ‹_› ‹_› (Bd (k:=k) hs (by omega) (lieAt_6 ‹_›) (by decide))) (by decide)),((af.trans ad).upd (Ln aa ah) bg)⟩)⟩))))))))
     ·have hc122_:=Dn ao;refine Sq (Rg (Mv (M4 l k) Z Z (Mv (J (G3 l k)) Z ci (Pl Z (Dj (a:=l.getD k 0) (b:=G3 l k) Z Z (As (.bool (decide ((l.getD k 0)≤(G3 l k)))) Z Z (Nl (Ag (p:=(l.getD k 0)≤(G3 l k)) Z (fun bh=>?_) (fun bh=>?_)))))))))
      ·exact Sq (Rg (Pl Z (BO (cells:=YQ) IS DB (by kernel_rfl) (Pl Z (AJ (v:=.agg YQ) (c':=Ap AW.zero) Bc ar Z (ad.keep (aq.keep ap Z) Z) Z Z (Nb Z) Z fun _ bi bj=>As (J 7) Z Z (Nl (Rt (⟨.inr Z,Ed Z (v:=.agg Q2x) (v':=J 7) ar (AP Bc (Bx bi Z)) Z (⟨(by exact HP (G4 ‹_› ‹_› ‹_› (Bd (k:=k) hs (by omega) (lieAt_7 ‹_› ‹_›) (by decide))) (by decide)),((af.trans ad).upd (Ln aa ah) bj)⟩)⟩))))))))
      ·refine Sk (Rg (Mv (M4 l k) Z Z (Mv (M4 l k) Z Z (Fa E2 Z ch ?_))));have bk:(0:Int)≤l.getD k 0:=by omega
       have bl:l.getD k 0<((6:Nat):Int):=by omega
       exact Pl Z (CV HF Z Z bk bl (Pl Z (AJ (v:=.bool true) (c':=Ap ((Dp (ZX f y) l k).setLie ((l.getD k 0).toNat) true)) H5 Z Z (ad.keep a8 Z) Z Z (by show _≤15;omega) (Ii (i:=(l.getD k 0).toNat) (by omega)) fun _ bm bn=>As (M4 l k) Z Z (Nl (Rg (Ad (k:Int) 1 Z au Z (by omega) (Mv (J ((k:Int)+1)) Z Z (Nl (⟨_,by omega,k+1,Z,(by omega),(by exact Dq hs (lieAt_0 ‹_› ‹_›)),Z,((aq.trans ad).upd (Ln Lr ak) bn),cl,ar,ch,a6,a7,Z,Z,(by have e:(Ap (Dp (ZX f y) l (k+1)):Array Value)=Ap ((Dp (ZX f y) l k).setLie ((l.getD k 0).toNat) true):=(by rw [SR (by omega)]);rw [e];exact bm)⟩)))))))))
    ·exact Xt (Sq (Rg (Ld (.agg (Ap (Dp (ZX f y) l k))) Z ch (AP Bc (Bx a8 Z)) (Pl Z (AJ (v:=.agg (Ap (Dp (ZX f y) l k))) (c':=Ap (Dp (ZX f y) l k)) Bc ar Z (aq.keep ap Z) (GD _) (GE _) (HC _) (HD _ _) fun _ bo bp=>As (J 0) Z Z (Nl (Rt (have bq:=((aj.trans ac).trans aq).upd (Ln aa ah) bp;⟨.inr Z,Ed Z (v:=.agg (Ap (Dp (ZX f y) l k))) (v':=J 0) ar (AP Bc (Bx bo Z)) Z (⟨(by exact SS (G4 ‹_› ‹_› ‹_› (Ck (k:=k) hs (by omega))) ‹_› hk),bq⟩)⟩))))))))
theorem Qn {W:Wk prog} {h:GH} (d:Int) (m:Int) (gs:List Good) (gsv:Value) (ms:List AC) (msv:Value) (cs:List AH) (csv:Value) (f:List Int) (fv:Value) (y:List Int) (yv:Value) (l:List Int) (lv:Value) (hgs:AO h gsv 5 BT gs) (hms:AO h msv 5 BN ms) (hcs:AO h csv 4 BD cs) (hf:AO h fv 1 eI f) (hy:AO h yv 1 eI y) (hl:AO h lv 1 eI l) (hG:Di h) (hnm:∀k,(gs.getD k Good.z).name.size≤1000):Ah W 23 #[.agg #[J d,J m,gsv,msv,csv],fv,yv,lv] h (fun v h'=>∃(w1:Value) (w2:Value),v=(.tuple #[w1,w2,J (Ak d m gs ms cs f y l)]:Value)∧AO h' w1 1 eI (CP d m gs ms cs f y l)∧AO h' w2 1 eI (DK d m gs ms cs f y l)∧h.Le h'):=by
 have ba:=hgs.len;have bb:=hms.len;have bc:=hcs.len;have bd:=hf.len;have be:=hy.len;have bf:=hl.len;refine AN func23 Z (Nb Z) (Sq (Rg (Pl Z (Az (v:=.agg #[J d,J m,gsv,msv,csv]) (c:=#[J d,J m,gsv,msv,csv]) Z Z fun r7 _ _ aa ar _=>As Pa Z Z (As Pa Z Z (As (J 0) Z Z (Nl (Sq (Rg (Ld (Ob d m gsv msv csv) Z Z (AP Ay (Bx ar Z)) (Mv fv Z Z (Mv yv Z Z (Mv lv Z Z (Pl Z (Bv func94 Qg Z Z Z Z ((Mu d m gs gsv ms msv cs csv f fv y yv l lv (hgs.le aa) (hms.le aa) (hcs.le aa) (hf.le aa) (hy.le aa) (hl.le aa) (hG.le aa) (by omega)).mono fun _ _ bg=>?_))))))))))))))));obtain ⟨rfl,ab⟩:=bg;refine Mv (.tuple #[.agg (Ap (Ax d m gs ms cs f y l)),J (Ak d m gs ms cs f y l)]) Z Z (Pl Z (AQ (vs:=#[.agg (Ap (Ax d m gs ms cs f y l)),J (Ak d m gs ms cs f y l)]) (v:=.agg (Ap (Ax d m gs ms cs f y l))) Z Z (Pl Z (AQ (vs:=#[.agg (Ap (Ax d m gs ms cs f y l)),J (Ak d m gs ms cs f y l)]) (v:=J (Ak d m gs ms cs f y l)) Z Z (have au:=ab.keep ar Z;Pl Z (An DB fun bh b4 am ad bi _=>have bj:b4 bh=some (true,.cells Q2x 119 (0,0)):=bi;have bk:r7≠bh:=DX au am;Pl Z (AJ (v:=.agg (Ap (Ax d m gs ms cs f y l))) (c':=Ap (Ax d m gs ms cs f y l)) Bc Z Z bj (GD _) (GE _) (HC _) (HD _ _) fun av bl an=>As (J (Ak d m gs ms cs f y l)) Z Z (Nl (Sq (Sq (Rg (Mv (J (Ak d m gs ms cs f y l)) Z Z (Pl Z (BJ (a:=Ak d m gs ms cs f y l) (b:=0) Z Z (Nl (Ag (p:=¬(Ak d m gs ms cs f y l)=0) Z (fun aw=>?_) (fun aw=>?_)))))))))))))))))
 ·exact Sq (Rg (Mv (J (Ak d m gs ms cs f y l)) Z Z (As Pa Z Z (As Pa Z Z (As (J (Ak d m gs ms cs f y l)) Z Z (Nl (Rt (have bm:=((aa.trans ab).trans ad).upd (Ln (aa.trans ab) am) an;⟨.inr Z,Pu Z (v:=.slice none 0 0) (v':=.slice none 0 0) (v2:=J (Ak d m gs ms cs f y l)) Z Z Z (⟨.slice none 0 0,.slice none 0 0,(by rfl),(by have e:CP d m gs ms cs f y l=[]:=(by exact RF ‹_›);rw [e];exact AO.nil _ _ _),(by have e:DK d m gs ms cs f y l=[]:=(by exact ST ‹_›);rw [e];exact AO.nil _ _ _),bm⟩)⟩))))))))
 ·obtain ⟨hbk,hpo⟩:=Lz (Dn aw);have hgl:=hbk.glen;have hml:=hbk.mlen;have hdy:=hbk.days;have hkind:=hbk.kind;refine Sk (Sq (Sq (Rg (Fa BR Z Z (have ax:=(an _ bk).trans (ad.keep au Z);Ld gsv Z Z (Rd.one CG ax Z) (have ao:=((aa.trans ab).trans ad).upd (Ln (aa.trans ab) am) an;Pl Z (Ae Cr (hgs.le ao) Z (Mv (J 0) Z Z (Nl (Bk (A6 (fun nn σ' ds' h'=>∃(k:Nat) (w8:Value) (w9:Value),nn=gs.length-k∧(k≤gs.length)∧ds'=[]∧GH.Le av h'∧σ' 4=Pt r7∧σ' 10=J 0∧σ' 11=Pt bh∧σ' 29=J (gs.length:Int)∧σ' 30=J k∧σ' 8=w8∧σ' 9=w9∧Aa av h' w8 3 1 eI ((List.range k).map (fun (i:Nat)=>(AM ms (Ax d m gs ms cs f y l) (i:Int) d).1))∧Aa av h' w9 3 1 eI ((List.range k).map (fun (i:Nat)=>(AM ms (Ax d m gs ms cs f y l) (i:Int) d).2))∧Apart w9 w8) ⟨0,.slice none 0 0,.slice none 0 0,Z,(by omega),Z,Lr,Z,Z,Z,Z,Z,Z,Z,(by have e:(List.range 0).map (fun (i:Nat)=>(AM ms (Ax d m gs ms cs f y l) (i:Int) d).1)=[]:=(by rfl);rw [e];exact Aa.nil _ _ _ _ _),(by have e:(List.range 0).map (fun (i:Nat)=>(AM ms (Ax d m gs ms cs f y l) (i:Int) d).2)=[]:=(by rfl);rw [e];exact Aa.nil _ _ _ _ _),Apart.nil⟩ (fun nn _ _ _ bn=>?_))))))))))));obtain ⟨k,w8,w9,rfl,hk,b5,ay,bo,b6,bw,bx,bp,bz,b0,b1,b2,b3⟩:=bn;subst b5;refine Sq (Rg (Pl Z (BC (a:=(k:Int)) (b:=(gs.length:Int)) bp bx (Nl (Sq (Ag (p:=(k:Int)<(gs.length:Int)) Z (fun bq=>?_) (fun bq=>?_)))))))
  ·refine Sk (Sq (Bk (Sq (Rg (Mv (J k) Z bp (As (J k) Z Z (Nl (Sq (Rg (have az:=ay.keep ax Z;Ld (Ob d m gsv msv csv) Z bo (AP Ay (Bx az Z)) (Pl Z (BO (cells:=#[J d,J m,gsv,msv,csv]) Dg Bw (by kernel_rfl) (Ld (.agg (Ap (Ax d m gs ms cs f y l))) Z bw (AP Bc (Bx (ay.keep bl Z) Z)) (Mv (J k) Z Z (Fa CW Z bo (Ld (J d) Z Z (Rd.one AL az Z) (have ah:=ao.trans ay;Pl Z (Bv func95 Ju Z Z Z Z ((Iz d m gs gsv ms msv cs csv (Ax d m gs ms cs f y l) (k:Int) d (hgs.le ah) (hms.le ah) (hcs.le ah) (hG.le ah) (by omega) (by omega) (by omega) (by omega) (by omega)).mono fun _ _ br=>?_)))))))))))))))))));obtain ⟨rfl,ae⟩:=br;exact Mv (.tuple #[J ((AM ms (Ax d m gs ms cs f y l) (k:Int) d).1),J ((AM ms (Ax d m gs ms cs f y l) (k:Int) d).2)]) Z Z (Pl Z (AQ (vs:=#[J ((AM ms (Ax d m gs ms cs f y l) (k:Int) d).1),J ((AM ms (Ax d m gs ms cs f y l) (k:Int) d).2)]) (v:=J ((AM ms (Ax d m gs ms cs f y l) (k:Int) d).1)) Z Z (Pl Z (AQ (vs:=#[J ((AM ms (Ax d m gs ms cs f y l) (k:Int) d).1),J ((AM ms (Ax d m gs ms cs f y l) (k:Int) d).2)]) (v:=J ((AM ms (Ax d m gs ms cs f y l) (k:Int) d).2)) Z Z (As (J ((AM ms (Ax d m gs ms cs f y l) (k:Int) d).1)) Z Z (As (J ((AM ms (Ax d m gs ms cs f y l) (k:Int) d).2)) Z Z (Nl (Rg (Mv w8 Z bz (Mv (J ((AM ms (Ax d m gs ms cs f y l) (k:Int) d).1)) Z Z (Pl Z (Aq (cells:=#[J ((AM ms (Ax d m gs ms cs f y l) (k:Int) d).1)]) Ci (by decide) (by decide) (by kernel_rfl) fun _ _ bs af bt _=>have bu:=Aa.built (enc:=eI) (xs:=[(AM ms (Ax d m gs ms cs f y l) (k:Int) d).1]) (n:=1) bs bt Z Z (by intro x hx;rfl) Z;have a0:=(b1.le ae).le af;have a1:=(ay.trans ae).trans af;have a2:=(b2.le ae).le af;Pl Z (Cm (h0:=av) Dw Z Z a0 (bu.sl) (fun _ q=>Ln a1 q) (by simp <;> omega) (by intro y hy;rfl) fun a9 _ bv ap=>have ai:Apart a9 w9:=Apart.grown ap a2 (Apart.symm b3);Mv w9 Z b0 (Mv (J ((AM ms (Ax d m gs ms cs f y l) (k:Int) d).2)) Z Z (Pl Z (Aq (cells:=#[J ((AM ms (Ax d m gs ms cs f y l) (k:Int) d).2)]) Ci (by decide) (by decide) (by kernel_rfl) fun _ _ a3 ac a4 _=>have a5:=Aa.built (enc:=eI) (xs:=[(AM ms (Ax d m gs ms cs f y l) (k:Int) d).2]) (n:=1) a3 a4 Z Z (by intro x hx;rfl) Z;have aj:=((Aa.grown ap a2 (Apart.symm b3)).le ac);have ak:=(GH.Le.grown ap a1 fun b e=>Ln Lr (a0.fresh b e)).trans ac;have al:=bv.le ac;Pl Z (Cm (h0:=av) Dw Z Z aj (a5.sl) (fun _ q=>Ln ak q) (by simp <;> omega) (by intro y hy;rfl) fun aq _ a6 ag=>have a7:Apart aq a9:=Apart.grown ag al (Apart.symm ai);As a9 Z Z (As aq Z Z (Nl (Rg (Ad (k:Int) 1 Z bp Z (by omega) (Mv (J ((k:Int)+1)) Z Z (Nl (have a8:=GH.Le.grown ag ak fun b e=>Ln Lr (aj.fresh b e);⟨_,by omega,k+1,a9,aq,Z,(by omega),Z,a8,bo,b6,bw,bx,Z,Z,Z,(by have e:(List.range (k+1)).map (fun (i:Nat)=>(AM ms (Ax d m gs ms cs f y l) (i:Int) d).1)=((List.range k).map (fun (i:Nat)=>(AM ms (Ax d m gs ms cs f y l) (i:Int) d).1))++[(AM ms (Ax d m gs ms cs f y l) (k:Int) d).1]:=(by exact Db _ _);rw [e];exact (Aa.grown ag al (Apart.symm ai))),(by have e:(List.range (k+1)).map (fun (i:Nat)=>(AM ms (Ax d m gs ms cs f y l) (i:Int) d).2)=((List.range k).map (fun (i:Nat)=>(AM ms (Ax d m gs ms cs f y l) (i:Int) d).2))++[(AM ms (Ax d m gs ms cs f y l) (k:Int) d).2]:=(by exact Db _ _);rw [e];exact a6),a7⟩))))))))))))))))))))))))
  ·exact Xt (Sq (Rg (Mv w8 Z bz (Mv w9 Z b0 (As w8 Z Z (As w9 Z Z (As (J 0) Z Z (Nl (Rt (⟨.inr Z,Pu Z (v:=w8) (v':=w9) (v2:=J 0) Z Z Z (⟨w8,w9,(by (rw [Dn (by assumption:¬¬Ak d m gs ms cs f y l=0)])),(by have e:CP d m gs ms cs f y l=(List.range k).map (fun (i:Nat)=>(AM ms (Ax d m gs ms cs f y l) (i:Int) d).1):=(by exact PP ‹_› hk ‹_›);rw [e];exact b1.sl),(by have e:DK d m gs ms cs f y l=(List.range k).map (fun (i:Nat)=>(AM ms (Ax d m gs ms cs f y l) (i:Int) d).2):=(by exact RG ‹_› hk ‹_›);rw [e];exact b2.sl),(ao.trans ay)⟩)⟩))))))))))
end Go.Ns
