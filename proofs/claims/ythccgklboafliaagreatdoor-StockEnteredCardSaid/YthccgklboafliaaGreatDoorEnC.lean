/- Rules and walks, part 3 of 6. No conditions. -/
import Derived.Carry
import Derived.Conc.LeavingOf
import Derived.LaidMore
import Derived.OpenShut
import Derived.ProofKit
import Derived.Test.YthccgklboafliaaGreatDoorEnA
import Derived.Test.YthccgklboafliaaGreatDoorEnB
import Derived.Test.YthccgklboafliaaGreatDoorProg
set_option linter.unusedVariables false
set_option linter.unusedSimpArgs false
set_option linter.unnecessarySimpa false
set_option linter.unusedSectionVars false
namespace Go.Ns
def MI (ms:List AB) (p:AS) (g:Int) (k:Nat):Int:=if (ms.getD k AB.z).good=g then signed (ms.getD k AB.z).kind.toNat (BV p k) else 0
def Dw (ms:List AB) (p:AS) (g:Int) (k:Nat):Int×Int:=((ms.getD k AB.z).day,MI ms p g k)
def JE (ms:List AB) (p:AS) (g:Int):List (Int×Int):=(List.range ms.length).map (Dw ms p g)
def runA (n low:Int):List (Int×Int)→Int×Int
 | []=>(n,low)
 | [x]=>(n+x.2,min (n+x.2) low)
 | x ::y ::t=>runA (n+x.2) (if x.1<y.1 then min (n+x.2) low else low) (y ::t)
def G1 (c n low:Int):List (Int×Int)→Int×Int
 | []=>(n,min n low)
 | x ::t=>if c<x.1 then G1 x.1 (n+x.2) (min n low) t else G1 c (n+x.2) low t
def FB:Int→List (Int×Int)→Prop
 | _,[]=>True
 | c,x ::t=>c≤x.1∧FB x.1 t
theorem TZ:∀(t:List (Int×Int)) (x:Int×Int) (n low:Int),FB x.1 t→runA n low (x ::t)=G1 x.1 (n+x.2) low t
 | [],x,n,low,_=>rfl
 | y ::t,x,n,low,h=>by
  show runA (n+x.2) _ (y ::t)=if x.1<y.1 then _ else _
  rw [TZ t y _ _ h.2];by_cases e:x.1<y.1
  ·rw [if_pos e,if_pos e]
  ·rw [if_neg e,if_neg e,show x.1=y.1 from by have:=h.1;omega]
theorem Ub {n:Int}:∀{t:List (Int×Int)},(∀x ∈ t,1≤x.1)→FB 0 t→runA n n t=G1 0 n n t
 | [],_,_=>by simp [runA,G1,Int.min_self]
 | x ::t,h1,h=>by
  rw [TZ t x n n h.2];show _=if 0<x.1 then _ else _
  rw [if_pos (by have:=h1 x (by simp);omega),Int.min_self]
theorem FB.weak {c c':Int} (hc:c'≤c):∀{t:List (Int×Int)},FB c t→FB c' t
 | [],_=>trivial
 | _ ::_,h=>⟨by have:=h.1;omega,h.2⟩
theorem SA {c d n low:Int} (hcd:c<d):∀{t:List (Int×Int)},FB d t→G1 d n (min n low) t=G1 c n low t
 | [],_=>by simp only [G1];congr 1;omega
 | y ::t,h=>by
  have h1:=h.1;show (if d<y.1 then _ else _)=if c<y.1 then _ else _
  rw [if_pos (show c<y.1 by omega)];by_cases e:d<y.1
  ·rw [if_pos e,show min n (min n low)=min n low by omega]
  ·rw [if_neg e,show d=y.1 by omega]
theorem F6 {ι:Type} {f:ι→Int×Int} {q:ι→Bool}:∀{l:List ι} {c n low:Int},(∀i ∈ l,q i=false→(f i).2=0)→FB c (l.map f)→G1 c n low (l.map f)=G1 c n low ((l.filter q).map f)
 | [],_,_,_,_,_=>rfl
 | i ::l,c,n,low,hz,hr=>by
  have hz':∀j ∈ l,q j=false→(f j).2=0:=fun j hj=>hz j (by simp [hj]);cases hq:q i with
  | true=>
   rw [List.filter_cons_of_pos hq];show (if c<(f i).1 then _ else _)=if c<(f i).1 then _ else _
   split
   ·exact F6 hz' hr.2
   ·exact F6 hz' (FB.weak hr.1 hr.2)
  | false=>
   rw [List.filter_cons_of_neg (by simp [hq])];have h0:=hz i (by simp) hq;show (if c<(f i).1 then G1 (f i).1 (n+(f i).2) _ _ else _)=_;rw [h0,Int.add_zero];have hr2:FB (f i).1 (l.map f):=hr.2;rw [←F6 hz' (FB.weak hr.1 hr2)];split
   ·rename_i e;exact SA e hr2
   ·rfl
theorem LS {ms:List AB} {p:AS} {g dy:Int} (hd:∀k,k<ms.length→(ms.getD k AB.z).day≤dy):∀(f k:Nat) (n low:Int),k+f=ms.length→CN ms p g dy f k n low=runA n low ((List.range' k f).map (Dw ms p g))
 | 0,_,_,_,_=>rfl
 | f+1,k,n,low,e=>by
  have h1:¬dy<(ms.getD k AB.z).day:=by have:=hd k (by omega);omega
  unfold CN;rw [if_neg h1,LS hd f (k+1) _ _ (by omega),List.range'_succ,List.map_cons];have hn:Ey ms p g k n=n+(Dw ms p g k).2:=by unfold Ey Dw MI;simp only [];split <;> omega
  cases f with
  | zero=>
   show (_,_)=(_,_);rw [hn];congr 1;unfold EV;rw [if_pos (.inl (by omega)),Int.min_comm]
  | succ f=>
   rw [List.range'_succ,List.map_cons,hn];have hne:¬((k:Int)+1=ms.length):=by omega
   have hlow:EV ms k low (n+(Dw ms p g k).2)=if (Dw ms p g k).1<(Dw ms p g (k+1)).1 then min (n+(Dw ms p g k).2) low else low:=by
    show (if (k:Int)+1=ms.length∨(ms.getD k AB.z).day<(ms.getD (k+1) AB.z).day then _ else _)=if (ms.getD k AB.z).day<(ms.getD (k+1) AB.z).day then _ else _
    by_cases e2:(ms.getD k AB.z).day<(ms.getD (k+1) AB.z).day
    ·rw [if_pos (.inr e2),if_pos e2,Int.min_comm]
    ·rw [if_neg (by simp only [e2,or_false];exact hne),if_neg e2]
   rw [hlow];rfl
theorem SB {ms:List AB} {p:AS} {g dy:Int} (hd:∀k,k<ms.length→(ms.getD k AB.z).day≤dy):AH ms p g dy=runA (p.first g.toNat) (p.first g.toNat) (JE ms p g):=by
 unfold AH JE;rw [LS hd ms.length 0 _ _ (by omega),List.range_eq_range']
theorem LT:∀(t:List (Int×Int)) (c n low:Int),(G1 c n low t).2≤low∧(G1 c n low t).2≤(G1 c n low t).1
 | [],_,n,low=>by simp only [G1];omega
 | x ::t,c,n,low=>by
  show (if c<x.1 then _ else _:Int×Int).2≤low∧(if c<x.1 then _ else _:Int×Int).2≤(if c<x.1 then _ else _:Int×Int).1;split
  ·have:=LT t x.1 (n+x.2) (min n low);omega
  ·exact LT t c (n+x.2) low
theorem Dm {d m:Int} {gs:List Good} {ms:List AB} {cs:List AK} (b:BG d m gs ms cs):AM d m gs ms cs=0:=by
 unfold AM;refine EL fun j _ hj=>?_
 have:j=0∨j=1∨j=2∨j=3:=by omega
 rcases this with rfl | rfl | rfl | rfl
 ·show DU d m=0;unfold DU;have:=b.days;have:=b.most;rw [if_neg (by omega)]
 ·show BR gs=0;unfold BR;have:=b.glen;rw [if_neg (by omega)];exact EL fun j _ hj=>b.good j (by omega)
 ·show BI d gs ms=0;unfold BI;have:=b.mlen;rw [if_neg (by omega)];exact EL fun j _ hj=>b.move j (by omega)
 ·show By d gs cs=0;unfold By;have:=b.clen;rw [if_neg (by omega)];exact EL fun j _ hj=>b.count j (by omega)
def IX (ms:List AB):Prop:=ms.Pairwise fun a b=>a.day≤b.day
section
variable {d m:Int} {gs:List Good} {ms:List AB} {cs:List AK}
theorem BG.up (b:BG d m gs ms cs):IX ms:=by
 have adj:∀k,k+1<ms.length→(ms.getD k AB.z).day≤(ms.getD (k+1) AB.z).day:=fun k hk=>by
  have:=(b.move' hk).2.2.2.1
  unfold CT at this;rw [if_neg (by omega)] at this;simpa using this
 have all:∀f k,k+f<ms.length→(ms.getD k AB.z).day≤(ms.getD (k+f) AB.z).day:=by
  intro f
  induction f with
  | zero=>intro k _;exact Int.le_refl _
  | succ f ih=>intro k hk;exact Int.le_trans (ih k (by omega)) (adj (k+f) (by omega))
 unfold IX;rw [List.pairwise_iff_getElem];intro i j hi hj hij
 have:=all (j-i) i (by omega)
 rw [show i+(j-i)=j by omega,Cr AB.z hi,Cr AB.z hj] at this;exact this
theorem Mr {ι:Type} {f:ι→Int×Int}:∀{l:List ι} {c:Int},l.Pairwise (fun i j=>(f i).1≤(f j).1)→(∀i ∈ l,c≤(f i).1)→FB c (l.map f)
 | [],_,_,_=>trivial
 | i ::l,c,h,h1=>⟨h1 i (by simp),Mr (List.pairwise_cons.1 h).2 fun j hj=>(List.pairwise_cons.1 h).1 j hj⟩
theorem BG.pairsUp (b:BG d m gs ms cs) (p:AS) (g:Int) {l:List Nat} (s:l.Sublist (List.range ms.length)):FB 0 (l.map (Dw ms p g)):=by
 refine Mr ?_ fun i hi=>?_
 ·have h1:(List.range ms.length).Pairwise (fun i j=>(Dw ms p g i).1≤(Dw ms p g j).1):=by
   rw [List.pairwise_iff_getElem];intro i j hi hj hij;simp only [List.getElem_range]
   have:=b.up
   unfold IX at this;rw [List.pairwise_iff_getElem] at this;simp only [List.length_range] at hi hj
   have:=this i j hi hj hij
   rwa [←Cr AB.z,←Cr AB.z] at this
  exact h1.sublist s
 ·have:=List.mem_range.1 (s.subset hi)
  have:=(b.move' this).2.2.1
  show 0≤(ms.getD i AB.z).day;omega
theorem BG.stock (b:BG d m gs ms cs) (p:AS) (g:Int):AH ms p g d=G1 0 (p.first g.toNat) (p.first g.toNat) (JE ms p g):=by
 rw [SB fun k hk=>(b.move' hk).2.2.1.2];refine Ub (fun x hx=>?_) (b.pairsUp p g (List.Sublist.refl _));obtain ⟨i,hi,rfl⟩:=List.mem_map.1 hx;exact (b.move' (List.mem_range.1 hi)).2.2.1.1
end
section
variable {d m:Int} {gs:List Good} {ms:List AB} {cs:List AK} {picks:List Int} {bits:Int}
end
end Go.Ns
namespace Go.Ns
open Go.Conc
section
variable {P:Program} {E:FN P} {σ:Nat→Value} {ds:List Deferred} {h:GH} {T:(Nat→Value)→List Deferred→GH→Prop} {dst:Option Nat} {ty:TypeId} {pos:String} {af:Array Edge} {gd:Option (Nat×Bool)}
theorem QW {s:ByteArray} {i:Nat} (h:i<s.size):((s[i]'h).toNat:Int)=(bytesOf s).getD i 0:=by
 have h2:i<(bytesOf s).length:=by rw [CL];exact h
 rw [Cr 0 h2];exact (List.getElem_map (l:=s.data.toList) (f:=fun b=>(b.toNat:Int)) (h:=h2)).symm
theorem LU {t:TypeId} {x ix:Operand} {s:ByteArray} {kd:IntKind} {i:Int} (ht:Ke P t=true) (hx:AV σ x=.string s) (hi:AV σ ix=.int kd i) (h0:0≤i) (h1:i<s.size) (k:T (putS σ dst (.int .u8 ((bytesOf s).getD i.toNat 0))) ds h) :
  Bd E ⟨dst,.index t x ix,ty,pos,af,gd⟩ σ ds h T:=MV ht hx hi h0 h1 (by rw [QW];exact k)
end
theorem PD {s:ByteArray} (h:¬(1≤(s.size:Int)∧(s.size:Int)≤10)):C5 s=false:=by unfold C5;rw [decide_eq_false h,Bool.and_false]
def C3 (d:Int) (gs:List Good) (c:AK):Int:=if¬(0≤c.good∧c.good≤(gs.length:Int)-1) then 6 else if¬(0≤c.day∧c.day≤d)∨¬((0≤c.low∧c.low≤c.high)∧c.high≤999) then 1 else 0
section
variable {d m:Int} {gs:List Good} {ms:List AB} {cs:List AK}
theorem F7:AM d m gs ms cs=if DU d m=0 then (if BR gs=0 then (if BI d gs ms=0 then (if By d gs cs=0 then 0 else By d gs cs) else BI d gs ms) else BR gs) else DU d m:=rfl
theorem WD (h:¬(1≤d∧d≤99)∨¬(0≤m∧m≤2)):AM d m gs ms cs=1:=by
 have e:DU d m=1:=if_pos h;rw [F7,e,if_neg (by decide)]
theorem Ta (h:(1≤d∧d≤99)∧(0≤m∧m≤2)):DU d m=0:=if_neg (by omega)
theorem WE (h0:(1≤d∧d≤99)∧(0≤m∧m≤2)) (h:¬BR gs=0):AM d m gs ms cs=BR gs:=by rw [F7,if_pos (Ta h0),if_neg h]
theorem WF (h0:(1≤d∧d≤99)∧(0≤m∧m≤2)) (h:¬¬BR gs=0) (h2:¬BI d gs ms=0):AM d m gs ms cs=BI d gs ms:=by rw [F7,if_pos (Ta h0),if_pos (Decidable.not_not.1 h),if_neg h2]
theorem Vo (h0:(1≤d∧d≤99)∧(0≤m∧m≤2)) (h:¬¬BR gs=0) (h2:¬¬BI d gs ms=0) {c:Int} (h3:By d gs cs=c):AM d m gs ms cs=c:=by
 rw [F7,if_pos (Ta h0),if_pos (Decidable.not_not.1 h),if_pos (Decidable.not_not.1 h2),h3];by_cases e:c=0
 ·rw [if_pos e,e]
 ·rw [if_neg e]
theorem QX (h:(4:Int)<cs.length):By d gs cs=2:=if_pos h
theorem QY {k:Nat} (h:¬(4:Int)<cs.length) (hs:∀j,j<k→D5 d gs cs j=0) (hk:k<cs.length) (e:¬C3 d gs (cs.getD k AK.z)=0):By d gs cs=C3 d gs (cs.getD k AK.z):=by
 unfold By;rw [if_neg h];exact BP hs hk rfl e
theorem QZ {k:Nat} (h:¬(4:Int)<cs.length) (hs:∀j,j<k→D5 d gs cs j=0) (hk:cs.length≤k):By d gs cs=0:=by
 unfold By;rw [if_neg h];exact CB hs hk
theorem LV {k:Nat} (h:0<k):CT ms k=(ms.getD ((k:Int)-1).toNat AB.z).day:=by
 unfold CT;rw [if_neg (by omega),show ((k:Int)-1).toNat=k-1 by omega]
theorem WG {k:Nat} (h:(ms.getD k AB.z).kind<0∨4<(ms.getD k AB.z).kind):Cl d gs ms k=1:=by unfold Cl;rw [if_pos (by omega)]
theorem WH {k:Nat} (h0:¬((ms.getD k AB.z).kind<0∨4<(ms.getD k AB.z).kind)) (h:¬(0≤(ms.getD k AB.z).good∧(ms.getD k AB.z).good≤(gs.length:Int)-1)):Cl d gs ms k=6:=by unfold Cl;rw [if_neg (by omega),if_pos h]
theorem WI {k:Nat} (h0:¬((ms.getD k AB.z).kind<0∨4<(ms.getD k AB.z).kind)) (h1:¬¬(0≤(ms.getD k AB.z).good∧(ms.getD k AB.z).good≤(gs.length:Int)-1)) (h:¬(1≤(ms.getD k AB.z).day∧(ms.getD k AB.z).day≤d)):Cl d gs ms k=1:=by
 unfold Cl;rw [if_neg (by omega),if_neg h1,if_pos h]
theorem WJ {k:Nat} (h0:¬((ms.getD k AB.z).kind<0∨4<(ms.getD k AB.z).kind)) (h1:¬¬(0≤(ms.getD k AB.z).good∧(ms.getD k AB.z).good≤(gs.length:Int)-1)) (h2:¬¬(1≤(ms.getD k AB.z).day∧(ms.getD k AB.z).day≤d)) (hk:(0:Int)<(k:Int))
  (h:(ms.getD k AB.z).day<(ms.getD ((k:Int)-1).toNat AB.z).day):Cl d gs ms k=7:=by
 unfold Cl;rw [if_neg (by omega),if_neg h1,if_neg h2,LV (by omega),if_pos h]
theorem V6 {k:Nat} (h0:¬((ms.getD k AB.z).kind<0∨4<(ms.getD k AB.z).kind)) (h1:¬¬(0≤(ms.getD k AB.z).good∧(ms.getD k AB.z).good≤(gs.length:Int)-1)) (h2:¬¬(1≤(ms.getD k AB.z).day∧(ms.getD k AB.z).day≤d)) {c:Int}
  (h3:(0:Int)<(k:Int)→¬(ms.getD k AB.z).day<(ms.getD ((k:Int)-1).toNat AB.z).day) (h4:(if¬CM (ms.getD k AB.z).low (ms.getD k AB.z).high then (1:Int) else 0)=c):Cl d gs ms k=c:=by
 have e:¬(ms.getD k AB.z).day<CT ms k:=by
  by_cases hk:0<k
  ·rw [LV hk];exact h3 (by omega)
  ·have:=Decidable.not_not.1 h2
   unfold CT;rw [if_pos (by omega)];omega
 unfold Cl;rw [if_neg (by omega),if_neg h1,if_neg h2,if_neg e,h4]
theorem WK {k:Nat} (h:C5 (gs.getD k Good.z).name=false):EG gs k=4:=by unfold EG;rw [if_pos h]
theorem WL {k j:Nat} (h0:C5 (gs.getD k Good.z).name=true) (hj:(j:Int)<(k:Int)) (hk:(k:Int)<gs.length) (h:((gs.getD j Good.z).name.toList==(gs.getD k Good.z).name.toList)=true):EG gs k=5:=by
 unfold EG;rw [if_neg (by rw [h0];decide),if_pos];rw [List.any_eq_true];refine ⟨gs.getD j Good.z,?_,h⟩;rw [Cr Good.z (show j<gs.length by omega)];exact List.mem_take_iff_getElem.2 ⟨j,by omega,rfl⟩
theorem V7 {k j:Nat} (h0:C5 (gs.getD k Good.z).name=true) (hj:j≤k) (hj':¬(j:Int)<(k:Int)) (h:(gs.take j).any (fun x=>x.name.toList==(gs.getD k Good.z).name.toList)=false) {c:Int}
  (hc:(if (¬(0≤(gs.getD k Good.z).cost∧(gs.getD k Good.z).cost≤999)∨¬(1≤(gs.getD k Good.z).pack∧(gs.getD k Good.z).pack≤20))∨¬CM (gs.getD k Good.z).low (gs.getD k Good.z).high then (1:Int) else 0)=c):EG gs k=c:=by
 obtain rfl:j=k:=by omega
 unfold EG;rw [if_neg (by rw [h0];decide),if_neg (by rw [h];decide),hc]
def Db (gs:List Good) (ms:List AB) (cs:List AK):Bool:=decide ((20:Int)<gs.length) || decide ((20:Int)<ms.length) || decide ((20:Int)<cs.length) || gs.any fun x=>decide ((100:Int)<x.name.size)
theorem SC (h:((20:Int)<gs.length∨(20:Int)<ms.length)∨(20:Int)<cs.length):Db gs ms cs=true:=by
 unfold Db;rcases h with (h | h) | h <;> simp [h]
theorem SD {k:Nat} (hk:k<gs.length) (h:(100:Int)<(gs.getD k Good.z).name.size):Db gs ms cs=true:=by
 unfold Db;rw [Bool.or_eq_true];right;rw [List.any_eq_true];exact ⟨_,Ck hk,decide_eq_true h⟩
theorem SE {k:Nat} (h:¬(20:Int)<gs.length) (h2:¬(20:Int)<ms.length) (h3:¬(20:Int)<cs.length) (hk:gs.length≤k) (hs:∀j,j<k→¬(100:Int)<(gs.getD j Good.z).name.size):Db gs ms cs=false:=by
 unfold Db;rw [decide_eq_false h,decide_eq_false h2,decide_eq_false h3];simp only [Bool.false_or];rw [List.any_eq_false];intro x hx;obtain ⟨i,hi,rfl⟩:=List.getElem_of_mem hx
 have:=hs i (by omega)
 rw [Cr Good.z hi] at this;simpa using this
theorem PE (h:Db gs ms cs=false):∀k,(gs.getD k Good.z).name.size≤1000:=by
 unfold Db at h;rw [Bool.or_eq_false_iff] at h;intro k;by_cases hk:k<gs.length
 ·have:=List.any_eq_false.1 h.2 _ (Ck (d:=Good.z) hk)
  have:=of_decide_eq_false (Bool.eq_false_iff.2 this)
  omega
 ·rw [Dj (by omega)];decide
theorem JF (h:(!Db gs ms cs)=true):∀k,(gs.getD k Good.z).name.size≤1000:=PE (by simpa using h)
def LW (d m:Int) (gs:List Good) (ms:List AB) (cs:List AK):Bool:= !Db gs ms cs && decide (AM d m gs ms cs=0)
end
theorem Bp.cons {h:GH} {l:List Sl} {v:Value} {xs:List Int} (a:AN h v 1 eI xs) (b:Bp h l):Bp h ((v,xs) ::l):=fun k=>by
 cases k with
 | zero=>exact a
 | succ k=>exact b k
theorem Qa {a b:List Sl} {k:Nat} (h:(Bu a).take k=(Bu b).take k) (ha:k<a.length) (hb:k<b.length) (e:(a.getD k Sl.z).2=(b.getD k Sl.z).2):(Bu a).take (k+1)=(Bu b).take (k+1):=
 Ku [] h (by rw [Ca];exact ha) (by rw [Ca];exact hb) (by rw [EH ha,EH hb,e])
theorem SF {a b:List Sl} {k:Nat} (h:(Bu a).take k=(Bu b).take k) (hk:¬(k:Int)<a.length) (hl:(a.length:Int)=b.length):Bu a=Bu b:=by
 rw [List.take_of_length_le (by rw [Ca];omega),List.take_of_length_le (by rw [Ca];omega)] at h;exact h
theorem Tb {a b:List Sl} (h:¬(a.length:Int)=b.length):¬Bu a=Bu b:=fun e=>h (by rw [←Ca,←Ca,e])
theorem Qb {a b:List Sl} {k:Nat} (ha:k<a.length) (hb:k<b.length) (e:¬(a.getD k Sl.z).2=(b.getD k Sl.z).2):¬Bu a=Bu b:=fun q=>e (by rw [←EH ha,←EH hb,q])
end Go.Ns
namespace Go.Ns
open Go.Conc
def Ch:List Good:=[⟨⟨#[116,101,97]⟩,5,4,3,3⟩,⟨⟨#[114,105,99,101]⟩,2,10,5,6⟩]
def Co:List AB:=[⟨0,0,2,4,4⟩,⟨1,0,3,2,3⟩,⟨2,1,4,0,1⟩,⟨0,1,5,10,10⟩]
def Cp:List AK:=[⟨0,10,4,5⟩,⟨1,10,5,5⟩]
theorem DK:∀k,(Ch.getD k Good.z).name.size≤1000
 | 0=>by decide
 | 1=>by decide
 | k+2=>by rw [Dj (by simp [Ch])];decide
theorem Tc {v0 v1 v2 v3 v4 v5 v6:Value} (h0:v0.cells=#[v0]) (h1:v1.cells=#[v1]) (h2:v2.cells=#[v2]) (h3:v3.cells=#[v3]) (h4:v4.cells=#[v4]) (h5:v5.cells=#[v5]) (h6:v6.cells=#[v6]):Instr.fill (fun i=>some (i*1,1)) ((Array.range (7*1)).map (#[Value.slice none 0 0][·% #[Value.slice none 0 0].size]!)) [(0,v0),(1,v1),(2,v2),(3,v3),(4,v4),(5,v5),(6,v6)]=some #[v0,v1,v2,v3,v4,v5,v6]:=by
 have e:((Array.range (7*1)).map (#[Value.slice none 0 0][·% #[Value.slice none 0 0].size]!))=#[Value.slice none 0 0,Value.slice none 0 0,Value.slice none 0 0,Value.slice none 0 0,Value.slice none 0 0,Value.slice none 0 0,Value.slice none 0 0]:=by kernel_rfl
 rw [e];simp [Instr.fill,h0,h1,h2,h3,h4,h5,h6]
theorem AN.isSl {α:Type} {h:GH} {v:Value} {n:Nat} {enc:α→Array Value} {xs:List α} (x:AN h v n enc xs):∀k i,v≠.int k i:=by
 obtain ⟨a,cap,rfl,_⟩:=x;intro k i e;cases e
theorem AN.across {h h':GH} {v:Value} {xs:List Int} {r:Nat} {a b c:Value} {T:TypeId} (x:AN h v 1 eI xs) (hb:h r=some (true,.cells #[.int .i64 10,.int .i64 1,a,b,c] T (0,0))) (ho:∀y,y≠r→h' y=h y)
  (ha:∀k i,a≠.int k i) (hb':∀k i,b≠.int k i) (hc:∀k i,c≠.int k i) (hx:∀o,o<5→∃i:Fin xs.length,(o+i.val=0→xs[i.val]≠10)∧(o+i.val=1→xs[i.val]≠1)):AN h' v 1 eI xs:=by
 obtain ⟨ad,cap,hv,hcap,hm,he⟩:=x;refine ⟨ad,cap,hv,hcap,hm,fun i hi=>?_⟩;obtain ⟨y,off,h1,h2⟩:=he i hi;refine ⟨y,off,h1,h2.same (ho y ?_)⟩;rintro rfl;have key:∀j (hj:j<xs.length),off+j<5∧(#[Value.int .i64 10,.int .i64 1,a,b,c]:Array Value).extract (off+j) (off+j+1)=eI xs[j]:=fun j hj=>by
  obtain ⟨y2,off2,h3,h4⟩:=he j hj;rw [h1] at h3;simp only [Option.some.injEq,Addr.mk.injEq,and_true] at h3;obtain ⟨rfl,rfl⟩:=h3;obtain ⟨p,cc,t,f,q1,q2,q3⟩:=h4;rw [hb] at q1;simp only [Option.some.injEq,Prod.mk.injEq,Obj.cells.injEq] at q1;obtain ⟨_,rfl,_⟩:=q1;rw [Nat.mul_one] at q2 q3;exact ⟨by simp at q2;omega,q3⟩
 obtain ⟨⟨j,hj⟩,e0,e1⟩:=hx off (by have:=(key i hi).1;omega);obtain ⟨k1,k2⟩:=key j hj;simp only at e0 e1;generalize off+j=o at k1 k2 e0 e1;generalize xs[j]=z at k2 e0 e1
 have:o=0∨o=1∨o=2∨o=3∨o=4:=by omega
 rcases this with rfl | rfl | rfl | rfl | rfl
 ·have k3:(#[.int .i64 10]:Array Value)=#[.int .i64 z]:=k2;simp at k3;exact e0 rfl k3.symm
 ·have k3:(#[.int .i64 1]:Array Value)=#[.int .i64 z]:=k2;simp at k3;exact e1 rfl k3.symm
 ·have k3:(#[a]:Array Value)=#[.int .i64 z]:=k2;simp at k3;exact ha _ _ k3
 ·have k3:(#[b]:Array Value)=#[.int .i64 z]:=k2;simp at k3;exact hb' _ _ k3
 ·have k3:(#[c]:Array Value)=#[.int .i64 z]:=k2;simp at k3;exact hc _ _ k3
def RV (d m:Int) (gs:List Good) (ms:List AB) (cs:List AK):Int:=if AM d m gs ms cs=0 then ((AP d gs ms cs m).length:Int) else 0
end Go.Ns
namespace Go.Ns
open Go.Conc
section
variable {P:Program} {E:FN P} {σ:Nat→Value} {ds:List Deferred} {h:GH} {T:(Nat→Value)→List Deferred→GH→Prop} {dst:Option Nat} {ty:TypeId} {pos:String} {af:Array Edge} {gd:Option (Nat×Bool)}
end
section
variable {d m:Int} {gs:List Good} {ms:List AB} {cs:List AK} {f y l:List Int}
theorem VB (h:LW d m gs ms cs=true):BG d m gs ms cs∧∀k,(gs.getD k Good.z).name.size≤1000:=by
 unfold LW at h;rw [Bool.and_eq_true] at h;exact ⟨Fb (of_decide_eq_true h.2),JF h.1⟩
end
end Go.Ns
namespace Go.Ns
open Go.Conc
section
variable {P:Program} {E:FN P} {σ:Nat→Value} {ds:List Deferred} {h:GH} {T:(Nat→Value)→List Deferred→GH→Prop} {dst:Option Nat} {ty:TypeId} {pos:String} {af:Array Edge} {gd:Option (Nat×Bool)}
end
def HR (h h':GH) (v:Value) (t:TypeId):Prop:=∀b c,back v=some b→h b=some (true,.cells c t (0,0))→∃c',h' b=some (true,.cells c' t (0,0))∧c'.size=c.size
theorem HR.empty {h h':GH} {v v':Value} {t:TypeId} (g:Dx h h' v v') (f:HR h h' v t) {r:Nat} (hr:h r=some (true,.cells #[] t (0,0))):h' r=some (true,.cells #[] t (0,0)):=by
 by_cases e:back v=some r
 ·obtain ⟨c',h1,h2⟩:=f r #[] e hr;have e0:c'=#[]:=Array.eq_empty_of_size_eq_zero (by simpa using h2);rw [h1,e0]
 ·exact g.1 r _ hr e
theorem HR.le {h h':GH} {v v':Value} {t:TypeId} (g:Dx h h' v v') (f:HR h h' v t) {r:Nat} (hv:back v=some r) (hr:h r=some (true,.cells #[] t (0,0))):h.Le h':=fun b p o hb=>by
 by_cases e:b=r
 ·subst e;rw [hr] at hb;cases hb;exact ⟨_,f.empty g hr,.inl rfl⟩
 ·exact ⟨o,g.1 b _ hb (fun q=>e (by rw [hv] at q;cases q;rfl)),.inl rfl⟩
theorem Qc {P:Program} {E:FN P} {R R':GH→GH→Prop} {Pre:Nat→GH→Prop} {ops rest:List Oper} {n m k:Nat} {Φ:List Fv} {σ:Nat→Value} {ds:List Deferred} {h:GH} {Q:Post} {cls:List (List Nat)} (_:Cs R' Φ) (x:GI R Pre E ops n Φ σ ds h Q m k rest cls):GI R Pre E ops n Φ σ ds h Q m k rest cls:=x
end Go.Ns
namespace Go.Ns
open Go.Conc Go Go.RowKit
section
variable {d m:Int} {gs:List Good} {ms:List AB} {cs:List AK}
end
section
variable {P:Program} {E:FN P} {σ:Nat→Value} {ds:List Deferred} {h:GH} {T:(Nat→Value)→List Deferred→GH→Prop} {dst:Option Nat} {ty:TypeId} {pos:String} {af:Array Edge} {gd:Option (Nat×Bool)}
end
end Go.Ns
namespace Go.Ns
open Go.Conc Go Go.RowKit
theorem D1 {p q:AS}:∀{n:Nat},(∀k,k<n→p.lies k=q.lies k)→An p n=An q n
 | 0,_=>rfl
 | n+1,h=>by unfold An;rw [D1 fun k hk=>h k (by omega),h n (by omega)]
theorem FL (p:AS):∀{i n:Nat},i≤n→An p i≤An p n
 | i,0,h=>by rw [show i=0 by omega];exact Nat.le_refl _
 | i,n+1,h=>by
  by_cases e:i=n+1
  ·rw [e];exact Nat.le_refl _
  ·have:=FL p (i:=i) (n:=n) (by omega)
   have h2:An p (n+1)=An p n+if p.lies n then 1 else 0:=rfl
   omega
theorem F8 {p:AS}:∀{i n:Nat},(∀k,i≤k→k<n→p.lies k=false)→i≤n→An p n=An p i
 | i,0,_,h=>by rw [show i=0 by omega]
 | i,n+1,h0,h=>by
  by_cases e:i=n+1
  ·rw [e]
  ·have h2:An p (n+1)=An p n+if p.lies n then 1 else 0:=rfl
   rw [h2,h0 n (by omega) (by omega),F8 (fun k hk hk'=>h0 k hk (by omega)) (by omega)];rfl
theorem J5 {p:AS} {i:Nat} {n:Int} (h:p.lies i=false):∀k,An (p.setMove i n true) k=An p k+if i<k then 1 else 0
 | 0=>rfl
 | k+1=>by
  have h1:An (p.setMove i n true) (k+1)=An (p.setMove i n true) k+if (p.setMove i n true).lies k then 1 else 0:=rfl
  have h2:An p (k+1)=An p k+if p.lies k then 1 else 0:=rfl
  have h3:(p.setMove i n true).lies k=if k=i then true else p.lies k:=rfl
  rw [h1,h2,h3,J5 h k];by_cases e:k=i
  ·subst e;have e3:¬k<k:=by omega
   have e4:k<k+1:=by omega
   simp [h,e3,e4]
  ·rw [if_neg e];by_cases e2:i<k
   ·have e4:i<k+1:=by omega
    simp only [e2,e4,if_true];omega
   ·have e4:¬i<k+1:=by omega
    simp only [e2,e4,if_false];omega
structure RW (gs:List Good) (ms:List AB) (mo:Int) (p:AS):Prop where
 first:∀i,i<gs.length→(gs.getD i Good.z).low≤p.first i∧p.first i≤(gs.getD i Good.z).high
 many:∀i,i<ms.length→(ms.getD i AB.z).low≤p.many i∧p.many i≤(ms.getD i AB.z).high
 note:∀i,i<ms.length→p.lies i=true→CZ ms i=true
 few:(An p ms.length:Int)≤mo
theorem GJ {ag:AS→Bool} {ms:List AB} {mo:Int} (h6:ms.length≤6):∀(f i:Nat) (p q:AS),i+f=ms.length→(∀k,i≤k→p.lies k=false)→(An p 6:Int)≤mo→q ∈ Aq ag ms mo f i p→
  ag q=true∧q.first=p.first∧(∀k,k<i→q.many k=p.many k∧q.lies k=p.lies k)∧(∀k,i≤k→k<ms.length→(ms.getD k AB.z).low≤q.many k∧q.many k≤(ms.getD k AB.z).high∧(q.lies k=true→CZ ms k=true))∧(An q 6:Int)≤mo
 | 0,i,p,q,e,_,hl,h=>by
  unfold Aq at h;split at h
  ·rename_i ha
   rw [List.mem_singleton] at h;subst h;exact ⟨ha,rfl,fun _ _=>⟨rfl,rfl⟩,fun k h1 h2=>by omega,hl⟩
  ·cases h
 | f+1,i,p,q,e,hz,hl,h=>by
  rw [CO,List.mem_flatMap] at h;obtain ⟨n,hn,h⟩:=h;rw [FQ] at hn;have hlf:∀k,i+1≤k→(p.setMove i n false).lies k=false:=fun k hk=>by
   show (if k=i then false else p.lies k)=false;split
   ·rfl
   ·exact hz k (by omega)
  have hcf:An (p.setMove i n false) 6=An p 6:=D1 fun k _=>by
   show (if k=i then false else p.lies k)=p.lies k;split
   ·rename_i e2;rw [e2,hz i (Nat.le_refl _)]
   ·rfl
  unfold Bb at h;rw [List.mem_append] at h;rcases h with h | h
  ·obtain ⟨a1,a2,a3,a4,a5⟩:=GJ h6 f (i+1) _ q (by omega) hlf (by rw [hcf];exact hl) h;refine ⟨a1,a2,fun k hk=>?_,fun k h1 h2=>?_,a5⟩
   ·have:=a3 k (by omega)
    rw [this.1,this.2];exact ⟨show (if k=i then n else p.many k)=_ from if_neg (by omega),show (if k=i then false else p.lies k)=_ from if_neg (by omega)⟩
   ·by_cases e2:k=i
    ·subst e2
     have:=a3 k (by omega)
     have g1:(p.setMove k n false).many k=n:=if_pos rfl;have g2:(p.setMove k n false).lies k=false:=if_pos rfl;rw [this.1,this.2,g1,g2];exact ⟨hn.1,hn.2,fun q=>by cases q⟩
    ·exact a4 k (by omega) h2
  ·split at h
   ·rename_i hc
    rw [Bool.and_eq_true] at hc;have hlt:=of_decide_eq_true hc.2;have hct:An (p.setMove i n true) 6=An p 6+1:=by rw [J5 (hz i (Nat.le_refl _)),if_pos (by omega)]
    have hlt2:∀k,i+1≤k→(p.setMove i n true).lies k=false:=fun k hk=>by
     show (if k=i then true else p.lies k)=false;rw [if_neg (by omega)];exact hz k (by omega)
    obtain ⟨a1,a2,a3,a4,a5⟩:=GJ h6 f (i+1) _ q (by omega) hlt2 (by rw [hct];omega) h;refine ⟨a1,a2,fun k hk=>?_,fun k h1 h2=>?_,a5⟩
    ·have:=a3 k (by omega)
     rw [this.1,this.2];exact ⟨show (if k=i then n else p.many k)=_ from if_neg (by omega),show (if k=i then true else p.lies k)=_ from if_neg (by omega)⟩
    ·by_cases e2:k=i
     ·subst e2
      have:=a3 k (by omega)
      have g1:(p.setMove k n true).many k=n:=if_pos rfl;rw [this.1,g1];exact ⟨hn.1,hn.2,fun _=>hc.1⟩
     ·exact a4 k (by omega) h2
   ·cases h
theorem H6 {ag:AS→Bool} {gs:List Good} {ms:List AB} {mo:Int} (h6:ms.length≤6) (h0:0≤mo):∀(f i:Nat) (p q:AS),i+f=gs.length→(∀k,p.lies k=false)→q ∈ BJ ag gs ms mo f i p→
  ag q=true∧(∀k,k<i→q.first k=p.first k)∧(∀k,i≤k→k<gs.length→(gs.getD k Good.z).low≤q.first k∧q.first k≤(gs.getD k Good.z).high)∧(∀k,k<ms.length→(ms.getD k AB.z).low≤q.many k∧q.many k≤(ms.getD k AB.z).high∧(q.lies k=true→CZ ms k=true))∧(An q 6:Int)≤mo
 | 0,i,p,q,e,hz,h=>by
  have hl:(An p 6:Int)≤mo:=by
   rw [F8 (i:=0) (fun k _ _=>hz k) (Nat.zero_le _)];exact h0
  obtain ⟨a1,a2,_,a4,a5⟩:=GJ h6 ms.length 0 p q (by omega) (fun k _=>hz k) hl h;exact ⟨a1,fun k _=>by rw [a2],fun k h1 h2=>by omega,fun k hk=>a4 k (Nat.zero_le _) hk,a5⟩
 | f+1,i,p,q,e,hz,h=>by
  rw [Cm,List.mem_flatMap] at h;obtain ⟨n,hn,h⟩:=h;rw [FQ] at hn;obtain ⟨a1,a2,a3,a4,a5⟩:=H6 h6 h0 f (i+1) (p.setFirst i n) q (by omega) hz h;refine ⟨a1,fun k hk=>?_,fun k h1 h2=>?_,a4,a5⟩
  ·rw [a2 k (by omega)];exact if_neg (by omega)
  ·by_cases e2:k=i
   ·subst e2;rw [a2 k (by omega)];have g1:(p.setFirst k n).first k=n:=if_pos rfl;rw [g1];exact hn
   ·exact a3 k (by omega) h2
theorem Ms {d:Int} {gs:List Good} {ms:List AB} {cs:List AK} {mo:Int} (h6:ms.length≤6) (h0:0≤mo) {q:AS} (h:q ∈ AP d gs ms cs mo):RW gs ms mo q∧A8 d gs.length ms cs q=true:=by
 obtain ⟨a1,_,a3,a4,a5⟩:=H6 h6 h0 gs.length 0 AS.zero q (by omega) (fun _=>rfl) h;refine ⟨⟨fun i hi=>a3 i (Nat.zero_le _) hi,fun i hi=>⟨(a4 i hi).1,(a4 i hi).2.1⟩,fun i hi=>(a4 i hi).2.2,?_⟩,a1⟩
 have:=FL q h6
 omega
def Eb (p:AS) (i j:Nat):AS:=⟨fun k=>if k<i then p.first k else 0,fun k=>if k<j then p.many k else 0,fun k=>if k<j then p.lies k else false⟩
theorem Mt (p:AS) (i j:Nat):(Eb p i j).setMove j (p.many j) (p.lies j)=Eb p i (j+1):=by
 unfold Eb AS.setMove AS.setMany AS.setLie;congr 1
 ·funext k;show (if k=j then p.many j else if k<j then p.many k else 0)=if k<j+1 then p.many k else 0
  by_cases e:k=j
  ·rw [if_pos e,e,if_pos (by omega)]
  ·rw [if_neg e];by_cases e2:k<j
   ·rw [if_pos e2,if_pos (by omega)]
   ·rw [if_neg e2,if_neg (by omega)]
 ·funext k;show (if k=j then p.lies j else if k<j then p.lies k else false)=if k<j+1 then p.lies k else false
  by_cases e:k=j
  ·rw [if_pos e,e,if_pos (by omega)]
  ·rw [if_neg e];by_cases e2:k<j
   ·rw [if_pos e2,if_pos (by omega)]
   ·rw [if_neg e2,if_neg (by omega)]
theorem Qd (p:AS) (i:Nat):(Eb p i 0).setFirst i (p.first i)=Eb p (i+1) 0:=by
 unfold Eb AS.setFirst;congr 1;funext k;show (if k=i then p.first i else if k<i then p.first k else 0)=if k<i+1 then p.first k else 0
 by_cases e:k=i
 ·rw [if_pos e,e,if_pos (by omega)]
 ·rw [if_neg e];by_cases e2:k<i
  ·rw [if_pos e2,if_pos (by omega)]
  ·rw [if_neg e2,if_neg (by omega)]
theorem JG {ag:AS→Bool} {gs:List Good} {ms:List AB} {mo:Int} (h6:ms.length≤6) {p:AS} (L:RW gs ms mo p) (ha:ag (Eb p gs.length ms.length)=true):∀(f i:Nat),i+f=ms.length→Eb p gs.length ms.length ∈ Aq ag ms mo f i (Eb p gs.length i)
 | 0,i,e=>by
  rw [show i=ms.length by omega];unfold Aq;rw [if_pos ha];exact List.mem_singleton.2 rfl
 | f+1,i,e=>by
  rw [CO,List.mem_flatMap];refine ⟨p.many i,FQ.2 (L.many i (by omega)),?_⟩;have ih:=JG h6 L ha f (i+1) (by omega);unfold Bb;rw [List.mem_append];cases hli:p.lies i with
  | false=>
   left
   have:=Mt p gs.length i
   rw [hli] at this;rw [this];exact ih
  | true=>
   right;have hlie:An ((Eb p gs.length i).setMove i (p.many i) false) 6=An p i:=by
    rw [F8 (i:=i) (fun k h1 h2=>?_) (by omega)]
    ·refine D1 fun k hk=>?_;show (if k=i then false else if k<i then p.lies k else false)=_;rw [if_neg (by omega),if_pos hk]
    ·show (if k=i then false else if k<i then p.lies k else false)=_;split
     ·rfl
     ·rw [if_neg (by omega)]
   have h1:An p (i+1)=An p i+1:=by
    show An p i+(if p.lies i then 1 else 0)=_;rw [hli];rfl
   have h2:=FL p (i:=i+1) (n:=ms.length) (by omega);have h3:=L.few;rw [if_pos (by rw [Bool.and_eq_true];exact ⟨L.note i (by omega) hli,decide_eq_true (by rw [hlie];omega)⟩)]
   have:=Mt p gs.length i
   rw [hli] at this;rw [this];exact ih
theorem JH {ag:AS→Bool} {gs:List Good} {ms:List AB} {mo:Int} (h6:ms.length≤6) {p:AS} (L:RW gs ms mo p) (ha:ag (Eb p gs.length ms.length)=true):∀(f i:Nat),i+f=gs.length→Eb p gs.length ms.length ∈ BJ ag gs ms mo f i (Eb p i 0)
 | 0,i,e=>by
  rw [show i=gs.length by omega];exact JG h6 L ha ms.length 0 (by omega)
 | f+1,i,e=>by
  rw [Cm,List.mem_flatMap];refine ⟨p.first i,FQ.2 (L.first i (by omega)),?_⟩;rw [Qd];exact JH h6 L ha f (i+1) (by omega)
theorem SG (p:AS) {i j k:Nat} (h:k<j):BV (Eb p i j) k=BV p k:=by
 unfold BV Eb;simp only [];rw [if_pos h,if_pos h]
end Go.Ns
namespace Go.Ns
open Go.Conc Go Go.RowKit
section
variable {d m:Int} {gs:List Good} {ms:List AB} {cs:List AK}
end
def HT (ms:List AB) (p:AS) (g dy:Int) (k:Nat):Int:=if (ms.getD k AB.z).day≤dy then MI ms p g k else 0
theorem PG {F:Nat→Int}:∀{l:List Nat},(∀i ∈ l,F i=0)→(l.map F).sum=0
 | [],_=>rfl
 | i ::l,h=>by rw [List.map_cons,List.sum_cons,h i (by simp),PG fun j hj=>h j (by simp [hj])];rfl
theorem LX {F:Nat→Int} {q:Nat→Bool}:∀{l:List Nat},(∀i ∈ l,q i=false→F i=0)→(l.map F).sum=((l.filter q).map F).sum
 | [],_=>rfl
 | i ::l,h=>by
  have ih:=LX (F:=F) (q:=q) (l:=l) fun j hj=>h j (by simp [hj]);rw [List.map_cons,List.sum_cons,ih];cases e:q i with
  | true=>rw [List.filter_cons,if_pos e,List.map_cons,List.sum_cons]
  | false=>rw [List.filter_cons,if_neg (by rw [e];simp),h i (by simp) e];omega
theorem JI {ms:List AB} {p:AS} {g dy:Int} (up:∀i j,i≤j→j<ms.length→(ms.getD i AB.z).day≤(ms.getD j AB.z).day):∀(f k:Nat) (n low:Int),k+f=ms.length→(CN ms p g dy f k n low).1=n+((List.range' k f).map (HT ms p g dy)).sum
 | 0,_,n,_,_=>by simp [CN]
 | f+1,k,n,low,e=>by
  unfold CN;by_cases h:dy<(ms.getD k AB.z).day
  ·rw [if_pos h,PG fun i hi=>?_]
   ·omega
   ·have:=List.mem_range'_1.1 hi
    have h2:=up k i this.1 (by omega);unfold HT;rw [if_neg (by omega)]
  ·rw [if_neg h,JI up f (k+1) _ _ (by omega),List.range'_succ,List.map_cons,List.sum_cons];have h1:HT ms p g dy k=MI ms p g k:=by unfold HT;rw [if_pos (by omega)]
   have hn:Ey ms p g k n=n+MI ms p g k:=by unfold Ey MI;split <;> omega
   rw [h1,hn];omega
theorem IX.le {ms:List AB} (h:IX ms):∀i j,i≤j→j<ms.length→(ms.getD i AB.z).day≤(ms.getD j AB.z).day:=fun i j hij hj=>by
 by_cases e:i=j
 ·rw [e];exact Int.le_refl _
 ·unfold IX at h;rw [List.pairwise_iff_getElem] at h;rw [Cr AB.z (by omega),Cr AB.z hj];exact h i j (by omega) hj (by omega)
theorem HU {ms:List AB} (up:IX ms) (p:AS) (g dy:Int):(AH ms p g dy).1=p.first g.toNat+((List.range ms.length).map (HT ms p g dy)).sum:=by
 unfold AH;rw [JI up.le _ _ _ _ (by omega),List.range_eq_range']
section
variable {d m:Int} {gs:List Good} {ms:List AB} {cs:List AK}
end
end Go.Ns
namespace Go.Ns
open Go.Conc
theorem HV {x:Int}:∀(l acc:List Int),x ∈ acc∨x ∈ l→x ∈ l.foldl E9 acc
 | [],acc,h=>h.elim id fun h=>by cases h
 | y ::l,acc,h=>by
  refine HV l _ ?_;unfold E9;rcases h with h | h
  ·left;split
   ·exact h
   ·exact List.mem_append_left _ h
  ·rcases List.mem_cons.1 h with rfl | h
   ·left;split
    ·rename_i e;exact List.mem_of_getLast? e
    ·exact List.mem_append_right _ (List.mem_singleton.2 rfl)
   ·exact .inr h
theorem G9:∀(l acc:List Int),l.Pairwise (·≤·)→acc.Pairwise (· < ·)→(∀a ∈ acc,∀x ∈ l,a≤x)→(l.foldl E9 acc).Pairwise (· < ·)
 | [],_,_,h,_=>h
 | y ::l,acc,hl,ha,hx=>by
  rw [List.pairwise_cons] at hl;refine G9 l _ hl.2 ?_ ?_
  ·unfold E9;split
   ·exact ha
   ·rename_i hne
    rw [List.pairwise_append];refine ⟨ha,List.pairwise_singleton ..,fun a ha' b hb=>?_⟩;rw [List.mem_singleton] at hb;subst hb;have h1:=hx a ha' b List.mem_cons_self;rcases Int.lt_or_eq_of_le h1 with h2 | h2
    ·exact h2
    ·subst h2;exfalso;obtain ⟨z,hz⟩:∃z,acc.getLast? =some z:=by
      cases hq:acc.getLast? with
      | none=>rw [List.getLast?_eq_none_iff] at hq;subst hq;cases ha'
      | some z=>exact ⟨z,rfl⟩
     have hzm:=List.mem_of_getLast? hz;have h3:=hx z hzm a List.mem_cons_self;have h4:a≤z:=by
      obtain ⟨l0,hl0⟩:∃l0,acc=l0++[z]:=by
       rcases List.eq_nil_or_concat acc with e | ⟨l0,y0,e⟩
       ·subst e;cases hz
       ·subst e;simp at hz;subst hz;exact ⟨l0,by simp⟩
      subst hl0;rcases List.mem_append.1 ha' with q | q
      ·rw [List.pairwise_append] at ha;exact Int.le_of_lt (ha.2.2 a q z (List.mem_singleton.2 rfl))
      ·rw [List.mem_singleton] at q;omega
     exact hne (by rw [hz,show z=a by omega])
  ·intro a ha' x hx';unfold E9 at ha';split at ha'
   ·exact hx a ha' x (List.mem_cons_of_mem _ hx')
   ·rcases List.mem_append.1 ha' with q | q
    ·exact hx a q x (List.mem_cons_of_mem _ hx')
    ·rw [List.mem_singleton] at q;subst q;exact hl.1 x hx'
theorem Mu {n:Nat} {f:Nat→Int} {x:Int}:x ∈ B2 n f↔∃i,i<n∧f i=x:=by
 refine ⟨Mk,fun ⟨i,hi,e⟩=>HV _ _ (.inr ?_)⟩;rw [HJ];exact List.mem_mergeSort.2 (List.mem_map.2 ⟨i,List.mem_range.2 hi,e⟩)
theorem Mw (n:Nat) (f:Nat→Int):(B2 n f).Pairwise (· < ·):=by
 refine G9 _ _ ?_ List.Pairwise.nil (fun a ha=>by cases ha);rw [HJ]
 have:=List.pairwise_mergeSort (le:=fun x y:Int=>decide (x≤y)) (fun a b c h1 h2=>by simp at *;omega) (fun a b=>by simp;omega) ((List.range n).map f)
 exact this.imp fun h=>by simpa using h
theorem RX {l l':List Int} (h:l.Pairwise (· < ·)) (h':l'.Pairwise (· < ·)) (e:∀x,x ∈ l↔x ∈ l'):l=l':=by
 induction l generalizing l' with
 | nil=>
  cases l' with
  | nil=>rfl
  | cons y l'=>exact absurd ((e y).2 List.mem_cons_self) (by simp)
 | cons x l ih=>
  cases l' with
  | nil=>exact absurd ((e x).1 List.mem_cons_self) (by simp)
  | cons y l'=>
   rw [List.pairwise_cons] at h h';have hxy:x=y:=by
    rcases List.mem_cons.1 ((e x).1 List.mem_cons_self) with q | q
    ·exact q
    ·rcases List.mem_cons.1 ((e y).2 List.mem_cons_self) with q' | q'
     ·exact q'.symm
     ·have h1:=h.1 y q';have h2:=h'.1 x q;omega
   subst hxy;congr 1;refine ih h.2 h'.2 fun z=>⟨fun hz=>?_,fun hz=>?_⟩
   ·rcases List.mem_cons.1 ((e z).1 (List.mem_cons_of_mem _ hz)) with rfl | q
    ·exact absurd (h.1 z hz) (by omega)
    ·exact q
   ·rcases List.mem_cons.1 ((e z).2 (List.mem_cons_of_mem _ hz)) with rfl | q
    ·exact absurd (h'.1 z hz) (by omega)
    ·exact q
section
variable {d m:Int} {gs:List Good} {ms:List AB} {cs:List AK}
theorem Td {o:List Int} (h:∀x ∈ o,x=0):DF (fun k=>o.getD k 0) 0 o.length=0:=CB (k:=o.length) (fun j hj=>h _ (Ck hj)) (Nat.le_refl _)
theorem SH (b:BG d m gs ms cs) {o:List Int} (h:∀x ∈ o,x=0):AW d m gs ms cs o=if (AP d gs ms cs m).length=0 then 9 else 0:=by
 unfold AW;rw [if_neg (by rw [Dm b];simp),if_neg (by rw [Td h];simp)]
end
end Go.Ns
namespace Go.Ns
open Go.Conc
section
variable {P:Program} {E:FN P} {σ:Nat→Value} {ds:List Deferred} {h:GH} {T:(Nat→Value)→List Deferred→GH→Prop}
variable {dst:Option Nat} {ty:TypeId} {pos:String} {af:Array Edge} {gd:Option (Nat×Bool)}
end
section
variable {d m:Int} {gs:List Good} {ms:List AB} {cs:List AK}
end
end Go.Ns
namespace Go.Ns
open Go.Conc
section
variable {d m:Int} {gs:List Good} {ms:List AB} {cs:List AK}
theorem FU (b:BG d m gs ms cs) {g r:Int} (hg:0≤g∧g<gs.length) (hr:0≤r∧r≤d):CV d m gs ms cs g r=if (AP d gs ms cs m).length=0 then 9 else 0:=by
 refine SH b fun z hz=>?_;rw [if_pos (by simp;omega),if_pos (by simp;omega)] at hz;simp at hz;exact hz
end
end Go.Ns
namespace Go.Ns
open Go.Conc
theorem HW {ag:AS→Bool} {ms:List AB} {mo:Int}:∀(f i:Nat) (p q:AS),q ∈ Aq ag ms mo f i p→q.first=p.first∧∀k,k<i→q.many k=p.many k∧q.lies k=p.lies k
 | 0,i,p,q,h=>by
  unfold Aq at h;split at h
  ·rw [List.mem_singleton] at h;subst h;exact ⟨rfl,fun _ _=>⟨rfl,rfl⟩⟩
  ·cases h
 | f+1,i,p,q,h=>by
  rw [CO,List.mem_flatMap] at h;obtain ⟨n,_,h⟩:=h;have key:∀b,q ∈ Aq ag ms mo f (i+1) (p.setMove i n b)→q.first=p.first∧∀k,k<i→q.many k=p.many k∧q.lies k=p.lies k:=fun b hb=>by
   obtain ⟨a1,a2⟩:=HW f (i+1) _ q hb;refine ⟨a1,fun k hk=>?_⟩;obtain ⟨b1,b2⟩:=a2 k (by omega);exact ⟨b1.trans (if_neg (by omega)),b2.trans (if_neg (by omega))⟩
  unfold Bb at h;rcases List.mem_append.1 h with h | h
  ·exact key _ h
  ·split at h
   ·exact key _ h
   ·cases h
theorem H7 {ag:AS→Bool} {ms:List AB} {mo:Int}:∀(f i:Nat) (p q:AS),q ∈ Aq ag ms mo f i p→∀k,i+f≤k→q.many k=p.many k∧q.lies k=p.lies k
 | 0,i,p,q,h,k,_=>by
  unfold Aq at h;split at h
  ·rw [List.mem_singleton] at h;subst h;exact ⟨rfl,rfl⟩
  ·cases h
 | f+1,i,p,q,h,k,hk=>by
  rw [CO,List.mem_flatMap] at h;obtain ⟨n,_,h⟩:=h;have key:∀b,q ∈ Aq ag ms mo f (i+1) (p.setMove i n b)→q.many k=p.many k∧q.lies k=p.lies k:=fun b hb=>by
   obtain ⟨b1,b2⟩:=H7 f (i+1) _ q hb k (by omega);exact ⟨b1.trans (if_neg (by omega)),b2.trans (if_neg (by omega))⟩
  unfold Bb at h;rcases List.mem_append.1 h with h | h
  ·exact key _ h
  ·split at h
   ·exact key _ h
   ·cases h
theorem H8 {ag:AS→Bool} {gs:List Good} {ms:List AB} {mo:Int}:∀(f i:Nat) (p q:AS),q ∈ BJ ag gs ms mo f i p→(∀k,i+f≤k→q.first k=p.first k)∧∀k,ms.length≤k→q.many k=p.many k∧q.lies k=p.lies k
 | 0,i,p,q,h=>⟨fun k _=>by rw [(HW _ _ _ _ h).1],fun k hk=>H7 _ _ _ _ h k (by omega)⟩
 | f+1,i,p,q,h=>by
  rw [Cm,List.mem_flatMap] at h;obtain ⟨n,_,h⟩:=h;obtain ⟨a1,a2⟩:=H8 f (i+1) _ q h;exact ⟨fun k hk=>(a1 k (by omega)).trans (if_neg (by omega)),a2⟩
theorem Mx {d:Int} {gs:List Good} {ms:List AB} {cs:List AK} {mo:Int} {q:AS} (h:q ∈ AP d gs ms cs mo):Eb q gs.length ms.length=q:=by
 obtain ⟨a1,a2⟩:=H8 _ _ _ _ h;cases q with
 | mk fi ma li=>
  simp only [Nat.zero_add] at a1 a2;unfold Eb;congr 1
  ·funext k;by_cases hk:k<gs.length
   ·exact if_pos hk
   ·exact (if_neg hk).trans (a1 k (by omega)).symm
  ·funext k;by_cases hk:k<ms.length
   ·exact if_pos hk
   ·exact (if_neg hk).trans (a2 k (by omega)).1.symm
  ·funext k;by_cases hk:k<ms.length
   ·exact if_pos hk
   ·exact (if_neg hk).trans (a2 k (by omega)).2.symm
theorem SI (p:AS):Eb p 0 0=AS.zero:=by
 unfold Eb AS.zero;congr 1
theorem Ho {d:Int} {gs:List Good} {ms:List AB} {cs:List AK} {mo:Int} {q:AS} (h6:ms.length≤6) (h0:0≤mo) :
  q ∈ AP d gs ms cs mo↔RW gs ms mo q∧A8 d gs.length ms cs q=true∧Eb q gs.length ms.length=q:=
 ⟨fun h=>⟨(Ms h6 h0 h).1,(Ms h6 h0 h).2,Mx h⟩,fun ⟨L,ha,e⟩=>by
  have h1:=JH (ag:=A8 d gs.length ms cs) h6 L (by rw [e];exact ha) gs.length 0 (by omega);rw [e,SI] at h1;exact h1⟩
end Go.Ns
namespace Go.Ns
open Go.Conc
theorem PH {hs:List AS} {F:AS→Int} {x:Int}:x ∈ B2 hs.length (fun (i:Nat)=>F (hs.getD ((i:Int)).toNat AS.zero))↔∃p ∈ hs,F p=x:=by
 rw [Mu];constructor
 ·rintro ⟨i,hi,e⟩;exact ⟨_,Ck (show ((i:Int)).toNat<hs.length by omega),e⟩
 ·rintro ⟨p,hp,e⟩;obtain ⟨i,hi,e2⟩:=List.getElem_of_mem hp;refine ⟨i,hi,?_⟩;show F (hs.getD ((i:Int)).toNat AS.zero)=x;rw [show ((i:Int)).toNat=i by omega,Cr AS.zero hi,e2,e]
section
variable {d m:Int} {gs:List Good} {ms:List AB} {cs:List AK} {t:Nat}
end
section
variable {d m:Int} {gs:List Good} {ms:List AB} {cs:List AK} {t:Nat}
end
section
variable {d m:Int} {gs:List Good} {ms:List AB} {cs:List AK} {t:Nat}
end
section
variable {d m:Int} {gs:List Good} {ms:List AB} {cs:List AK} {t:Nat}
end
end Go.Ns
namespace Go.Ns
open Go.Conc
theorem PI {α:Type} {l:List α} {x:α} (z:α) (h:x ∈ l):∃k,k<l.length∧l.getD k z=x:=by
 obtain ⟨k,hk,e⟩:=List.getElem_of_mem h;exact ⟨k,hk,by rw [List.getD_eq_getElem?_getD,List.getElem?_eq_getElem hk];exact e⟩
def Fl (dy:Int) (t:List (Int×Int)):Int:=(t.map fun x=>if x.1≤dy then x.2 else 0).sum
theorem IY (dy:Int) (x:Int×Int) (t:List (Int×Int)):Fl dy (x ::t)=(if x.1≤dy then x.2 else 0)+Fl dy t:=by
 unfold Fl;rw [List.map_cons,List.sum_cons]
theorem IZ {dy:Int}:∀{t:List (Int×Int)},(∀x ∈ t,dy<x.1)→Fl dy t=0
 | [],_=>rfl
 | x ::t,h=>by rw [IY,if_neg (by have:=h x (by simp);omega),IZ fun y hy=>h y (by simp [hy])];rfl
theorem FB.all {c:Int}:∀{t:List (Int×Int)},FB c t→∀x ∈ t,c≤x.1
 | [],_,_,hx=>by cases hx
 | y ::t,h,x,hx=>by
  rcases List.mem_cons.1 hx with rfl | hx
  ·exact h.1
  ·have:=h.2.all x hx;have:=h.1;omega
theorem LY:∀(t:List (Int×Int)) (c n low:Int),FB c t→(0≤(G1 c n low t).2↔0≤low∧0≤n+Fl c t∧∀x ∈ t,0≤n+Fl x.1 t)
 | [],c,n,low,_=>by simp only [G1,Fl,List.map_nil,List.sum_nil];constructor <;> intro h <;> simp at * <;> omega
 | x ::t,c,n,low,h=>by
  have ha:=h.2.all;have hy:∀y ∈ t,Fl y.1 (x ::t)=x.2+Fl y.1 t:=fun y hy=>by rw [IY,if_pos (ha y hy)]
  have hx:Fl x.1 (x ::t)=x.2+Fl x.1 t:=by rw [IY,if_pos (Int.le_refl _)]
  unfold G1;by_cases e:c<x.1
  ·rw [if_pos e,LY t x.1 (n+x.2) (min n low) h.2];have h0:Fl c (x ::t)=0:=IZ fun y hy=>by
    rcases List.mem_cons.1 hy with rfl | hy
    ·exact e
    ·have:=ha y hy;omega
   rw [h0];constructor
   ·rintro ⟨a1,a2,a3⟩;refine ⟨by omega,by omega,fun y hyt=>?_⟩;rcases List.mem_cons.1 hyt with rfl | hyt
    ·rw [hx];omega
    ·rw [hy y hyt];have:=a3 y hyt;omega
   ·rintro ⟨a1,a2,a3⟩;refine ⟨by omega,?_,fun y hyt=>?_⟩
    ·have:=a3 x (by simp);rw [hx] at this;omega
    ·have:=a3 y (by simp [hyt]);rw [hy y hyt] at this;omega
  ·have ec:c=x.1:=by have:=h.1;omega
   subst ec;rw [if_neg e,LY t x.1 (n+x.2) low h.2,hx];constructor
   ·rintro ⟨a1,a2,a3⟩;refine ⟨a1,by omega,fun y hyt=>?_⟩;rcases List.mem_cons.1 hyt with rfl | hyt
    ·rw [hx];omega
    ·rw [hy y hyt];have:=a3 y hyt;omega
   ·rintro ⟨a1,a2,a3⟩;refine ⟨a1,by omega,fun y hyt=>?_⟩
    have:=a3 y (by simp [hyt]);rw [hy y hyt] at this;omega
section
variable {d m:Int} {gs:List Good} {ms:List AB} {cs:List AK}
theorem BG.day0 (b:BG d m gs ms cs) {k:Nat} (hk:k<ms.length):1≤(ms.getD k AB.z).day:=(b.move' hk).2.2.1.1
theorem BG.low_iff2 (b:BG d m gs ms cs) (p:AS) (g:Int):0≤(AH ms p g d).2↔0≤p.first g.toNat∧∀k,k<ms.length→(ms.getD k AB.z).good=g→0≤(AH ms p g (ms.getD k AB.z).day).1:=by
 have hz:∀i ∈ List.range ms.length,decide ((ms.getD i AB.z).good=g)=false→(Dw ms p g i).2=0:=fun i _ e=>by
  unfold Dw MI;dsimp only;rw [if_neg (of_decide_eq_false e)]
 have hsub:((List.range ms.length).filter fun i=>decide ((ms.getD i AB.z).good=g)).Sublist (List.range ms.length):=List.filter_sublist;have hr:=b.pairsUp p g hsub;rw [b.stock p g];unfold JE;rw [F6 hz (b.pairsUp p g (List.Sublist.refl _)),LY _ _ _ _ hr];have hs:∀k,(AH ms p g (ms.getD k AB.z).day).1=p.first g.toNat+Fl (ms.getD k AB.z).day (((List.range ms.length).filter fun i=>decide ((ms.getD i AB.z).good=g)).map (Dw ms p g)):=fun k=>by
  rw [HU b.up];congr 1;unfold Fl;rw [List.map_map,LX (q:=fun i=>decide ((ms.getD i AB.z).good=g)) (fun i _ e=>by
   unfold HT MI;rw [if_neg (of_decide_eq_false e)];simp)]
  rfl
 have h0:Fl 0 (((List.range ms.length).filter fun i=>decide ((ms.getD i AB.z).good=g)).map (Dw ms p g))=0:=IZ fun x hx=>by
  obtain ⟨k,hk,rfl⟩:=List.mem_map.1 hx
  have:=b.day0 (List.mem_range.1 (List.mem_filter.1 hk).1);unfold Dw;dsimp only;omega
 rw [h0];constructor
 ·rintro ⟨a1,_,a3⟩;exact ⟨a1,fun k hk e=>by rw [hs];exact a3 _ (List.mem_map.2 ⟨k,List.mem_filter.2 ⟨List.mem_range.2 hk,decide_eq_true e⟩,rfl⟩)⟩
 ·rintro ⟨a1,a3⟩;refine ⟨a1,by omega,fun x hx=>?_⟩;obtain ⟨k,hk,rfl⟩:=List.mem_map.1 hx;obtain ⟨hk1,hk2⟩:=List.mem_filter.1 hk
  have:=a3 k (List.mem_range.1 hk1) (of_decide_eq_true hk2)
  rw [hs] at this;exact this
theorem JJ {ng:Nat} {p:AS}:A8 d ng ms cs p=true↔(∀g,g<ng→0≤(AH ms p (g:Int) d).2)∧∀x ∈ cs,x.low≤(AH ms p x.good x.day).1∧(AH ms p x.good x.day).1≤x.high:=by
 unfold A8;rw [Bool.and_eq_true,decide_eq_true_iff,Bool.not_eq_true',List.any_eq_false];constructor
 ·rintro ⟨h1,h2⟩;exact ⟨fun g hg=>by have:=h1 g hg;omega,fun x hx=>by have:=h2 x hx;simpa using this⟩
 ·rintro ⟨h1,h2⟩;exact ⟨fun g hg=>by have:=h1 g hg;omega,fun x hx=>by have:=h2 x hx;simpa using this⟩
theorem BG.agrees_iff2 (b:BG d m gs ms cs) {p:AS}:A8 d gs.length ms cs p=true↔
  (∀g:Nat,g<gs.length→0≤p.first g)∧(∀k,k<ms.length→0≤(AH ms p (ms.getD k AB.z).good (ms.getD k AB.z).day).1)∧∀x ∈ cs,x.low≤(AH ms p x.good x.day).1∧(AH ms p x.good x.day).1≤x.high:=by
 rw [JJ]
 have:∀g:Nat,0≤(AH ms p (g:Int) d).2↔0≤p.first g∧∀k,k<ms.length→(ms.getD k AB.z).good=(g:Int)→0≤(AH ms p (g:Int) (ms.getD k AB.z).day).1:=fun g=>by rw [b.low_iff2,Int.toNat_natCast]
 simp only [this];constructor
 ·rintro ⟨h1,h2⟩;refine ⟨fun g hg=>(h1 g hg).1,fun k hk=>?_,h2⟩;have hg:=(b.move' hk).2.1;obtain ⟨g,eg⟩:=Int.eq_ofNat_of_zero_le hg.1
  have:=(h1 g (by omega)).2 k hk eg
  rw [←eg] at this;exact this
 ·rintro ⟨h1,h2,h3⟩;exact ⟨fun g hg=>⟨h1 g hg,fun k hk e=>by have:=h2 k hk;rw [e] at this;exact this⟩,h3⟩
end
end Go.Ns
namespace Go.Ns
open Go.Conc
def KU (c x:Int):Int:=if c=0 then x else 0
def G2 {α:Type} (c:Int) (l:List α):List α:=if c=0 then l else []
theorem RY {c x:Int} (h:c=0):KU c x=x:=if_pos h
theorem H9 {c x:Int} (h:¬c=0):KU c x=0:=if_neg h
theorem My {α:Type} {c:Int} {l:List α} (h:c=0):G2 c l=l:=if_pos h
theorem Fm {α:Type} {c:Int} {l:List α} (h:¬c=0):G2 c l=[]:=if_neg h
def Ae (d m:Int) (gs:List Good) (ms:List AB) (cs:List AK):Int:=if AM d m gs ms cs=0 then (if B5 d gs ms cs m=true then 0 else 9) else AM d m gs ms cs
theorem D9 (a:ByteArray):(a==a)=true:=by
 cases a with
 | mk d=>show (d==d)=true;simp
def BL (a b:Int):Int:=if a=0 then b else a
theorem Ia {a b:Int} (h:a=0):BL a b=b:=if_pos h
theorem Te {a b:Int} (h:¬a=0):BL a b=a:=if_neg h
theorem LZ {a b:Int} (h:¬a=0):¬BL a b=0:=by rw [Te h];exact h
theorem Dx.leL {h ha h1:GH} {v w:Value} (l:h.Le ha) (g:Dx ha h1 v w):Dx h h1 v w:=
 ⟨fun b o hb hv=>g.1 b o (l.get hb) hv,g.2.imp id fun ⟨⟨r,e,hr⟩,k⟩=>⟨⟨r,e,l.nothing hr⟩,fun b o hb=>k b o (l.get hb)⟩⟩
section
variable {d m:Int} {gs:List Good} {ms ms2:List AB} {cs cs2:List AK}
theorem Tf (h:¬AM d m gs ms cs=0):Ae d m gs ms cs=AM d m gs ms cs:=if_neg h
theorem Nx (h:AM d m gs ms cs=0) (h2:B5 d gs ms cs m=false):Ae d m gs ms cs=9:=by unfold Ae;rw [if_pos h,if_neg (by rw [h2];decide)]
theorem Ib (h:AM d m gs ms cs=0) (h2:B5 d gs ms cs m=true):Ae d m gs ms cs=0:=by unfold Ae;rw [if_pos h,if_pos h2]
theorem JK (h:¬AM d m gs ms cs=0):¬Ae d m gs ms cs=0:=by rw [Tf h];exact h
theorem JL (h:AM d m gs ms cs=0) (h2:B5 d gs ms cs m=false):¬Ae d m gs ms cs=0:=by rw [Nx h h2];decide
theorem RZ {α:Type}:∀{l l1:List α},l.Nodup→(∀x ∈ l,x ∈ l1)→l.length≤l1.length
 | [],_,_,_=>Nat.zero_le _
 | a ::t,l1,hn,hs=>by
  obtain ⟨s,u,rfl⟩:=List.append_of_mem (hs a (List.mem_cons_self ..))
  have:=RZ (l1:=s++u) (List.nodup_cons.1 hn).2 fun x hx=>by
   have h1:=hs x (List.mem_cons_of_mem _ hx);rw [List.mem_append] at h1 ⊢;rcases h1 with h | h
   ·exact .inl h
   ·rcases List.mem_cons.1 h with rfl | h
    ·exact absurd hx (List.nodup_cons.1 hn).1
    ·exact .inr h
  simp only [List.length_append,List.length_cons] at this ⊢;omega
end
end Go.Ns
namespace Go.Ns
open Go.Conc
abbrev Eo (kd g d n:Int):AB:=⟨kd,g,d,n,n⟩
def B1 (kd n:Int):Int:=signed kd.toNat n
def JM (l:Nat) (n:Int) (q:AS):AS:={ q with many:=fun k=>if k=l then n else q.many k }
structure D2 (d m:Int) (gs:List Good) (ms:List AB) (cs:List AK) (kd g n:Int):Prop where
 b:BG d m gs ms cs
 six:ms.length<6
 kind:1≤kd∧kd≤4
 hg:0≤g∧g<(gs.length:Int)
 hn:0≤n∧n≤99
 cnt:∀x ∈ cs,x.day<d
 back:kd=4→∀k,k<ms.length→¬((ms.getD k AB.z).good=g∧(ms.getD k AB.z).day=d)
theorem EQ {α:Type} {l:List α} {x z:α} {k:Nat} (h:k<l.length):(l++[x]).getD k z=l.getD k z:=by
 rw [List.getD_eq_getElem?_getD,List.getElem?_append_left h,←List.getD_eq_getElem?_getD]
theorem FV {α:Type} {l:List α} {x z:α}:(l++[x]).getD l.length z=x:=by
 rw [List.getD_eq_getElem?_getD,List.getElem?_append_right (Nat.le_refl _)];simp
section
variable {d m:Int} {gs:List Good} {ms:List AB} {cs:List AK} {kd g n:Int}
theorem D2.book (E:D2 d m gs ms cs kd g n):BG d m gs (ms++[Eo kd g d n]) cs:=by
 have b:=E.b;refine ⟨b.days,b.most,b.glen,b.good,by have:=E.six;simp;omega,fun k hk=>?_,b.clen,b.count⟩;rw [List.length_append,List.length_singleton] at hk;by_cases e:k<ms.length
 ·obtain ⟨g1,g2,g3,g4,g5⟩:=b.move' e;have hl:CT (ms++[Eo kd g d n]) k=CT ms k:=by unfold CT;rw [EQ (by omega)]
  refine Jh ?_ ?_ ?_ ?_ ?_ <;> rw [EQ e]
  ·exact g1
  ·exact g2
  ·exact g3
  ·rw [hl];exact g4
  ·exact g5
 ·obtain rfl:k=ms.length:=by omega
  have h1:=E.kind;have h2:=E.hg;have h3:=E.hn;have h4:=b.days;refine Jh ?_ ?_ ?_ ?_ ?_ <;> rw [FV] <;> show _
  ·show 0≤kd∧kd≤4;omega
  ·show 0≤g∧g≤_;omega
  ·show 1≤d∧d≤d;omega
  ·show CT _ _≤d;unfold CT;split
   ·omega
   ·rw [EQ (by omega)];exact (b.move' (by omega)).2.2.1.2
  ·show CM n n;unfold CM;omega
theorem D2.fst (E:D2 d m gs ms cs kd g n) {q q':AS} (hf:∀i,q'.first i=q.first i) (hr:∀k,k<ms.length→BV q' k=BV q k) (hl:BV q' ms.length=n) (gg dy:Int) :
  (AH (ms++[Eo kd g d n]) q' gg dy).1=(AH ms q gg dy).1+if gg=g∧d≤dy then B1 kd n else 0:=by
 rw [HU E.book.up,HU E.b.up,hf,List.length_append,List.length_singleton,List.range_succ,List.map_append,List.sum_append,List.map_singleton,List.sum_singleton];have h1:(List.range ms.length).map (HT (ms++[Eo kd g d n]) q' gg dy)=(List.range ms.length).map (HT ms q gg dy):=List.map_congr_left fun k hk=>by
  have hk:=List.mem_range.1 hk;unfold HT MI;rw [EQ hk,hr k hk]
 have h2:HT (ms++[Eo kd g d n]) q' gg dy ms.length=if gg=g∧d≤dy then B1 kd n else 0:=by
  unfold HT MI;rw [FV,hl];show (if d≤dy then (if g=gg then signed kd.toNat n else 0) else 0)=_;by_cases h:d≤dy
  ·by_cases h':g=gg
   ·rw [if_pos h,if_pos h',if_pos ⟨h'.symm,h⟩];rfl
   ·rw [if_pos h,if_neg h',if_neg fun q=>h' q.1.symm]
  ·rw [if_neg h,if_neg fun q=>h q.2]
 rw [h1,h2];omega
theorem HX (h:1≤kd∧kd≤4) (h4:kd≠4):B1 kd n= -n:=by
 unfold B1 signed;rw [if_neg (by omega)]
theorem HY (h:kd=4):B1 kd n=n:=by subst h;rfl
theorem D2.agrees (E:D2 d m gs ms cs kd g n) {q q':AS} (hf:∀i,q'.first i=q.first i) (hr:∀k,k<ms.length→BV q' k=BV q k) (hl:BV q' ms.length=n) :
  A8 d gs.length (ms++[Eo kd g d n]) cs q'=true↔A8 d gs.length ms cs q=true∧0≤(AH ms q g d).1+B1 kd n:=by
 rw [E.book.agrees_iff2,E.b.agrees_iff2];have st:=E.fst hf hr hl;have hc:∀x ∈ cs,(AH (ms++[Eo kd g d n]) q' x.good x.day).1=(AH ms q x.good x.day).1:=fun x hx=>by
  rw [st,if_neg (by have:=E.cnt x hx;omega)];omega
 have hk0:∀k,k<ms.length→(AH (ms++[Eo kd g d n]) q' ((ms++[Eo kd g d n]).getD k AB.z).good ((ms++[Eo kd g d n]).getD k AB.z).day).1=(AH ms q (ms.getD k AB.z).good (ms.getD k AB.z).day).1+if (ms.getD k AB.z).good=g∧d≤(ms.getD k AB.z).day then B1 kd n else 0:=fun k hk=>by
  rw [EQ hk,st]
 have hkl:(AH (ms++[Eo kd g d n]) q' ((ms++[Eo kd g d n]).getD ms.length AB.z).good ((ms++[Eo kd g d n]).getD ms.length AB.z).day).1=(AH ms q g d).1+B1 kd n:=by
  rw [FV,st];show (AH ms q g d).1+(if g=g∧d≤d then B1 kd n else 0)=_;rw [if_pos ⟨rfl,Int.le_refl _⟩]
 constructor
 ·rintro ⟨h1,h2,h3⟩;refine ⟨⟨fun i hi=>by rw [←hf];exact h1 i hi,fun k hk=>?_,fun x hx=>by rw [←hc x hx];exact h3 x hx⟩,?_⟩
  ·have:=h2 k (by simp;omega)
   rw [hk0 k hk] at this;split at this
   ·rename_i hh
    have hd:=(E.b.move' hk).2.2.1.2;have h4:kd≠4:=fun e=>E.back e k hk ⟨hh.1,by omega⟩;rw [HX E.kind h4] at this
    have:=E.hn;omega
   ·omega
  ·have:=h2 ms.length (by simp)
   rw [hkl] at this;exact this
 ·rintro ⟨⟨h1,h2,h3⟩,h4⟩;refine ⟨fun i hi=>by rw [hf];exact h1 i hi,fun k hk=>?_,fun x hx=>by rw [hc x hx];exact h3 x hx⟩;rw [List.length_append,List.length_singleton] at hk;by_cases e:k<ms.length
  ·rw [hk0 k e];split
   ·rename_i hh
    have hd:=(E.b.move' e).2.2.1.2;rw [hh.1,show (ms.getD k AB.z).day=d by omega];exact h4
   ·have:=h2 k e;omega
  ·obtain rfl:k=ms.length:=by omega
   rw [hkl];exact h4
theorem PJ {q:AS} {k:Nat} (hk:k<ms.length):BV (JM ms.length n q) k=BV q k:=by
 unfold BV JM;dsimp only;rw [if_neg (by omega:¬k=ms.length)]
theorem PK {q:AS} (h:q.lies ms.length=false):BV (JM ms.length n q) ms.length=n:=by
 unfold BV JM;dsimp only;rw [h,if_pos rfl];rfl
theorem La {mo:Int} {q:AS} (h:q ∈ AP d gs ms cs mo) {k:Nat} (hk:ms.length≤k):q.lies k=false:=by
 have e:=Mx h;rw [←e];unfold Eb;dsimp only;rw [if_neg (by omega)]
theorem D2.mem (E:D2 d m gs ms cs kd g n) {q':AS}:q' ∈ AP d gs (ms++[Eo kd g d n]) cs m↔∃q ∈ AP d gs ms cs m,q'=JM ms.length n q∧0≤(AH ms q g d).1+B1 kd n:=by
 have hlen:(ms++[Eo kd g d n]).length=ms.length+1:=by simp
 have hno:CZ (ms++[Eo kd g d n]) (ms.length:Int)=false:=by
  unfold CZ;rw [Int.toNat_natCast,FV];refine decide_eq_false fun q=>?_;have h1:kd=0:=q.2
  have:=E.kind;omega
 have hnk:∀k,k<ms.length→CZ (ms++[Eo kd g d n]) (k:Int)=CZ ms (k:Int):=fun k hk=>by
  unfold CZ;rw [Int.toNat_natCast,EQ hk,hlen];refine decide_eq_decide.2 ⟨fun q=>⟨by omega,q.2⟩,fun q=>⟨by omega,q.2⟩⟩
 rw [Ho E.book.mlen E.b.most.1,hlen];constructor
 ·rintro ⟨L,ha,e⟩;have hll:q'.lies ms.length=false:=by
   cases hq:q'.lies ms.length with
   | false=>rfl
   | true=>have:=L.note ms.length (by rw [hlen];omega) hq;rw [hno] at this;cases this
  have hml:q'.many ms.length=n:=by
   have:=L.many ms.length (by rw [hlen];omega);rw [FV] at this
   have h1:n≤q'.many ms.length:=this.1;have h2:q'.many ms.length≤n:=this.2;omega
  have e1:∀k,q'.first k=if k<gs.length then q'.first k else 0:=fun k=>congrFun (congrArg AS.first e.symm) k
  have e2:∀k,q'.many k=if k<ms.length+1 then q'.many k else 0:=fun k=>congrFun (congrArg AS.many e.symm) k
  have e3:∀k,q'.lies k=if k<ms.length+1 then q'.lies k else false:=fun k=>congrFun (congrArg AS.lies e.symm) k
  have hx:q'=JM ms.length n (Eb q' gs.length ms.length):=by
   obtain ⟨f,y,l⟩:=q';unfold JM Eb;dsimp only at *;congr 1
   ·funext k;exact e1 k
   ·funext k;by_cases h1:k=ms.length
    ·subst h1;rw [if_pos rfl];exact hml
    ·rw [if_neg h1,e2 k];by_cases h2:k<ms.length
     ·rw [if_pos h2,if_pos (by omega)]
     ·rw [if_neg h2,if_neg (by omega)]
   ·funext k;by_cases h2:k<ms.length
    ·rw [if_pos h2]
    ·rw [if_neg h2];by_cases h1:k=ms.length
     ·subst h1;exact hll
     ·rw [e3 k,if_neg (by omega)]
  have hr:∀k,k<ms.length→BV q' k=BV (Eb q' gs.length ms.length) k:=fun k hk=>(SG q' hk).symm;have hf:∀i,q'.first i=(Eb q' gs.length ms.length).first i:=e1;have hl:BV q' ms.length=n:=by unfold BV;rw [hll];exact hml
  obtain ⟨ha1,ha2⟩:=(E.agrees hf hr hl).1 ha;refine ⟨Eb q' gs.length ms.length,(Ho E.b.mlen E.b.most.1).2 ⟨⟨fun i hi=>?_,fun i hi=>?_,fun i hi hq=>?_,?_⟩,ha1,?_⟩,hx,ha2⟩
  ·have:=L.first i hi;rw [hf] at this;exact this
  ·have:=L.many i (by rw [hlen];omega)
   rw [EQ hi] at this;show _≤(if i<ms.length then q'.many i else 0)∧(if i<ms.length then q'.many i else 0)≤_;rw [if_pos hi];exact this
  ·rw [←hnk i hi];refine L.note i (by rw [hlen];omega) ?_
   have:(if i<ms.length then q'.lies i else false)=true:=hq
   rw [if_pos hi] at this;exact this
  ·have h1:=L.few;rw [hlen] at h1;have h2:An (Eb q' gs.length ms.length) ms.length=An q' ms.length:=D1 fun k hk=>by
    show (if k<ms.length then q'.lies k else false)=_;rw [if_pos hk]
   have h3:=FL q' (show ms.length≤ms.length+1 by omega);rw [h2];omega
  ·unfold Eb;congr 1
   ·funext k;dsimp only;split <;> rfl
   ·funext k;dsimp only;split <;> rfl
   ·funext k;dsimp only;split <;> rfl
 ·rintro ⟨q,hq,rfl,hs⟩;have hlies:=fun k hk=>La hq (k:=k) hk;obtain ⟨L,ha,e⟩:=(Ho E.b.mlen E.b.most.1).1 hq;have e1:∀k,q.first k=if k<gs.length then q.first k else 0:=fun k=>congrFun (congrArg AS.first e.symm) k
  have e2:∀k,q.many k=if k<ms.length then q.many k else 0:=fun k=>congrFun (congrArg AS.many e.symm) k
  refine ⟨⟨L.first,fun i hi=>?_,fun i hi hq=>?_,?_⟩,(E.agrees (q:=q) (q':=JM ms.length n q) (fun _=>rfl) (fun k hk=>PJ hk) (PK (hlies _ (Nat.le_refl _)))).2 ⟨ha,hs⟩,?_⟩
  ·rw [hlen] at hi;show _≤(if i=ms.length then n else q.many i)∧(if i=ms.length then n else q.many i)≤_;by_cases h1:i=ms.length
   ·subst h1;rw [FV,if_pos rfl];exact ⟨Int.le_refl n,Int.le_refl n⟩
   ·rw [if_neg h1,EQ (by omega)];exact L.many i (by omega)
  ·rw [hlen] at hi;have hq:q.lies i=true:=hq;by_cases h1:i=ms.length
   ·rw [h1,hlies _ (Nat.le_refl _)] at hq;cases hq
   ·rw [hnk i (by omega)];exact L.note i (by omega) hq
  ·have h2:An (JM ms.length n q) (ms.length+1)=An q ms.length:=
    (F8 (p:=JM ms.length n q) (i:=ms.length) (n:=ms.length+1) (fun k h1 _=>hlies k h1) (by omega)).trans (D1 fun _ _=>rfl)
   rw [hlen,h2];exact L.few
  ·unfold Eb JM;congr 1
   ·funext k;exact (e1 k).symm
   ·funext k;dsimp only;by_cases h1:k=ms.length
    ·rw [if_pos h1,if_pos (by omega)]
    ·rw [if_neg h1,e2 k];by_cases h2:k<ms.length
     ·rw [if_pos h2,if_pos (by omega)]
     ·rw [if_neg h2,ite_self]
   ·funext k;dsimp only;by_cases h2:k<ms.length+1
    ·rw [if_pos h2]
    ·rw [if_neg h2];exact (hlies k (by omega)).symm
def CG (s:Int) (l:List Int) (k:Nat):List Int:=((l.take k).map (·+s)).filter fun x=>decide (0≤x)
theorem JN {s:Int} {l:List Int} {k:Nat} (hk:k<l.length) (h:0≤l.getD k 0+s):CG s l (k+1)=CG s l k++[l.getD k 0+s]:=by
 unfold CG;rw [EK 0 hk,List.map_append,List.filter_append,List.map_singleton,List.filter_cons,if_pos (decide_eq_true h)];rfl
theorem JO {s:Int} {l:List Int} {k:Nat} (hk:k<l.length) (h:¬0≤l.getD k 0+s):CG s l (k+1)=CG s l k:=by
 unfold CG;rw [EK 0 hk,List.map_append,List.filter_append,List.map_singleton,List.filter_cons,if_neg (fun q=>h (of_decide_eq_true q))];exact List.append_nil _
theorem Lb (s:Int) (l:List Int) (k:Nat):(CG s l k).length≤k:=by
 unfold CG;have h1:=List.length_filter_le (fun x=>decide (0≤x)) ((l.take k).map (·+s));rw [List.length_map,List.length_take] at h1;omega
theorem Ec (b:BG d m gs ms cs) {g dy x:Int} (hg:0≤g∧g<gs.length) (hd:0≤dy∧dy≤d) (hne:AP d gs ms cs m≠[]):x ∈ A6 d m gs ms cs g dy↔∃q ∈ AP d gs ms cs m,(AH ms q g dy).1=x:=by
 have h0:¬(AP d gs ms cs m).length=0:=fun e=>hne (List.eq_nil_of_length_eq_zero e);unfold A6;rw [if_pos (by rw [FU b hg hd,if_neg h0])];exact PH (F:=fun p=>(AH ms p g dy).1)
theorem JP (g dy:Int):(A6 d m gs ms cs g dy).Pairwise (· < ·):=by
 unfold A6;split
 ·exact Mw _ _
 ·exact .nil
theorem Lc {s x:Int} {l:List Int}:x ∈ CG s l l.length↔0≤x∧∃y ∈ l,y+s=x:=by
 unfold CG;rw [List.take_length,List.mem_filter,List.mem_map,decide_eq_true_iff];exact and_comm
theorem Tg {s:Int} {l:List Int} (h:l.Pairwise (· < ·)):(CG s l l.length).Pairwise (· < ·):=by
 unfold CG;rw [List.take_length];exact (List.pairwise_map.2 (h.imp fun q=>by omega)).filter _
abbrev JQ (d m:Int) (gs:List Good) (ms:List AB) (cs:List AK) (kd g n:Int):List Int:=CG (B1 kd n) (A6 d m gs ms cs g d) (A6 d m gs ms cs g d).length
theorem D2.none (E:D2 d m gs ms cs kd g n) (h:(AP d gs ms cs m).length=0):AP d gs (ms++[Eo kd g d n]) cs m=[]:=by
 refine List.eq_nil_iff_forall_not_mem.2 fun q' hq=>?_;obtain ⟨q,hq,_⟩:=E.mem.1 hq;rw [List.eq_nil_of_length_eq_zero h] at hq;cases hq
theorem D2.want (E:D2 d m gs ms cs kd g n) (h:¬(AP d gs ms cs m).length=0):(JQ d m gs ms cs kd g n).length=0↔AP d gs (ms++[Eo kd g d n]) cs m=[]:=by
 have hne:AP d gs ms cs m≠[]:=fun e=>h (by rw [e];rfl);have hd:=E.b.days;constructor
 ·intro h0;refine List.eq_nil_iff_forall_not_mem.2 fun q' hq=>?_;obtain ⟨q,hq,_,hs⟩:=E.mem.1 hq
  have:(AH ms q g d).1+B1 kd n ∈ JQ d m gs ms cs kd g n:=Lc.2 ⟨hs,_,(Ec E.b E.hg ⟨by omega,Int.le_refl _⟩ hne).2 ⟨q,hq,rfl⟩,rfl⟩
  rw [List.eq_nil_of_length_eq_zero h0] at this;cases this
 ·intro h0;refine List.length_eq_zero_iff.2 (List.eq_nil_iff_forall_not_mem.2 fun x hx=>?_);obtain ⟨hx0,y,hy,e⟩:=Lc.1 hx;obtain ⟨q,hq,e2⟩:=(Ec E.b E.hg ⟨by omega,Int.le_refl _⟩ hne).1 hy
  have:JM ms.length n q ∈ AP d gs (ms++[Eo kd g d n]) cs m:=E.mem.2 ⟨q,hq,rfl,by rw [e2,e];exact hx0⟩
  rw [h0] at this;cases this
theorem D2.ext (E:D2 d m gs ms cs kd g n) {q:AS} (hq:q ∈ AP d gs ms cs m) (gg dy:Int):(AH (ms++[Eo kd g d n]) (JM ms.length n q) gg dy).1=(AH ms q gg dy).1+if gg=g∧d≤dy then B1 kd n else 0:=
 E.fst (q:=q) (q':=JM ms.length n q) (fun _=>rfl) (fun k hk=>PJ hk) (PK (La hq (Nat.le_refl _))) gg dy
theorem D2.left (E:D2 d m gs ms cs kd g n) (h:¬(AP d gs ms cs m).length=0) (h2:¬AP d gs (ms++[Eo kd g d n]) cs m=[]):A6 d m gs (ms++[Eo kd g d n]) cs g d=JQ d m gs ms cs kd g n:=by
 have hne:AP d gs ms cs m≠[]:=fun e=>h (by rw [e];rfl);have hd:=E.b.days;refine RX (JP g d) (Tg (JP g d)) fun x=>?_;rw [Ec E.book E.hg ⟨by omega,Int.le_refl _⟩ h2,Lc];constructor
 ·rintro ⟨q',hq',e⟩;obtain ⟨q,hq,rfl,hs⟩:=E.mem.1 hq';rw [E.ext hq,if_pos ⟨rfl,Int.le_refl _⟩] at e;exact ⟨by omega,_,(Ec E.b E.hg ⟨by omega,Int.le_refl _⟩ hne).2 ⟨q,hq,rfl⟩,e⟩
 ·rintro ⟨hx,y,hy,e⟩;obtain ⟨q,hq,e2⟩:=(Ec E.b E.hg ⟨by omega,Int.le_refl _⟩ hne).1 hy;exact ⟨_,E.mem.2 ⟨q,hq,rfl,by omega⟩,by rw [E.ext hq,if_pos ⟨rfl,Int.le_refl _⟩];omega⟩
theorem D2.early (E:D2 d m gs ms cs kd g n) (h:¬(AP d gs ms cs m).length=0) (h2:¬AP d gs (ms++[Eo kd g d n]) cs m=[]) {dy:Int} (hdy:0≤dy∧dy<d):∀x ∈ A6 d m gs (ms++[Eo kd g d n]) cs g dy,x ∈ A6 d m gs ms cs g dy:=fun x hx=>by
 have hne:AP d gs ms cs m≠[]:=fun e=>h (by rw [e];rfl);obtain ⟨q',hq',e⟩:=(Ec E.book E.hg ⟨by omega,by omega⟩ h2).1 hx;obtain ⟨q,hq,rfl,hs⟩:=E.mem.1 hq';rw [E.ext hq,if_neg (by omega)] at e;exact (Ec E.b E.hg ⟨by omega,by omega⟩ hne).2 ⟨q,hq,by omega⟩
theorem D2.backs (E:D2 d m gs ms cs kd g n) (h:¬(AP d gs ms cs m).length=0) (h2:¬AP d gs (ms++[Eo kd g d n]) cs m=[]) {dy:Int} (hdy:0≤dy∧dy<d) (h4:kd=4):A6 d m gs ms cs g dy=A6 d m gs (ms++[Eo kd g d n]) cs g dy:=by
 have hne:AP d gs ms cs m≠[]:=fun e=>h (by rw [e];rfl);have h1:=E.b.days;refine RX (JP g dy) (JP g dy) fun x=>⟨fun hx=>?_,E.early h h2 hdy x⟩;obtain ⟨q,hq,e⟩:=(Ec E.b E.hg ⟨by omega,by omega⟩ hne).1 hx;have hs:0≤(AH ms q g d).1:=by
  have ha:=((Ho E.b.mlen E.b.most.1).1 hq).2.1;have hl:=(JJ.1 ha).1 g.toNat (by have:=E.hg;omega);rw [Int.toNat_of_nonneg E.hg.1] at hl;have hr:=LT (JE ms q g) 0 (q.first g.toNat) (q.first g.toNat);rw [E.b.stock q g] at hl ⊢;omega
 exact (Ec E.book E.hg ⟨by omega,by omega⟩ h2).2 ⟨_,E.mem.2 ⟨q,hq,rfl,by rw [HY h4];have:=E.hn;omega⟩,by rw [E.ext hq,if_neg (by omega)];omega⟩
theorem VC (b:BG d m gs ms cs) (h6:ms.length<6) (hk:1≤kd∧kd≤4) (hg:0≤g∧g<(gs.length:Int)) (hn:0≤n∧n≤99) {j:Nat} (_:j≤cs.length) (hc:∀i,i<j→¬(cs.getD i AK.z).day=d) (hj:cs.length≤j)
  {j2:Nat} (_:j2≤ms.length) (hm:∀i,i<j2→¬(kd=4∧(ms.getD i AB.z).good=g∧(ms.getD i AB.z).day=d)) (hj2:ms.length≤j2):D2 d m gs ms cs kd g n:=
 ⟨b,h6,hk,hg,hn,fun x hx=>by
  obtain ⟨i,hi,e⟩:=PI AK.z hx;have h1:=hc i (by omega);have h2:=b.count i hi;rw [e] at h1;unfold D5 at h2;split at h2
  ·cases h2
  split at h2
  ·cases h2
  rename_i q
  rw [e] at q
  omega,fun e i hi q=>hm i (by omega) ⟨e,q.1,q.2⟩⟩
theorem SJ (n:Nat) (f:Nat→Int):(B2 n f).length≤n:=by
 have h:=RZ (l:=B2 n f) (l1:=(List.range n).map f) ((Mw n f).imp fun q=>by omega) fun x hx=>by
  obtain ⟨i,hi,e⟩:=Mu.1 hx;exact List.mem_map.2 ⟨i,List.mem_range.2 hi,e⟩
 rwa [List.length_map,List.length_range] at h
theorem Mz (d m:Int) (gs:List Good) (ms:List AB) (cs:List AK) (g dy:Int):(A6 d m gs ms cs g dy).length≤(AP d gs ms cs m).length:=by
 unfold A6;split
 ·exact SJ _ _
 ·exact Nat.zero_le _
theorem J6 (b:BG d m gs ms cs) {g dy:Int} (k:Nat): -693≤(A6 d m gs ms cs g dy).getD k 0∧(A6 d m gs ms cs g dy).getD k 0≤693:=by
 by_cases hk:k<(A6 d m gs ms cs g dy).length
 ·have hm:=Ck (d:=(0:Int)) hk
  have:∀x ∈ A6 d m gs ms cs g dy,-693≤x∧x≤693:=fun x hx=>by
   unfold A6 at hx;split at hx
   ·obtain ⟨q,hq,e⟩:=(PH (F:=fun p=>(AH ms p g dy).1)).1 hx;obtain ⟨k,_,rfl⟩:=PI AS.zero hq
    have:=Eu (ms:=ms) (g:=g) (dy:=dy) (EY b m k) b.mlen
    omega
   ·cases hx
  exact this _ hm
 ·rw [Dj (by omega)];decide
end
end Go.Ns
namespace Go.Ns
open Go.Conc
section
variable {P:Program} {Post:Value→World→Prop}
def Ra (P:Program) (Post:Value→World→Prop):Wk P:=⟨true,DB P Post,Hv⟩
theorem Ny:LO (Ra P Post):=⟨Post,rfl⟩
theorem SK {f:FuncId} {fn:Func} {c:Code} {args:Array Value} {h:GH} {R:Value→GH→Prop} (hf:P.funcs[f]? =some fn) (hb:fn.body=some c) (hsz:args.size≤fn.ntmps) (hin:P.inits.idxOf? f=none) (hpost:∀v h',R v h'→∀w,C8 w h'→Post v w)
  (x:Tr ⟨Ra P Post,f,none,fn.ntmps⟩ c (fun i=>args.getD i undef) [] h (fun e σ ds h'=>(e=.normal∨e=.ret)∧FD P fn σ R ds h')):DB P Post (G (Frame.enter P f args .normal) []) h:=by
 have e0:Frame.enter P f args .normal=CH (Frame.enter P f args .normal) (args++Array.replicate (fn.ntmps-args.size) undef) [] [.code c]:=by
  simp [Frame.enter,CH,hf,hb]
 rw [e0];let L:Lv:=fun j t ds h'=>(j=none∨j=some .ret)∧∃σ,Bc t fn.ntmps σ∧FD P fn σ R ds h';have fin:∀σ ds h' t k,Bc t fn.ntmps σ→FD P fn σ R ds h'→(Ra P Post).K (G (C0 (Frame.enter P f args .normal) t ds k) []) h':=by
  intro σ ds h' t k hs ho;refine Js (W:=Ra P Post) (R:=R) hf (b:=Frame.enter P f args .normal) rfl (fun t k v h h' hr hrun=>?_) ds h' t k hs ho;refine Pn rfl fun w fw=>?_;obtain ⟨w',es,r1,r2⟩:=hrun w fw;refine ⟨v,w',seen P f es++ #[],h',?_,r2.sub (es':=seen P f es++ #[]) fun e he=>?_,hpost v h' hr w' r2.fits⟩
  ·rw [IE];unfold unwind;have hfn:(C0 (Frame.enter P f args .normal) t [] k).fn=f:=rfl;have hk:(C0 (Frame.enter P f args .normal) t [] k).kind=.normal:=rfl;have hm:(C0 (Frame.enter P f args .normal) t [] k).mode=.returning:=rfl;have hd:(C0 (Frame.enter P f args .normal) t [] k).defers=[]:=rfl;have ht:(C0 (Frame.enter P f args .normal) t [] k).tmps=t:=rfl;simp only [hd,hm,hfn,hf,ht,r1,GStep.after,doReturn,hk,hin];rfl
  ·rw [Array.append_empty] at he;exact mem_seen he
 refine x (Frame.enter P f args .normal) [] [] L _ rfl rfl ⟨?_,?_,?_⟩ ⟨by simp;omega,fun i=>?_⟩ ?_
 ·rintro t ds h' ⟨_,σ,hs,ho⟩;exact Wk.go (C0 (Frame.enter P f args .normal) t ds []) (fun w=>by rw [A0];simp [stepG.exec,CH,C0,G,Frame.enter]) (fin σ ds h' t [] hs ho)
 ·rintro t ds h' k ⟨_,σ,hs,ho⟩;exact Wk.go (C0 (Frame.enter P f args .normal) t ds (.code .ret ::k)) (fun w=>by rw [A0];simp [stepG.exec,CH,C0,G,Frame.enter]) (fin σ ds h' t _ hs ho)
 ·rintro id t ds h' k _ ⟨h1 | h1,_⟩ <;> cases h1
 ·by_cases hi:i<args.size
  ·simp [Array.getD_eq_getD_getElem?,Array.getElem?_append_left hi]
  ·simp only [Array.getD_eq_getD_getElem?];rw [Array.getElem?_append_right (by omega),Array.getElem?_eq_none (show args.size≤i by omega),Array.getElem?_replicate];split <;> rfl
 ·rintro e σ ds h' ⟨he,ho⟩ t' ht';rcases he with rfl | rfl
  ·exact Wk.go (C0 (Frame.enter P f args .normal) t' ds []) (fun w=>by rw [A0];simp [stepG.exec,CH,C0,G,Frame.enter]) (fin σ ds h' t' [] ht' ho)
  ·exact ⟨.inr rfl,σ,ht',ho⟩
def GH.of (W:World):GH:=fun b=>(W.heap[b]?).map fun o=>(false,o)
theorem GH.of_some {W:World} {b:Nat} {o:Obj} (h:W.heap[b]? =some o):GH.of W b=some (false,o):=by unfold GH.of;rw [h];rfl
theorem Uc (W:World):C8 W (GH.of W):=fun b p o h=>by
 unfold GH.of at h;cases e:W.heap[b]? with
 | none=>rw [e] at h;cases h
 | some x=>rw [e] at h;cases h;rfl
theorem Ud {W w:World} {h:GH} (l:(GH.of W).Le h) (f:C8 w h) {b:Nat} {o:Obj} (hb:W.heap[b]? =some o):w.heap[b]? =some o:=f b _ _ (l.keep (GH.of_some hb) rfl)
theorem Qe {g:Goroutine} {W:World} (hg:DB P Post g (GH.of W)):Ba P (Gb Post W.os W.output) (solo g W) #[]:=by
 have hno:∀k a,touchAt (#[]:Trace) k=some a→False:=fun k a h=>by
  obtain ⟨op,h1,_⟩:=touch_of h;simp at h1
 refine hg #[g] W none (fun _=>0) #[] ⟨rfl,?_,Uc W,?_,?_,fun k a b hk=>(hno k a hk).elim,?_,fun k a hk=>(hno k a hk).elim,fun b p o k a _ _ hk=>(hno k a hk).elim⟩
 ·intro j x hj hx;rw [Array.getElem?_eq_none (by simp;omega)] at hx;cases hx
 ·intro op hop;simp at hop
 ·rintro said ⟨i,j,hij,⟨a,b,ha,_⟩,_⟩;exact hno i a ha
 ·intro op hop;simp at hop
end
end Go.Ns
namespace Go.Ns
open Go.Conc Go.ChangeShapes Go.WideShapes Go.ChangeAt Go.RowKit
section
variable {P:Program} {W:World}
theorem Qf {b off n:Nat} {cs:List Value} (h:W.cells? 0 ⟨b,off,none⟩ n=some cs) (hn:0<n):Aa (GH.of W) b off n cs.toArray:=by
 obtain ⟨_,hl,hc⟩:=World.cells?_some h;have hcell:∀i,i<n→W.cell? ⟨b,off+i,none⟩=cs[i]? :=fun i hi=>by
  have:=hc i hi
  unfold Addr.add at this;split at this
  ·rename_i e;subst e;exact this
  ·exact this
 have h0:=hcell 0 hn;unfold World.cell? at h0;cases hb:W.heap[b]? with
 | none=>simp [hb,List.getElem?_eq_getElem (show 0<cs.length by omega)] at h0
 | some o=>
  cases o with
  | cells c t f=>
   have hall:∀i,i<n→c[off+i]? =cs[i]? :=fun i hi=>by
    have:=hcell i hi
    unfold World.cell? at this;simpa [hb] using this
   have hlast:=hall (n-1) (by omega);rw [List.getElem?_eq_getElem (show n-1<cs.length by omega)] at hlast;have hsz:=(Array.getElem?_eq_some_iff.1 hlast).1;refine ⟨false,c,t,f,GH.of_some hb,by omega,?_⟩;apply Array.ext
   ·simp;omega
   ·intro i h1 h2;have hi:i<n:=by simp at h2;omega
    have:=hall i hi
    rw [Array.getElem?_eq_getElem (by omega),List.getElem?_eq_getElem (by omega)] at this;simpa using this
  | _=>simp [hb,List.getElem?_eq_getElem (show 0<cs.length by omega)] at h0
def Rb (P:Program) (e:TypeId) {α:Type} (enc:α→Array Value) (good:α→Prop):Prop:=
 ∀{H:Type} (en:TypeId×Value→H) (W:World) (base:Nat) (sp:Nat→Bool) (held:Bool) (fuel:Nat) (cs:List Value) (x:DataW H×List MemPlace),DataW.trod en P W base sp held fuel e cs=some x→∃a:α,cs=(enc a).toList∧good a
theorem Nz {H:Type} {en:TypeId×Value→H} {sp:Nat→Bool} {held:Bool} {fuel:Nat} {t e:TypeId} {n:Nat} {α:Type} {enc:α→Array Value} {good:α→Prop} {v:Value} {d:DataW H} {ps:List MemPlace} (ht:P.underlying t=some (.slice e)) (hc:P.cellsOf e=n) (hn:0<n)
  (ho:Rb P e enc good) (h:DataW.trod en P W 0 sp held fuel t [v]=some (d,ps)) (hw:∀es rs,d=.slice es rs→es.length≤140737488355328):∃xs:List α,AN (GH.of W) v n enc xs∧∀x ∈ xs,good x:=by
 rcases DataW.trod_slice ht h with ⟨h1,_⟩ | ⟨a,len,cap,elems,rest,m,rfl,h1,h2,_,hl,_,hlen,hel,_,_⟩
 ·simp at h1;subst h1;exact ⟨[],AN.nil _ _ _,fun x hx=>by cases hx⟩
 ·simp only [List.cons.injEq,and_true] at h1;subst h1;simp only [Prod.mk.injEq] at h2;have hlim:len≤140737488355328:=by
   have:=hw _ _ h2.1
   simpa [hlen] using this
  have each:∀i,i<len→∃x:α,∃b off,a=⟨b,off,none⟩∧Aa (GH.of W) b (off+i*n) n (enc x)∧good x:=fun i hi=>by
   have:=hel i hi
   rw [List.getElem?_eq_getElem (by omega),hc] at this;simp only [Option.bind_eq_some_iff] at this;obtain ⟨cs,hcs,hx⟩:=this;obtain ⟨x,e1,e2⟩:=ho _ _ _ _ _ _ _ _ hx;have hc0:=(World.cells?_some hcs).2.2 0 hn;have hlen2:=(World.cells?_some hcs).2.1;rw [List.getElem?_eq_getElem (show 0<cs.length by omega)] at hc0;have hsp:=World.cell?_spot hc0;obtain ⟨b,off,spot⟩:=a;have hspot:spot=none∨i≠0:=by
    by_cases e0:i=0
    ·subst e0;left;simpa [Addr.add] using hsp
    ·exact .inr e0
   have hfirst:spot=none:=by
    rcases hspot with e | e
    ·exact e
    ·have h00:=hel 0 (by omega);rw [List.getElem?_eq_getElem (by omega),hc] at h00;simp only [Option.bind_eq_some_iff] at h00;obtain ⟨c0,hc00,_⟩:=h00;have z:=(World.cells?_some hc00).2.2 0 hn;have zl:=(World.cells?_some hc00).2.1;rw [List.getElem?_eq_getElem (show 0<c0.length by omega)] at z
     have:=World.cell?_spot z
     simpa [Addr.add] using this
   subst hfirst;refine ⟨x,b,off,rfl,?_,e2⟩;have ea:(Addr.add ⟨b,off,none⟩ (i*n))=⟨b,off+i*n,none⟩:=by
    unfold Addr.add;split
    ·rename_i e;rw [e];rfl
    ·rfl
   rw [ea] at hcs
   have:=Qf hcs hn
   rw [e1] at this;simpa using this
  by_cases hz:len=0
  ·subst hz;exact ⟨[],⟨some a,cap,rfl,Nat.zero_le _,Nat.zero_le _,fun i hi=>by simp at hi⟩,fun x hx=>by cases hx⟩
  ·have hch:∀i:Fin len,∃x:α,∃b off,a=⟨b,off,none⟩∧Aa (GH.of W) b (off+i.val*n) n (enc x)∧good x:=fun i=>each i.val i.isLt;refine ⟨List.ofFn fun i=>Classical.choose (hch i),⟨some a,cap,by rw [List.length_ofFn],by rw [List.length_ofFn];exact hl,by rw [List.length_ofFn];exact hlim,fun i hi=>?_⟩,fun x hx=>?_⟩
   ·rw [List.length_ofFn] at hi;obtain ⟨b,off,e1,e2,_⟩:=Classical.choose_spec (hch ⟨i,hi⟩);refine ⟨b,off,by rw [e1],?_⟩;rw [List.getElem_ofFn];exact e2
   ·obtain ⟨i,rfl⟩:=List.mem_ofFn.1 hx;obtain ⟨_,_,_,_,e3⟩:=Classical.choose_spec (hch i);exact e3
theorem GX {H:Type} {en:TypeId×Value→H} {t:TypeId} (hl:laidOutB P=true) (hr:P.readableRec t=true) (hrow:t<P.types.size) {W':World} {v:Value} {d:DataW H} {ps:List MemPlace} (h:DataW.Trod en P W 0 (fun _=>true) true t v d ps)
  (hk:∀(b:Nat) (o:Obj),W.heap[b]? =some o→W'.heap[b]? =some o) (hlt:∀x ∈ ps,x.block<W.heap.size):DataW.Trod en P W' 0 (fun b=>decide (b<W.heap.size)) true t v d ps:=by
 let W2:World:={ W' with os:=W.os,tape:=W.tape,output:=W.output };have hsz:W.heap.size≤W'.heap.size:=by
  rcases Nat.lt_or_ge W'.heap.size W.heap.size with x | x
  ·have:=hk W'.heap.size _ (Array.getElem?_eq_getElem x)
   rw [Array.getElem?_eq_none (Nat.le_refl _)] at this;cases this
  ·exact x
 have hb:Below W.heap.size W W2:=⟨rfl,rfl,rfl,hsz,fun k hk'=>by
  show W'.heap[k]? =_;rw [Array.getElem?_eq_getElem hk'];exact hk k _ (Array.getElem?_eq_getElem hk')⟩
 exact DataW.Trod.of_heap (w:=W2) (w':=W') rfl (Below.trod hl hr hrow h hb hlt)
theorem Th {W':World} (hk:∀(b:Nat) (o:Obj),W.heap[b]? =some o→W'.heap[b]? =some o) (ho:W'.os=W.os) (hp:W'.output=W.output) (may:MemPlace→Prop):W.keptBut W' may:=by
 refine ⟨ho,hp,fun i hi=>?_⟩;rw [hk i _ (Array.getElem?_eq_getElem hi),Array.getElem?_eq_getElem hi];split <;> simp_all
end
end Go.Ns
namespace Go.Ns
open Go.Conc
universe u
theorem Z {α:Sort u} {a:α}:a=a:=rfl
theorem Lr {h:GH}:GH.Le h h:=GH.Le.refl h
theorem Ln {h h':GH} (l:h.Le h') {r:Nat} (hr:h' r=none):h r=none:=l.nothing hr
theorem Cg {h:GH} {b r:Nat} {p:Bool} {o:Obj} (hb:h b=some (p,o)) (hr:h r=none):b≠r:=GH.ne_of hb hr
theorem Nb {a b:Nat} (h:Nat.ble a b=true):a≤b:=Nat.le_of_ble_eq_true h
theorem Dn {p:Prop} [Decidable p] (h:¬¬p):p:=Decidable.not_not.1 h
theorem Et {α:Sort u} {a b c:α} (x:a=b) (y:b=c):a=c:=x.trans y
theorem Kl {h0 h:GH} (k:DH (fun b=>h0 b=none) h0 h):h0.Le h:=k.leOf
theorem Bx {h:GH} {b:Nat} {p:Bool} {c:Array Value} {t:TypeId} {f:Nat×Nat} (hb:h b=some (p,.cells c t f)) {n:Nat} (hn:c.size=n):Aa h b 0 n c:=Aa.box hb hn
abbrev lE (v:Value):Fv:=fun _ u _=>u=v
abbrev lF (v:Value):Lx:=fun u _=>u=v
abbrev zP:Array Value:=#[.int .i64 0,.int .i64 0,.slice none 0 0,.slice none 0 0,.slice none 0 0,.slice none 0 0,.map none]
section
variable {P:Program} {E:FN P} {σ:Nat→Value} {ds:List Deferred} {h:GH} {Q:Post} {T:(Nat→Value)→List Deferred→GH→Prop}
variable {dst:Option Nat} {ty:TypeId} {pos:String} {af:Array Edge} {ops:Array Oper} {o:Oper} {l:List Oper}
theorem Sq {x y:Code} (a:Tr E x σ ds h (fun e σ' ds' h'=>match e with | .normal=>Tr E y σ' ds' h' Q | e=>Q e σ' ds' h')):Tr E (.seq x y) σ ds h Q:=BF a
theorem Rg {id:Nat} {l:List Oper} (a:DS E l.toArray l σ ds h Q):Tr E (.region id l.toArray false) σ ds h Q:=At a
theorem Nl (q:Q .normal σ ds h):DS E ops [] σ ds h Q:=A7 q
abbrev Rt:=@IC
abbrev Bk:=@ET
abbrev Sk:=@C9
abbrev Xt:=@Ii
def Ti (N:Nat) (o:Oper):Bool:=o.guard.isNone && !DN o.op && Df o.dst N
theorem Pl (hp:Ti E.N o=true) (x:Bd E o σ ds h fun σ' ds' h'=>DS E ops l σ' ds' h' Q):DS E ops (o ::l) σ ds h Q:=by
 simp only [Ti,Bool.and_eq_true,Option.isNone_iff_eq_none,Bool.not_eq_true'] at hp;exact AC hp.1.1 hp.1.2 hp.2 x
theorem Mv {x:Operand} (v:Value) (hp:Df dst E.N=true) (hx:AV σ x=v) (k:DS E ops l (putS σ dst v) ds h Q):DS E ops (⟨dst,.move x,ty,pos,af,none⟩ ::l) σ ds h Q:=AC rfl rfl hp (AA hx k)
theorem As {x:Operand} (v:Value) (hp:Df dst E.N=true) (hx:AV σ x=v) (k:DS E ops l (putS σ dst v) ds h Q):DS E ops (⟨dst,.assign x,ty,pos,af,none⟩ ::l) σ ds h Q:=AC rfl rfl hp (Ax hx k)
theorem Ld {t:TypeId} {x:Operand} {b off:Nat} (v:Value) (hp:Df dst E.N=true) (hx:AV σ x=.pointer (some ⟨b,off,none⟩)) (hr:Rd P h t b off v) (k:DS E ops l (putS σ dst v) ds h Q):DS E ops (⟨dst,.load t x,ty,pos,af,none⟩ ::l) σ ds h Q:=
 AC rfl rfl hp (AF hx hr k)
theorem Fa {s:TypeId} {x:Operand} {f o b off:Nat} (hf:C1 P s f=some o) (hp:Df dst E.N=true) (hx:AV σ x=.pointer (some ⟨b,off,none⟩)) (k:DS E ops l (putS σ dst (.pointer (some ⟨b,off+o,none⟩))) ds h Q) :
  DS E ops (⟨dst,.fieldAddr s x f,ty,pos,af,none⟩ ::l) σ ds h Q:=AC rfl rfl hp (AI hf hx k)
theorem Pk {c a b:Operand} (t:Bool) (v:Value) (hp:Df dst E.N=true) (hc:AV σ c=.bool t) (hv:(if t then AV σ a else AV σ b)=v) (k:DS E ops l (putS σ dst v) ds h Q):DS E ops (⟨dst,.pick c a b,ty,pos,af,none⟩ ::l) σ ds h Q:=
 AC rfl rfl hp (A3 hc hv k)
theorem Ad {xt yt:TypeId} {x y:Operand} (a b:Int) (hp:Df dst E.N=true) (hx:AV σ x=.int .i64 a) (hy:AV σ y=.int .i64 b) (hr: -9223372036854775808≤a+b∧a+b≤9223372036854775807) (k:DS E ops l (putS σ dst (.int .i64 (a+b))) ds h Q) :
  DS E ops (⟨dst,.binOp .add xt x y yt,ty,pos,af,none⟩ ::l) σ ds h Q:=AC rfl rfl hp (Bw hx hy hr k)
def Us (N:Nat) (ops:Array Oper) (o:Oper) (j d:Nat) (is:Bool):Bool:=(match o.guard with
 | some (i,w)=>i==j && w !=is
 | none=>false) && (match ops[j]? with
 | some oj=>(match oj.dst with
  | some e=>e==d
  | none=>false)
 | none=>false) && Nat.blt d N && Df o.dst N
theorem Gs (j d:Nat) {is:Bool} (hv:σ d=.bool is) (hs:Us E.N ops o j d is=true) (x:DS E ops l (putS σ o.dst undef) ds h Q):DS E ops (o ::l) σ ds h Q:=by
 simp only [Us,Bool.and_eq_true] at hs;obtain ⟨⟨⟨h1,h2⟩,h3⟩,h4⟩:=hs;cases hg:o.guard with
 | none=>rw [hg] at h1;cases h1
 | some q=>
  obtain ⟨i,w⟩:=q;rw [hg] at h1;simp only [Bool.and_eq_true,beq_iff_eq,bne_iff_ne,ne_eq] at h1;obtain ⟨rfl,hne⟩:=h1;cases hj:ops[i]? with
  | none=>rw [hj] at h2;cases h2
  | some oj=>
   cases hd:oj.dst with
   | none=>simp [hj,hd] at h2
   | some e=>
    obtain rfl:e=d:=by simpa [hj,hd] using h2
    exact B9 hg hj hd hv h3 hne h4 x
def V8 (N:Nat) (ops:Array Oper) (o:Oper) (j d:Nat) (is:Bool):Bool:=(match o.guard with
 | some (i,w)=>i==j && w==is
 | none=>false) && (match ops[j]? with
 | some oj=>(match oj.dst with
  | some e=>e==d
  | none=>false)
 | none=>false) && Nat.blt d N && !DN o.op && Df o.dst N
theorem Gg (j d:Nat) {is:Bool} (hv:σ d=.bool is) (hs:V8 E.N ops o j d is=true) (x:Bd E o σ ds h fun σ' ds' h'=>DS E ops l σ' ds' h' Q):DS E ops (o ::l) σ ds h Q:=by
 simp only [V8,Bool.and_eq_true,Bool.not_eq_true'] at hs;obtain ⟨⟨⟨⟨h1,h2⟩,h3⟩,h5⟩,h4⟩:=hs;cases hg:o.guard with
 | none=>rw [hg] at h1;cases h1
 | some q=>
  obtain ⟨i,w⟩:=q;rw [hg] at h1;simp only [Bool.and_eq_true,beq_iff_eq] at h1;obtain ⟨rfl,rfl⟩:=h1;cases hj:ops[i]? with
  | none=>rw [hj] at h2;cases h2
  | some oj=>
   cases hd:oj.dst with
   | none=>simp [hj,hd] at h2
   | some e=>
    obtain rfl:e=d:=by simpa [hj,hd] using h2
    exact Bf hg hj hd hv h3 (.inr h5) h4 x
end
section
variable {S:Nat→Prop} {Pre:Nat→GH→Prop} {Φ:List Fv} {cl:List Nat} {k d:Nat} {h h':GH} {σ:Nat→Value} {ds:List Deferred} {v:Value}
theorem fS (p:El Φ k (putS σ (some d) v) v h):ds=ds∧St (DH S) Pre Φ cl k h h∧∃w,putS σ (some d) v=putS σ (some d) w∧El Φ k (putS σ (some d) v) w h∧((some d:Option Nat)=none→w=undef):=
 ⟨rfl,St.same,_,rfl,p,fun e=>by cases e⟩
theorem fT (l:h.Le h') (m:Cs GH.Le Φ) (p:El Φ k (putS σ (some d) v) v h'):ds=ds∧St (DH S) (fun _ _=>True) Φ cl k h h'∧∃w,putS σ (some d) v=putS σ (some d) w∧El Φ k (putS σ (some d) v) w h'∧((some d:Option Nat)=none→w=undef):=
 ⟨rfl,St.ofLe l m (fun _ _ _ _ _=>trivial),_,rfl,p,fun e=>by cases e⟩
theorem fL {Φ:List Lx} (p:Io Φ k v h):ds=ds∧GH.Le h h∧∃w,putS σ (some d) v=putS σ (some d) w∧Io Φ k w h:=⟨rfl,GH.Le.refl _,_,rfl,p⟩
theorem L1 {R:GH→GH→Prop} {a:Value} (x:Cs R Φ):Cs R (lE a ::Φ):=⟨fun _ _ _ _ _ y=>y,x⟩
theorem L2 {R:GH→GH→Prop} {a b:Value} (x:Cs R Φ):Cs R (lE a ::lE b ::Φ):=L1 (L1 x)
theorem L4 {R:GH→GH→Prop} {a b c d:Value} (x:Cs R Φ):Cs R (lE a ::lE b ::lE c ::lE d ::Φ):=L2 (L2 x)
theorem L8 {R:GH→GH→Prop} {a b c d a' b' c' d':Value} (x:Cs R Φ):Cs R (lE a ::lE b ::lE c ::lE d ::lE a' ::lE b' ::lE c' ::lE d' ::Φ):=L4 (L4 x)
theorem K1 {R:GH→GH→Prop} {Φ:List Lx} {a:Value} (x:EE R Φ):EE R (lF a ::Φ):=⟨fun _ _ _ _ y=>y,x⟩
theorem K2 {R:GH→GH→Prop} {Φ:List Lx} {a b:Value} (x:EE R Φ):EE R (lF a ::lF b ::Φ):=K1 (K1 x)
theorem K4 {R:GH→GH→Prop} {Φ:List Lx} {a b c d:Value} (x:EE R Φ):EE R (lF a ::lF b ::lF c ::lF d ::Φ):=K2 (K2 x)
theorem K8 {R:GH→GH→Prop} {Φ:List Lx} {a b c d a' b' c' d':Value} (x:EE R Φ):EE R (lF a ::lF b ::lF c ::lF d ::lF a' ::lF b' ::lF c' ::lF d' ::Φ):=K4 (K4 x)
end
theorem Dk {P:Program} {E:FN P} {S:Nat→Prop} {id:Nat} {l:List Oper} {σ:Nat→Value} {ds:List Deferred} {h:GH} {Q:Post} {Φ:List Fv} (_:Cs GH.Le Φ) (n:Nat) (cls:List (List Nat)) (Pre:Nat→GH→Prop)
  (hm:P.follows .mixedOrders=true) (ok:D4 E.N l n cls=true) (p0:∀k,k<n→Pre k h) (ind:NV l n cls Φ) (x:GI (DH S) Pre E l n Φ σ ds h Q n 0 l cls):Tr E (.region id l.toArray true) σ ds h Q:=
 Me n cls Φ Pre hm ok p0 ind x
end Go.Ns
namespace Go.Ns.Fx
open Go.Conc Go.Proofs
theorem app102_102:Hx Tryz.prog 102 102=some (27,1,24):=by kernel_rfl
theorem app105_105:Hx Tryz.prog 105 105=some (119,15,80):=by kernel_rfl
theorem app22_22:Hx Tryz.prog 22 22=some (99,5,48):=by kernel_rfl
theorem app23_23:Hx Tryz.prog 23 23=some (75,5,40):=by kernel_rfl
theorem app24_24:Hx Tryz.prog 24 24=some (79,4,32):=by kernel_rfl
theorem app27_27:Hx Tryz.prog 27 27=some (3,1,8):=by kernel_rfl
theorem arr117:RE Tryz.prog 117=some (6,false,1):=by kernel_rfl
theorem arr135:RE Tryz.prog 135=some (4,false,1):=by kernel_rfl
theorem asz115:Ju Tryz.prog 115=some (3,1):=by kernel_rfl
theorem asz116:Ju Tryz.prog 116=some (6,1):=by kernel_rfl
theorem asz117:Ju Tryz.prog 117=some (6,1):=by kernel_rfl
theorem asz174:Ju Tryz.prog 174=some (5,2):=by kernel_rfl
theorem call100:AT Tryz.f100=true:=by kernel_rfl
theorem call101:AT Tryz.f101=true:=by kernel_rfl
theorem call102:AT Tryz.f102=true:=by kernel_rfl
theorem call105:AT Tryz.f105=true:=by kernel_rfl
theorem call106:AT Tryz.f106=true:=by kernel_rfl
theorem call108:AT Tryz.f108=true:=by kernel_rfl
theorem call109:AT Tryz.f109=true:=by kernel_rfl
theorem call110:AT Tryz.f110=true:=by kernel_rfl
theorem call114:AT Tryz.f114=true:=by kernel_rfl
theorem call115:AT Tryz.f115=true:=by kernel_rfl
theorem call116:AT Tryz.f116=true:=by kernel_rfl
theorem call117:AT Tryz.f117=true:=by kernel_rfl
theorem call118:AT Tryz.f118=true:=by kernel_rfl
theorem call119:AT Tryz.f119=true:=by kernel_rfl
theorem call12:AT Tryz.f12=true:=by kernel_rfl
theorem call120:AT Tryz.f120=true:=by kernel_rfl
theorem call126:AT Tryz.f126=true:=by kernel_rfl
theorem Vl:AT Tryz.f127=true:=by kernel_rfl
theorem call128:AT Tryz.f128=true:=by kernel_rfl
theorem call129:AT Tryz.f129=true:=by kernel_rfl
theorem call13:AT Tryz.f13=true:=by kernel_rfl
theorem call136:AT Tryz.f136=true:=by kernel_rfl
theorem call137:AT Tryz.f137=true:=by kernel_rfl
theorem call138:AT Tryz.f138=true:=by kernel_rfl
theorem call139:AT Tryz.f139=true:=by kernel_rfl
theorem call14:AT Tryz.f14=true:=by kernel_rfl
theorem call140:AT Tryz.f140=true:=by kernel_rfl
theorem call142:AT Tryz.f142=true:=by kernel_rfl
theorem call143:AT Tryz.f143=true:=by kernel_rfl
theorem call144:AT Tryz.f144=true:=by kernel_rfl
theorem call145:AT Tryz.f145=true:=by kernel_rfl
theorem call146:AT Tryz.f146=true:=by kernel_rfl
theorem call147:AT Tryz.f147=true:=by kernel_rfl
theorem call148:AT Tryz.f148=true:=by kernel_rfl
theorem call149:AT Tryz.f149=true:=by kernel_rfl
theorem call151:AT Tryz.f151=true:=by kernel_rfl
theorem call152:AT Tryz.f152=true:=by kernel_rfl
theorem call153:AT Tryz.f153=true:=by kernel_rfl
theorem call154:AT Tryz.f154=true:=by kernel_rfl
theorem call155:AT Tryz.f155=true:=by kernel_rfl
theorem call156:AT Tryz.f156=true:=by kernel_rfl
theorem call157:AT Tryz.f157=true:=by kernel_rfl
theorem call158:AT Tryz.f158=true:=by kernel_rfl
theorem call159:AT Tryz.f159=true:=by kernel_rfl
theorem call16:AT Tryz.f16=true:=by kernel_rfl
theorem call160:AT Tryz.f160=true:=by kernel_rfl
theorem call161:AT Tryz.f161=true:=by kernel_rfl
theorem call162:AT Tryz.f162=true:=by kernel_rfl
theorem call163:AT Tryz.f163=true:=by kernel_rfl
theorem call164:AT Tryz.f164=true:=by kernel_rfl
theorem call165:AT Tryz.f165=true:=by kernel_rfl
theorem call166:AT Tryz.f166=true:=by kernel_rfl
theorem call167:AT Tryz.f167=true:=by kernel_rfl
theorem call168:AT Tryz.f168=true:=by kernel_rfl
theorem call170:AT Tryz.f170=true:=by kernel_rfl
theorem call171:AT Tryz.f171=true:=by kernel_rfl
theorem call172:AT Tryz.f172=true:=by kernel_rfl
theorem call173:AT Tryz.f173=true:=by kernel_rfl
theorem call174:AT Tryz.f174=true:=by kernel_rfl
theorem call175:AT Tryz.f175=true:=by kernel_rfl
theorem call176:AT Tryz.f176=true:=by kernel_rfl
theorem call177:AT Tryz.f177=true:=by kernel_rfl
theorem call18:AT Tryz.f18=true:=by kernel_rfl
theorem call194:AT Tryz.f194=true:=by kernel_rfl
theorem call195:AT Tryz.f195=true:=by kernel_rfl
theorem call196:AT Tryz.f196=true:=by kernel_rfl
theorem call197:AT Tryz.f197=true:=by kernel_rfl
theorem call198:AT Tryz.f198=true:=by kernel_rfl
theorem call199:AT Tryz.f199=true:=by kernel_rfl
theorem call20:AT Tryz.f20=true:=by kernel_rfl
theorem call200:AT Tryz.f200=true:=by kernel_rfl
theorem call201:AT Tryz.f201=true:=by kernel_rfl
theorem call202:AT Tryz.f202=true:=by kernel_rfl
theorem call203:AT Tryz.f203=true:=by kernel_rfl
theorem call204:AT Tryz.f204=true:=by kernel_rfl
theorem call22:AT Tryz.f22=true:=by kernel_rfl
theorem call23:AT Tryz.f23=true:=by kernel_rfl
theorem call25:AT Tryz.f25=true:=by kernel_rfl
theorem call26:AT Tryz.f26=true:=by kernel_rfl
theorem call29:AT Tryz.f29=true:=by kernel_rfl
theorem call31:AT Tryz.f31=true:=by kernel_rfl
theorem call33:AT Tryz.f33=true:=by kernel_rfl
theorem call35:AT Tryz.f35=true:=by kernel_rfl
theorem call37:AT Tryz.f37=true:=by kernel_rfl
theorem call40:AT Tryz.f40=true:=by kernel_rfl
theorem call41:AT Tryz.f41=true:=by kernel_rfl
theorem call42:AT Tryz.f42=true:=by kernel_rfl
theorem call56:AT Tryz.f56=true:=by kernel_rfl
theorem call58:AT Tryz.f58=true:=by kernel_rfl
theorem call59:AT Tryz.f59=true:=by kernel_rfl
theorem call60:AT Tryz.f60=true:=by kernel_rfl
theorem call61:AT Tryz.f61=true:=by kernel_rfl
theorem call62:AT Tryz.f62=true:=by kernel_rfl
theorem call63:AT Tryz.f63=true:=by kernel_rfl
theorem call65:AT Tryz.f65=true:=by kernel_rfl
theorem call73:AT Tryz.f73=true:=by kernel_rfl
theorem call74:AT Tryz.f74=true:=by kernel_rfl
theorem call75:AT Tryz.f75=true:=by kernel_rfl
theorem call76:AT Tryz.f76=true:=by kernel_rfl
theorem call77:AT Tryz.f77=true:=by kernel_rfl
theorem call78:AT Tryz.f78=true:=by kernel_rfl
theorem call79:AT Tryz.f79=true:=by kernel_rfl
theorem call80:AT Tryz.f80=true:=by kernel_rfl
theorem call81:AT Tryz.f81=true:=by kernel_rfl
theorem call82:AT Tryz.f82=true:=by kernel_rfl
theorem call83:AT Tryz.f83=true:=by kernel_rfl
theorem call88:AT Tryz.f88=true:=by kernel_rfl
theorem call89:AT Tryz.f89=true:=by kernel_rfl
theorem call90:AT Tryz.f90=true:=by kernel_rfl
theorem call92:AT Tryz.f92=true:=by kernel_rfl
theorem call93:AT Tryz.f93=true:=by kernel_rfl
theorem call94:AT Tryz.f94=true:=by kernel_rfl
theorem call95:AT Tryz.f95=true:=by kernel_rfl
theorem call98:AT Tryz.f98=true:=by kernel_rfl
theorem call99:AT Tryz.f99=true:=by kernel_rfl
theorem eqg31:Tryz.prog.eqGuardType Tryz.prog.depth 31=false:=by kernel_rfl
theorem eqg75:Tryz.prog.eqGuardType Tryz.prog.depth 75=false:=by kernel_rfl
theorem eqg79:Tryz.prog.eqGuardType Tryz.prog.depth 79=false:=by kernel_rfl
theorem eqg99:Tryz.prog.eqGuardType Tryz.prog.depth 99=false:=by kernel_rfl
theorem esz102:Dc Tryz.prog 102=some 1:=by kernel_rfl
theorem esz105:Dc Tryz.prog 105=some 15:=by kernel_rfl
theorem esz165:Dc Tryz.prog 165=some 1:=by kernel_rfl
theorem esz22:Dc Tryz.prog 22=some 5:=by kernel_rfl
theorem esz23:Dc Tryz.prog 23=some 5:=by kernel_rfl
theorem esz230:Dc Tryz.prog 230=some 1:=by kernel_rfl
theorem esz24:Dc Tryz.prog 24=some 4:=by kernel_rfl
theorem esz27:Dc Tryz.prog 27=some 1:=by kernel_rfl
theorem V9:Dc Tryz.prog 55=some 1:=by kernel_rfl
theorem fld104_0:C1 Tryz.prog 104 0=some 0:=by kernel_rfl
theorem fld108_0:C1 Tryz.prog 108 0=some 0:=by kernel_rfl
theorem fld108_1:C1 Tryz.prog 108 1=some 5:=by kernel_rfl
theorem fld108_2:C1 Tryz.prog 108 2=some 6:=by kernel_rfl
theorem fld119_0:C1 Tryz.prog 119 0=some 0:=by kernel_rfl
theorem fld119_1:C1 Tryz.prog 119 1=some 3:=by kernel_rfl
theorem fld119_2:C1 Tryz.prog 119 2=some 9:=by kernel_rfl
theorem fld173_1:C1 Tryz.prog 173 1=some 1:=by kernel_rfl
theorem fld26_0:C1 Tryz.prog 26 0=some 0:=by kernel_rfl
theorem fld26_1:C1 Tryz.prog 26 1=some 1:=by kernel_rfl
theorem fld26_2:C1 Tryz.prog 26 2=some 2:=by kernel_rfl
theorem fld26_3:C1 Tryz.prog 26 3=some 3:=by kernel_rfl
theorem fld26_4:C1 Tryz.prog 26 4=some 4:=by kernel_rfl
theorem fld31_0:C1 Tryz.prog 31 0=some 0:=by kernel_rfl
theorem fld31_1:C1 Tryz.prog 31 1=some 1:=by kernel_rfl
theorem fld75_0:C1 Tryz.prog 75 0=some 0:=by kernel_rfl
theorem fld75_1:C1 Tryz.prog 75 1=some 1:=by kernel_rfl
theorem fld75_2:C1 Tryz.prog 75 2=some 2:=by kernel_rfl
theorem fld75_3:C1 Tryz.prog 75 3=some 3:=by kernel_rfl
theorem fld79_0:C1 Tryz.prog 79 0=some 0:=by kernel_rfl
theorem fld79_1:C1 Tryz.prog 79 1=some 1:=by kernel_rfl
theorem fld79_2:C1 Tryz.prog 79 2=some 2:=by kernel_rfl
theorem fld99_0:C1 Tryz.prog 99 0=some 0:=by kernel_rfl
theorem fld99_1:C1 Tryz.prog 99 1=some 1:=by kernel_rfl
theorem fld99_2:C1 Tryz.prog 99 2=some 2:=by kernel_rfl
theorem fld99_3:C1 Tryz.prog 99 3=some 3:=by kernel_rfl
theorem infs27:(Tryz.prog.info? 27).isSome=true:=by kernel_rfl
theorem infz27:(Tryz.prog.info? 27).map (·.zero)=some (some (.slice none 0 0)):=by kernel_rfl
theorem kind188:JX Tryz.prog 188=some .u64:=by kernel_rfl
theorem kind204:JX Tryz.prog 204=some .u64:=by kernel_rfl
theorem kind3:JX Tryz.prog 3=some .i64:=by kernel_rfl
theorem kind5:JX Tryz.prog 5=some .u8:=by kernel_rfl
theorem map106:Hy Tryz.prog 106=some (168,3):=by kernel_rfl
theorem map159:Hy Tryz.prog 159=some (3,3):=by kernel_rfl
theorem mck106:∀a:UP,S2 Tryz.prog 3 168 (Ht a)=true:=by intros;kernel_rfl
theorem mcn159:∀a:Int,S2 Tryz.prog 3 3 (Da a)=true:=by intros;kernel_rfl
theorem men159:∀a b:Int,Lt Tryz.prog 3 3 (Da a) (Da b)=some (a==b):=by intros;kernel_rfl
theorem meq106:∀a b:UP,Lt Tryz.prog 3 168 (Ht a) (Ht b)=some (a.1==b.1 && (a.2.1==b.2.1 && (a.2.2==b.2.2 && true))):=by intros;kernel_rfl
theorem mixed:Tryz.prog.follows .mixedOrders=true:=by kernel_rfl
theorem mz106:(Tryz.prog.info? 3).bind (·.zero)=some (.int .i64 0):=by kernel_rfl
theorem mz159:(Tryz.prog.info? 3).bind (·.zero)=some (.int .i64 0):=by kernel_rfl
theorem pl104:Di Tryz.prog 104=some [(0,5)]:=by kernel_rfl
theorem pl108:Di Tryz.prog 108=some [(0,5),(5,1),(6,1)]:=by kernel_rfl
theorem pl119:Di Tryz.prog 119=some [(0,3),(3,6),(9,6)]:=by kernel_rfl
theorem pl168:Di Tryz.prog 168=some [(0,1),(1,1),(2,1)]:=by kernel_rfl
theorem pl26:Di Tryz.prog 26=some [(0,1),(1,1),(2,1),(3,1),(4,1)]:=by kernel_rfl
theorem pl31:Di Tryz.prog 31=some [(0,1),(1,1)]:=by kernel_rfl
theorem pl75:Di Tryz.prog 75=some [(0,1),(1,1),(2,1),(3,2)]:=by kernel_rfl
theorem pl79:Di Tryz.prog 79=some [(0,1),(1,1),(2,2)]:=by kernel_rfl
theorem pl99:Di Tryz.prog 99=some [(0,1),(1,1),(2,1),(3,2)]:=by kernel_rfl
theorem s2b9_230:S0 Tryz.prog 9 230=some 5:=by kernel_rfl
theorem sel102:Dd Tryz.prog 102=some (1,#[.slice none 0 0],27):=by kernel_rfl
theorem sel105:Dd Tryz.prog 105=some (15,#[.int .i64 0,.int .i64 0,.int .i64 0,.int .i64 0,.int .i64 0,.int .i64 0,.int .i64 0,.int .i64 0,.int .i64 0,.bool false,.bool false,.bool false,.bool false,.bool false,.bool false],119):=by kernel_rfl
theorem sel165:Dd Tryz.prog 165=some (1,#[.int .i64 0],32):=by kernel_rfl
theorem sel22:Dd Tryz.prog 22=some (5,#[.string ⟨#[]⟩,.int .i64 0,.int .i64 0,.int .i64 0,.int .i64 0],99):=by kernel_rfl
theorem sel23:Dd Tryz.prog 23=some (5,#[.int .i64 0,.int .i64 0,.int .i64 0,.int .i64 0,.int .i64 0],75):=by kernel_rfl
theorem sel24:Dd Tryz.prog 24=some (4,#[.int .i64 0,.int .i64 0,.int .i64 0,.int .i64 0],79):=by kernel_rfl
theorem sel27:Dd Tryz.prog 27=some (1,#[.int .i64 0],3):=by kernel_rfl
theorem sl102:IG Tryz.prog 102=true:=by kernel_rfl
theorem sl105:IG Tryz.prog 105=true:=by kernel_rfl
theorem sl165:IG Tryz.prog 165=true:=by kernel_rfl
theorem sl22:IG Tryz.prog 22=true:=by kernel_rfl
theorem sl23:IG Tryz.prog 23=true:=by kernel_rfl
theorem sl230:IG Tryz.prog 230=true:=by kernel_rfl
theorem sl24:IG Tryz.prog 24=true:=by kernel_rfl
theorem sl27:IG Tryz.prog 27=true:=by kernel_rfl
theorem WM:IG Tryz.prog 55=true:=by kernel_rfl
theorem str9:Ke Tryz.prog 9=true:=by kernel_rfl
theorem ty102:B8 Tryz.prog 102=some (false,1):=by kernel_rfl
theorem ty104:B8 Tryz.prog 104=some (true,5):=by kernel_rfl
theorem ty105:B8 Tryz.prog 105=some (false,1):=by kernel_rfl
theorem ty106:B8 Tryz.prog 106=some (false,1):=by kernel_rfl
theorem ty108:B8 Tryz.prog 108=some (true,7):=by kernel_rfl
theorem ty117:B8 Tryz.prog 117=some (true,6):=by kernel_rfl
theorem ty119:B8 Tryz.prog 119=some (true,15):=by kernel_rfl
theorem ty120:B8 Tryz.prog 120=some (false,1):=by kernel_rfl
theorem ty135:B8 Tryz.prog 135=some (true,4):=by kernel_rfl
theorem ty138:B8 Tryz.prog 138=some (false,1):=by kernel_rfl
theorem ty147:B8 Tryz.prog 147=some (false,1):=by kernel_rfl
theorem ty168:B8 Tryz.prog 168=some (true,3):=by kernel_rfl
theorem WA:B8 Tryz.prog 179=some (false,1):=by kernel_rfl
theorem ty181:B8 Tryz.prog 181=some (false,1):=by kernel_rfl
theorem ty204:B8 Tryz.prog 204=some (false,1):=by kernel_rfl
theorem ty22:B8 Tryz.prog 22=some (false,1):=by kernel_rfl
theorem ty23:B8 Tryz.prog 23=some (false,1):=by kernel_rfl
theorem ty24:B8 Tryz.prog 24=some (false,1):=by kernel_rfl
theorem ty26:B8 Tryz.prog 26=some (true,5):=by kernel_rfl
theorem ty27:B8 Tryz.prog 27=some (false,1):=by kernel_rfl
theorem ty3:B8 Tryz.prog 3=some (false,1):=by kernel_rfl
theorem ty31:B8 Tryz.prog 31=some (true,2):=by kernel_rfl
theorem ty32:B8 Tryz.prog 32=some (false,1):=by kernel_rfl
theorem ty4:B8 Tryz.prog 4=some (false,1):=by kernel_rfl
theorem ty5:B8 Tryz.prog 5=some (false,1):=by kernel_rfl
theorem ty73:B8 Tryz.prog 73=some (false,1):=by kernel_rfl
theorem ty75:B8 Tryz.prog 75=some (true,5):=by kernel_rfl
theorem ty79:B8 Tryz.prog 79=some (true,4):=by kernel_rfl
theorem ty9:B8 Tryz.prog 9=some (false,1):=by kernel_rfl
theorem ty99:B8 Tryz.prog 99=some (true,5):=by kernel_rfl
theorem Vp:(Tryz.prog.underlying 179).isSome=true:=by kernel_rfl
theorem und188:(Tryz.prog.underlying 188).isSome=true:=by kernel_rfl
theorem und203:(Tryz.prog.underlying 203).isSome=true:=by kernel_rfl
theorem und3:(Tryz.prog.underlying 3).isSome=true:=by kernel_rfl
theorem und5:(Tryz.prog.underlying 5).isSome=true:=by kernel_rfl
theorem und_chan147:Tryz.prog.underlying 147=some (.chan .both 27):=by kernel_rfl
theorem zero102:Bt Tryz.prog 102=some #[.slice none 0 0]:=by kernel_rfl
theorem zero104:Bt Tryz.prog 104=some #[.int .i64 0,.int .i64 0,.slice none 0 0,.slice none 0 0,.slice none 0 0]:=by kernel_rfl
theorem zero105:Bt Tryz.prog 105=some #[.slice none 0 0]:=by kernel_rfl
theorem zero108:Bt Tryz.prog 108=some #[.int .i64 0,.int .i64 0,.slice none 0 0,.slice none 0 0,.slice none 0 0,.slice none 0 0,.map none]:=by kernel_rfl
theorem zero119:Bt Tryz.prog 119=some #[.int .i64 0,.int .i64 0,.int .i64 0,.int .i64 0,.int .i64 0,.int .i64 0,.int .i64 0,.int .i64 0,.int .i64 0,.bool false,.bool false,.bool false,.bool false,.bool false,.bool false]:=by kernel_rfl
theorem zero147:Bt Tryz.prog 147=some #[.chan none]:=by kernel_rfl
theorem zero168:Bt Tryz.prog 168=some #[.int .i64 0,.int .i64 0,.int .i64 0]:=by kernel_rfl
theorem zero181:Bt Tryz.prog 181=some #[.nilFunc]:=by kernel_rfl
theorem zero204:Bt Tryz.prog 204=some #[.int .u64 0]:=by kernel_rfl
theorem zero26:Bt Tryz.prog 26=some #[.int .i64 0,.int .i64 0,.slice none 0 0,.slice none 0 0,.slice none 0 0]:=by kernel_rfl
theorem zero27:Bt Tryz.prog 27=some #[.slice none 0 0]:=by kernel_rfl
theorem zero3:Bt Tryz.prog 3=some #[.int .i64 0]:=by kernel_rfl
theorem zero31:Bt Tryz.prog 31=some #[.int .i64 0,.int .i64 0]:=by kernel_rfl
theorem Vq:Bt Tryz.prog 32=some #[.int .i64 0]:=by kernel_rfl
theorem zero4:Bt Tryz.prog 4=some #[.bool false]:=by kernel_rfl
theorem zero75:Bt Tryz.prog 75=some #[.int .i64 0,.int .i64 0,.int .i64 0,.int .i64 0,.int .i64 0]:=by kernel_rfl
theorem zero79:Bt Tryz.prog 79=some #[.int .i64 0,.int .i64 0,.int .i64 0,.int .i64 0]:=by kernel_rfl
theorem zero99:Bt Tryz.prog 99=some #[.string ⟨#[]⟩,.int .i64 0,.int .i64 0,.int .i64 0,.int .i64 0]:=by kernel_rfl
end Go.Ns.Fx
namespace Go.Ns
open Go.Conc Go.Proofs
attribute [local irreducible] Bd DS Tr Ab CJ Bs
theorem BU {W:Wk Tryz.prog} {h:GH} (n:Int) (lo:Int) (hi:Int):Ab W 79 #[.int .i64 n,.int .i64 lo,.int .i64 hi] h (fun v h'=>v=(.bool (decide (lo≤n∧n≤hi)):Value)∧h=h'):=by
 refine AO Tryz.func79 Z (Nb Z) (Sq (Rg (As (.bool false) Z Z (Nl (A9 (fun σ' ds' h'=>ds'=[]∧h=h'∧σ' 6=.bool (decide ((lo≤n)∧(n≤hi)))) ?_ ?_)))))
 ·refine Rg (Mv (.int .i64 lo) Z Z (Mv (.int .i64 n) Z Z (Pl Z (DC (a:=lo) (b:=n) Z Z (Mv (.bool (decide (lo≤n))) Z Z (BM (p:=lo≤n) ?_ ?_))))))
  ·intro aa;exact Gg 3 10 (AE Z aa) Z (AA (v:=.int .i64 n) Z (Gg 3 10 (AE Z aa) Z (AA (v:=.int .i64 hi) Z (Gg 3 10 (AE Z aa) Z (DC (a:=n) (b:=hi) Z Z (Pk true (.bool (decide (n≤hi))) Z (AE Z aa) Z (As (.bool (decide (n≤hi))) Z Z (Nl (⟨Z,Z,Et (b:=(.bool (decide (n≤hi)):Value)) Z (congrArg Value.bool (by (simp [aa];done):decide (n≤hi)=(decide ((lo≤n)∧(n≤hi)))))⟩)))))))))
  ·intro aa;exact Gs 3 10 (AD Z aa) Z (Gs 3 10 (AD Z aa) Z (Gs 3 10 (AD Z aa) Z (Pk false (.bool false) Z (AD Z aa) Z (As (.bool false) Z Z (Nl (⟨Z,Z,Et (b:=(.bool false:Value)) Z (congrArg Value.bool (by (simp [aa];done):false=(decide ((lo≤n)∧(n≤hi)))))⟩))))))
 ·rintro _ _ _ ⟨ac,ab,ad⟩;subst ac;subst ab;exact Rt (⟨.inr Z,Ac Z (v:=.bool (decide ((lo≤n)∧(n≤hi)))) ad (⟨(by rfl),Z⟩)⟩)
theorem Lf {W:Wk Tryz.prog} {h:GH} (xl:Int) (xh:Int) (lo:Int) (hi:Int):Ab W 129 #[.agg #[.int .i64 xl,.int .i64 xh],.int .i64 lo,.int .i64 hi] h (fun v h'=>v=(.bool (decide ((lo≤xl∧xl≤xh)∧xh≤hi)):Value)∧h.Le h'):=by
 refine AO Tryz.func129 Z (Nb Z) (Sq (Rg (Pl Z (Ap (v:=.agg #[.int .i64 xl,.int .i64 xh]) (c:=#[.int .i64 xl,.int .i64 xh]) Z Z fun _ h2 _ ae ad _=>As (.bool false) Z Z (Nl (A9 (fun σ' ds' h'=>ds'=[]∧h2=h'∧σ' 6=.bool (decide (((lo≤xl)∧(xl≤xh))∧(xh≤hi)))) ?_ ?_))))))
 ·refine Rg (Mv (.int .i64 lo) Z Z (Fa Fx.fld31_0 Z Z (Ld (.int .i64 xl) Z Z (Rd.one Fx.ty3 ad Z) (Pl Z (DC (a:=lo) (b:=xl) Z Z (Mv (.bool (decide (lo≤xl))) Z Z (BM (p:=lo≤xl) ?_ ?_)))))))
  ·intro aa;refine Gg 4 11 (AE Z aa) Z (AI Fx.fld31_0 Z (Gg 4 11 (AE Z aa) Z (AF (v:=.int .i64 xl) Z (Rd.one Fx.ty3 ad Z) (Gg 4 11 (AE Z aa) Z (AI Fx.fld31_1 Z (Gg 4 11 (AE Z aa) Z (AF (v:=.int .i64 xh) Z (Rd.one Fx.ty3 ad Z) (Gg 4 11 (AE Z aa) Z (DC (a:=xl) (b:=xh) Z Z (Pk true (.bool (decide (xl≤xh))) Z (AE Z aa) Z (Mv (.bool (decide (xl≤xh))) Z Z (BM (p:=xl≤xh) ?_ ?_))))))))))))
   ·intro ab;exact Gg 11 18 (AE Z ab) Z (AI Fx.fld31_1 Z (Gg 11 18 (AE Z ab) Z (AF (v:=.int .i64 xh) Z (Rd.one Fx.ty3 ad Z) (Gg 11 18 (AE Z ab) Z (AA (v:=.int .i64 hi) Z (Gg 11 18 (AE Z ab) Z (DC (a:=xh) (b:=hi) Z Z (Pk true (.bool (decide (xh≤hi))) Z (AE Z ab) Z (As (.bool (decide (xh≤hi))) Z Z (Nl (⟨Z,Z,Et (b:=(.bool (decide (xh≤hi)):Value)) Z (congrArg Value.bool (by (simp [aa,ab];done):decide (xh≤hi)=(decide (((lo≤xl)∧(xl≤xh))∧(xh≤hi)))))⟩)))))))))))
   ·intro ab;exact Gs 11 18 (AD Z ab) Z (Gs 11 18 (AD Z ab) Z (Gs 11 18 (AD Z ab) Z (Gs 11 18 (AD Z ab) Z (Pk false (.bool false) Z (AD Z ab) Z (As (.bool false) Z Z (Nl (⟨Z,Z,Et (b:=(.bool false:Value)) Z (congrArg Value.bool (by (simp [aa,ab];done):false=(decide (((lo≤xl)∧(xl≤xh))∧(xh≤hi)))))⟩)))))))
  ·intro aa;refine Gs 4 11 (AD Z aa) Z (Gs 4 11 (AD Z aa) Z (Gs 4 11 (AD Z aa) Z (Gs 4 11 (AD Z aa) Z (Gs 4 11 (AD Z aa) Z (Pk false (.bool false) Z (AD Z aa) Z (Mv (.bool false) Z Z (Gs 11 18 Z Z (Gs 11 18 Z Z (Gs 11 18 Z Z (Gs 11 18 Z Z (Pk false (.bool false) Z Z Z ?_)))))))))));exact As (.bool false) Z Z (Nl (⟨Z,Z,Et (b:=(.bool false:Value)) Z (congrArg Value.bool (by (simp [aa];done):false=(decide (((lo≤xl)∧(xl≤xh))∧(xh≤hi)))))⟩))
 ·rintro _ _ _ ⟨af,ac,ag⟩;subst af;subst ac;exact Rt (⟨.inr Z,Ac Z (v:=.bool (decide (((lo≤xl)∧(xl≤xh))∧(xh≤hi)))) ag (⟨(by rfl),ae⟩)⟩)
theorem PL {W:Wk Tryz.prog} {h:GH} (xl:Int) (xh:Int):Ab W 201 #[.agg #[.int .i64 xl,.int .i64 xh]] h (fun v h'=>v=(.bool (decide (CM xl xh)):Value)∧h.Le h'):=by
 refine AO Tryz.func201 Z (Nb Z) (Sq (Rg (Pl Z (Ap (v:=.agg #[.int .i64 xl,.int .i64 xh]) (c:=#[.int .i64 xl,.int .i64 xh]) Z Z fun _ h2 _ ae ah _=>As (.bool false) Z Z (Nl (A9 (fun σ' ds' h'=>ds'=[]∧GH.Le h2 h'∧σ' 2=.bool (decide (((0≤xl∧xl≤xh)∧xh≤99)∧((xh-xl)<3)))) ?_ ?_))))))
 ·refine Rg (Ld (.agg #[.int .i64 xl,.int .i64 xh]) Z Z (AR Fx.ty31 (Bx ah Z)) (Pl Z (Ar Tryz.func129 Fx.call129 Z Z Z ((Lf xl xh 0 99 ).mono fun _ _ ai=>?_))));obtain ⟨rfl,ab⟩:=ai;refine Mv (.bool (decide ((0≤xl∧xl≤xh)∧xh≤99))) Z Z (BM (p:=(0≤xl∧xl≤xh)∧xh≤99) ?_ ?_)
  ·intro aa;exact Gg 2 5 (AE Z aa) Z (AI Fx.fld31_1 Z (have ac:=ab.keep ah Z;Gg 2 5 (AE Z aa) Z (AF (v:=.int .i64 xh) Z (Rd.one Fx.ty3 ac Z) (Gg 2 5 (AE Z aa) Z (AI Fx.fld31_0 Z (Gg 2 5 (AE Z aa) Z (AF (v:=.int .i64 xl) Z (Rd.one Fx.ty3 ac Z) (Gg 2 5 (AE Z aa) Z (BK (a:=xh) (b:=xl) Z Z (by omega) (Gg 2 5 (AE Z aa) Z (A5 (a:=xh-xl) (b:=3) Z Z (Pk true (.bool (decide ((xh-xl)<3))) Z (AE Z aa) Z (As (.bool (decide ((xh-xl)<3))) Z Z (Nl (⟨Z,ab,Et (b:=(.bool (decide ((xh-xl)<3)):Value)) Z (congrArg Value.bool (by (simp [aa];done):decide ((xh-xl)<3)=(decide (((0≤xl∧xl≤xh)∧xh≤99)∧((xh-xl)<3)))))⟩)))))))))))))))
  ·intro aa;exact Gs 2 5 (AD Z aa) Z (Gs 2 5 (AD Z aa) Z (Gs 2 5 (AD Z aa) Z (Gs 2 5 (AD Z aa) Z (Gs 2 5 (AD Z aa) Z (Gs 2 5 (AD Z aa) Z (Pk false (.bool false) Z (AD Z aa) Z (As (.bool false) Z Z (Nl (⟨Z,ab,Et (b:=(.bool false:Value)) Z (congrArg Value.bool (by (simp [aa];done):false=(decide (((0≤xl∧xl≤xh)∧xh≤99)∧((xh-xl)<3)))))⟩)))))))))
 ·rintro _ _ _ ⟨af,ad,ag⟩;subst af;exact Rt (⟨.inr Z,Ac Z (v:=.bool (decide (((0≤xl∧xl≤xh)∧xh≤99)∧((xh-xl)<3)))) ag (⟨(by rfl),(ae.trans ad)⟩)⟩)
theorem Ed {W:Wk Tryz.prog} {h:GH} (b:Bool):Ab W 76 #[.bool b] h (fun v h'=>v=(.int .i64 (if b then (0:Int) else 6):Value)∧h=h'):=by
 refine AO Tryz.func76 Z (Nb Z) (Sq (Rg (As (.int .i64 0) Z Z (Nl (Sq (Sq (Rg (Mv (.bool b) Z Z (Pl Z (C4 (b:=b) Z (Nl (CR (t:= !b) Z (fun aa=>?_) (fun aa=>?_)))))))))))))
 ·have hc1_:b=false:=by simpa using aa
  exact Sq (Rg (As (.int .i64 6) Z Z (Nl (Rt (⟨.inr Z,Ac Z (v:=.int .i64 6) Z (⟨(by simp_all),Z⟩)⟩)))))
 ·have hc1_:b=true:=by simpa using aa
  exact Sk (Sq (Rg (As (.int .i64 0) Z Z (Nl (Rt (⟨.inr Z,Ac Z (v:=.int .i64 0) Z (⟨(by simp_all),Z⟩)⟩))))))
theorem EI {W:Wk Tryz.prog} {h:GH} (b:Bool):Ab W 78 #[.bool b] h (fun v h'=>v=(.int .i64 (if b then (0:Int) else 1):Value)∧h=h'):=by
 refine AO Tryz.func78 Z (Nb Z) (Sq (Rg (As (.int .i64 0) Z Z (Nl (Sq (Sq (Rg (Mv (.bool b) Z Z (Pl Z (C4 (b:=b) Z (Nl (CR (t:= !b) Z (fun aa=>?_) (fun aa=>?_)))))))))))))
 ·have hc1_:b=false:=by simpa using aa
  exact Sq (Rg (As (.int .i64 1) Z Z (Nl (Rt (⟨.inr Z,Ac Z (v:=.int .i64 1) Z (⟨(by simp_all),Z⟩)⟩)))))
 ·have hc1_:b=true:=by simpa using aa
  exact Sk (Sq (Rg (As (.int .i64 0) Z Z (Nl (Rt (⟨.inr Z,Ac Z (v:=.int .i64 0) Z (⟨(by simp_all),Z⟩)⟩))))))
theorem E2 {W:Wk Tryz.prog} {h:GH} (d:Int) (m:Int) (gs:List Good) (gsv:Value) (ms:List AB) (msv:Value) (cs:List AK) (csv:Value) (n:Int) (hgs:AN h gsv 5 BD gs) (hms:AN h msv 5 A1 ms) (hcs:AN h csv 4 Av cs):Ab W 77 #[.agg #[.int .i64 d,.int .i64 m,gsv,msv,csv],.int .i64 n] h (fun v h'=>v=(.bool (decide (0≤n∧n≤(gs.length:Int)-1)):Value)∧h.Le h'):=by
 have ab:=hgs.len;have ac:=hms.len;have ad:=hcs.len;refine AO Tryz.func77 Z (Nb Z) (Sq (Rg (Pl Z (Ap (v:=.agg #[.int .i64 d,.int .i64 m,gsv,msv,csv]) (c:=#[.int .i64 d,.int .i64 m,gsv,msv,csv]) Z Z fun _ _ _ aa af _=>As (.bool false) Z Z (Nl (Sq (Rg (Mv (.int .i64 n) Z Z (Fa Fx.fld104_0 Z Z (Fa Fx.fld26_2 Z Z (Ld gsv Z Z (Rd.one Fx.ty22 af Z) (Pl Z (AY Fx.sl22 (hgs.le aa) Z (Pl Z (BK (a:=(gs.length:Int)) (b:=1) Z Z (by omega) (Pl Z (Ar Tryz.func79 Fx.call79 Z Z Z ((BU n 0 ((gs.length:Int)-1) ).mono fun _ _ ae=>?_))))))))))))))))));obtain ⟨rfl,rfl⟩:=ae;exact As (.bool (decide (0≤n∧n≤((gs.length:Int)-1)))) Z Z (Nl (Rt (⟨.inr Z,Ac Z (v:=.bool (decide (0≤n∧n≤((gs.length:Int)-1)))) Z (⟨(by rfl),aa⟩)⟩)))
theorem J7 {W:Wk Tryz.prog} {h:GH} (d:Int) (m:Int) (gs:List Good) (gsv:Value) (ms:List AB) (msv:Value) (cs:List AK) (csv:Value) (n:Int) (hgs:AN h gsv 5 BD gs) (hms:AN h msv 5 A1 ms) (hcs:AN h csv 4 Av cs):Ab W 108 #[.agg #[.int .i64 d,.int .i64 m,gsv,msv,csv],.int .i64 n] h (fun v h'=>v=(.bool (decide (0≤n∧n≤(ms.length:Int)-1)):Value)∧h.Le h'):=by
 have ab:=hgs.len;have ac:=hms.len;have ad:=hcs.len;refine AO Tryz.func108 Z (Nb Z) (Sq (Rg (Pl Z (Ap (v:=.agg #[.int .i64 d,.int .i64 m,gsv,msv,csv]) (c:=#[.int .i64 d,.int .i64 m,gsv,msv,csv]) Z Z fun _ _ _ aa af _=>As (.bool false) Z Z (Nl (Sq (Rg (Mv (.int .i64 n) Z Z (Fa Fx.fld104_0 Z Z (Fa Fx.fld26_3 Z Z (Ld msv Z Z (Rd.one Fx.ty23 af Z) (Pl Z (AY Fx.sl23 (hms.le aa) Z (Pl Z (BK (a:=(ms.length:Int)) (b:=1) Z Z (by omega) (Pl Z (Ar Tryz.func79 Fx.call79 Z Z Z ((BU n 0 ((ms.length:Int)-1) ).mono fun _ _ ae=>?_))))))))))))))))));obtain ⟨rfl,rfl⟩:=ae;exact As (.bool (decide (0≤n∧n≤((ms.length:Int)-1)))) Z Z (Nl (Rt (⟨.inr Z,Ac Z (v:=.bool (decide (0≤n∧n≤((ms.length:Int)-1)))) Z (⟨(by rfl),aa⟩)⟩)))
theorem Jj {W:Wk Tryz.prog} {h:GH} (p:AS) (i:Int) (hi0:0≤i) (hi1:i<6):Ab W 83 #[.agg (Ai p),.int .i64 i] h (fun v h'=>v=(.int .i64 (BV p ((i).toNat)):Value)∧h.Le h'):=by
 refine AO Tryz.func83 Z (Nb Z) (Sq (Rg (Pl Z (Ap (v:=.agg (Ai p)) (c:=Ai p) Z Z fun _ _ _ aa ad _=>As (.int .i64 0) Z Z (Nl (Sq (Sq (Rg (Mv (.int .i64 i) Z Z (Fa Fx.fld119_2 Z Z ?_))))))))));have ae:(0:Int)≤i:=by omega
 have af:i<((6:Nat):Int):=by omega
 refine Pl Z (Cb Fx.asz117 Z Z ae af (Ld (.bool (p.lies (i.toNat))) Z Z (Rd.one Fx.ty4 ad (IM (i:=i.toNat) (by omega))) (Nl (CR (t:=p.lies (i.toNat)) Z (fun ag=>?_) (fun ag=>?_)))))
 ·exact Sq (Rg (As (.int .i64 0) Z Z (Nl (Rt (⟨.inr Z,Ac Z (v:=.int .i64 0) Z (⟨(by simp_all [BV]),aa⟩)⟩)))))
 ·refine Sk (Sq (Rg (Mv (.int .i64 i) Z Z (Fa Fx.fld119_1 Z Z ?_))));have ab:(0:Int)≤i:=by omega
  have ac:i<((6:Nat):Int):=by omega
  exact Pl Z (Cb Fx.asz116 Z Z ab ac (Ld (.int .i64 (p.many (i.toNat))) Z Z (Rd.one Fx.ty3 ad (Py (i:=i.toNat) (by omega))) (As (.int .i64 (p.many (i.toNat))) Z Z (Nl (Rt (⟨.inr Z,Ac Z (v:=.int .i64 (p.many (i.toNat))) Z (⟨(by simp_all [BV]),aa⟩)⟩))))))
theorem Qg {W:Wk Tryz.prog} {h:GH} (p:AS):Ab W 101 #[.agg (Ai p)] h (fun v h'=>v=(.int .i64 (An p 6:Int):Value)∧h.Le h'):=by
 refine AO Tryz.func101 Z (Nb Z) (Sq (Rg (Pl Z (Ap (v:=.agg (Ai p)) (c:=Ai p) Z Z fun _ h2 _ ab al _=>As (.int .i64 0) Z Z (Nl (Sq (Rg (As (.int .i64 0) Z Z (Nl (Sq (Sq (Rg (Fa Fx.fld119_2 Z Z (Ld (.agg #[.bool (p.lies 0),.bool (p.lies 1),.bool (p.lies 2),.bool (p.lies 3),.bool (p.lies 4),.bool (p.lies 5)]) Z Z (GC (o:=9) (ws:=#[.bool (p.lies 0),.bool (p.lies 1),.bool (p.lies 2),.bool (p.lies 3),.bool (p.lies 4),.bool (p.lies 5)]) Fx.ty117 (Bx al Z) (Nb Z) Z) (Mv (.int .i64 0) Z Z (Nl (Bk (Ao (fun nn σ' ds' h'=>∃(k:Nat),nn=6-k∧(k≤6)∧ds'=[]∧GH.Le h2 h'∧σ' 2=.int .i64 0∧σ' 7=.agg #[.bool (p.lies 0),.bool (p.lies 1),.bool (p.lies 2),.bool (p.lies 3),.bool (p.lies 4),.bool (p.lies 5)]∧σ' 3=.int .i64 (An p k:Int)∧σ' 8=.int .i64 (k:Int)) ⟨0,Z,(by omega),Z,Lr,Z,Z,Z,Z⟩ (fun nn _ _ _ ac=>?_)))))))))))))))))));obtain ⟨k,rfl,hk,am,ad,ak,ae,af,aa⟩:=ac;subst am;have hly:=Kt p k;refine Sq (Rg (Pl Z (A5 (a:=(k:Int)) (b:=6) aa Z (Nl (Sq (AZ (p:=(k:Int)<6) Z (fun ag=>?_) (fun ag=>?_)))))))
 ·refine Sk (Sq (Bk (Sq (Rg ?_))));have ah:(0:Int)≤(k:Int):=by omega
  have ai:(k:Int)<((6:Nat):Int):=by omega
  refine Pl Z (MW Fx.arr117 ae aa ah ai (OX (by omega)) (As (.bool (p.lies k)) Z Z (Nl (Sq (Rg (Mv (.bool (p.lies k)) Z Z (Nl (CR (t:=p.lies k) Z (fun aj=>?_) (fun aj=>?_)))))))))
  ·exact Rg (Mv (.int .i64 (An p k:Int)) Z af (Ad (An p k:Int) 1 Z Z Z (by omega) (As (.int .i64 ((An p k:Int)+1)) Z Z (Nl (Rg (Ad (k:Int) 1 Z aa Z (by omega) (Mv (.int .i64 ((k:Int)+1)) Z Z (Nl (⟨_,by omega,k+1,Z,(by omega),Z,ad,ak,ae,(Et (b:=(.int .i64 ((An p k:Int)+1):Value)) Z (by congr 1;simp_all [An])),Z⟩)))))))))
  ·exact Sk (Rg (Ad (k:Int) 1 Z aa Z (by omega) (Mv (.int .i64 ((k:Int)+1)) Z Z (Nl (⟨_,by omega,k+1,Z,(by omega),Z,ad,ak,ae,(Et (b:=(.int .i64 (An p k:Int):Value)) af (by congr 1;simp_all [An])),Z⟩)))))
 ·exact Xt (Sq (Rg (Mv (.int .i64 (An p k:Int)) Z af (As (.int .i64 (An p k:Int)) Z Z (Nl (Rt (⟨.inr Z,Ac Z (v:=.int .i64 (An p k:Int)) Z (⟨(by obtain rfl:k=6:=(by omega);rfl),(ab.trans ad)⟩)⟩)))))))
theorem IA {W:Wk Tryz.prog} {h:GH} (a:List Int) (av:Value) (b:List Int) (bv:Value) (ha:AN h av 1 eI a) (hb:AN h bv 1 eI b):Ab W 22 #[av,bv] h (fun v h'=>v=(.bool (decide (a=b)):Value)∧h.Le h'):=by
 have ad:=ha.len;have ae:=hb.len;refine AO Tryz.func22 Z (Nb Z) (Sq (Rg (As (.bool false) Z Z (Nl (Sq (Sq (Rg (Mv av Z Z (Pl Z (AY Fx.sl27 ha Z (Mv bv Z Z (Pl Z (AY Fx.sl27 hb Z (Pl Z (A4 (a:=(a.length:Int)) (b:=(b.length:Int)) Z Z (Nl (AZ (p:=¬(a.length:Int)=(b.length:Int)) Z (fun ar=>?_) (fun ar=>?_))))))))))))))))))
 ·exact Sq (Rg (As (.bool false) Z Z (Nl (Rt (⟨.inr Z,Ac Z (v:=.bool false) Z (⟨(by (rw [decide_eq_false (Uy (by omega))];done)),Lr⟩)⟩)))))
 ·refine Sk (Sq (Sq (Rg (As (.int .i64 0) Z Z (Nl (Bk (Ao (fun nn σ' ds' h'=>∃(k:Nat),nn=a.length-k∧(k≤a.length)∧(a.take k=b.take k)∧ds'=[]∧GH.Le h h'∧σ' 0=av∧σ' 1=bv∧σ' 5=.int .i64 (k:Int)) ⟨0,Z,(by omega),(by rfl),Z,Lr,Z,Z,Z⟩ (fun nn _ _ _ au=>?_))))))));obtain ⟨k,rfl,hk,hs,x8,x9,af,aq,ac⟩:=au;subst x8;refine Sq (Sq (Rg (Mv (.int .i64 (k:Int)) Z ac (Mv av Z af (Pl Z (AY Fx.sl27 (ha.le x9) Z (Pl Z (A5 (a:=(k:Int)) (b:=(a.length:Int)) Z Z (Nl (AZ (p:=(k:Int)<(a.length:Int)) Z (fun ag=>?_) (fun ag=>?_)))))))))))
  ·refine Sk (Sq (Bk (Sq (BQ 8 false [1,6,10,16,21,26,30,36] Fx.mixed (by kernel_rfl) (tR Z Z (AA (v:=av) af vz) (tR Z Z (AA (v:=.int .i64 (k:Int)) ac vz) ?_))))));have ah:(0:Int)≤(k:Int):=by omega
   have ai:(k:Int)<((a.length:Nat):Int):=by omega
   refine tI Z Z Fx.esz27 ha Z Z ah ai fun aw aa aj=>have ak:Aa _ aw aa 1 (eI (a.getD k 0)):=Aa.getD 0 aj;tR Z Z (AF (v:=.int .i64 (a.getD k 0)) Z (B3 Fx.ty3 (ak.le x9) Z) vz) (tR Z Z (AA (v:=bv) aq vz) (tR Z Z (AA (v:=.int .i64 (k:Int)) ac vz) ?_));have al:(0:Int)≤(k:Int):=by omega
   have am:(k:Int)<((b.length:Nat):Int):=by omega
   refine tI Z Z Fx.esz27 hb Z Z al am fun ax ab an=>have ao:Aa _ ax ab 1 (eI (b.getD k 0)):=Aa.getD 0 an;tR Z Z (AF (v:=.int .i64 (b.getD k 0)) Z (B3 Fx.ty3 (ao.le x9) Z) vz) (tN (Pl Z (A4 (a:=a.getD k 0) (b:=b.getD k 0) Z Z (Nl (AZ (p:=¬(a.getD k 0)=(b.getD k 0)) Z (fun ap=>?_) (fun ap=>?_))))))
   ·exact Sq (Rg (As (.bool false) Z Z (Nl (Rt (⟨.inr Z,Ac Z (v:=.bool false) Z (⟨(by (rw [decide_eq_false (UF (k:=k) (d:=0) ‹_›)])),x9⟩)⟩)))))
   ·exact Sk (Rg (Mv (.int .i64 (k:Int)) Z ac (Ad (k:Int) 1 Z Z Z (by omega) (As (.int .i64 ((k:Int)+1)) Z Z (Nl (⟨_,by omega,k+1,Z,(by omega),(by exact Ku 0 hs (by omega) (by omega) (by simp_all)),Z,x9,af,aq,Z⟩))))))
  ·exact Xt (Sq (Rg (As (.bool true) Z Z (Nl (Rt (⟨.inr Z,Ac Z (v:=.bool true) Z (⟨(by (rw [decide_eq_true (NL hs hk ‹_› (by omega))];done)),x9⟩)⟩))))))
theorem Tj {W:Wk Tryz.prog} {h:GH} (a:List Int) (av:Value) (n:Int) (ha:AN h av 1 eI a):Ab W 42 #[av,.int .i64 n] h (fun v h'=>v=(.bool (decide (n ∈ a)):Value)∧h.Le h'):=by
 have ab:=ha.len;refine AO Tryz.func42 Z (Nb Z) (Sq (Rg (As (.bool false) Z Z (Nl (Sq (Sq (Rg (As (.int .i64 0) Z Z (Nl (Bk (Ao (fun nn σ' ds' h'=>∃(k:Nat),nn=a.length-k∧(k≤a.length)∧(¬n ∈ a.take k)∧ds'=[]∧GH.Le h h'∧σ' 0=av∧σ' 1=.int .i64 n∧σ' 5=.int .i64 (k:Int)) ⟨0,Z,(by omega),(by simp),Z,Lr,Z,Z,Z⟩ (fun nn _ _ _ aj=>?_))))))))))));obtain ⟨k,rfl,hk,hs,x6,x7,x8,x9,ac⟩:=aj;subst x6;refine Sq (Sq (Rg (Mv (.int .i64 (k:Int)) Z ac (Mv av Z x8 (Pl Z (AY Fx.sl27 (ha.le x7) Z (Pl Z (A5 (a:=(k:Int)) (b:=(a.length:Int)) Z Z (Nl (AZ (p:=(k:Int)<(a.length:Int)) Z (fun ad=>?_) (fun ad=>?_)))))))))))
 ·refine Sk (Sq (Bk (Sq (Rg (Mv av Z x8 (Mv (.int .i64 (k:Int)) Z ac ?_))))));have ae:(0:Int)≤(k:Int):=by omega
  have af:(k:Int)<((a.length:Nat):Int):=by omega
  refine Pl Z (Az Fx.esz27 ha Z Z ae af fun ak aa ag=>have ah:Aa _ ak aa 1 (eI (a.getD k 0)):=Aa.getD 0 ag;Ld (.int .i64 (a.getD k 0)) Z Z (B3 Fx.ty3 (ah.le x7) Z) (Mv (.int .i64 n) Z x9 (Pl Z (Bg (a:=a.getD k 0) (b:=n) Z Z (Nl (AZ (p:=(a.getD k 0)=n) Z (fun ai=>?_) (fun ai=>?_)))))))
  ·exact Sq (Rg (As (.bool true) Z Z (Nl (Rt (⟨.inr Z,Ac Z (v:=.bool true) Z (⟨(by (rw [decide_eq_true (UG (k:=k) ‹_› ‹_›)];done)),x7⟩)⟩)))))
  ·exact Sk (Rg (Mv (.int .i64 (k:Int)) Z ac (Ad (k:Int) 1 Z Z Z (by omega) (As (.int .i64 ((k:Int)+1)) Z Z (Nl (⟨_,by omega,k+1,Z,(by omega),(by exact S5 ‹_› hs ‹_›),Z,x7,x8,x9,Z⟩))))))
 ·exact Xt (Sq (Rg (As (.bool false) Z Z (Nl (Rt (⟨.inr Z,Ac Z (v:=.bool false) Z (⟨(by (rw [decide_eq_false (UH (k:=k) ‹_› hs)])),x7⟩)⟩))))))
theorem FM {W:Wk Tryz.prog} {h:GH} (n:Int) (lo:Int) (hi:Int):Ab W 59 #[.int .i64 n,.int .i64 lo,.int .i64 hi] h (fun v h'=>v=(.bool (decide (lo≤n∧n≤hi)):Value)∧h=h'):=by
 refine AO Tryz.func59 Z (Nb Z) (Sq (Rg (As (.bool false) Z Z (Nl (A9 (fun σ' ds' h'=>ds'=[]∧h=h'∧σ' 6=.bool (decide ((lo≤n)∧(n≤hi)))) ?_ ?_)))))
 ·refine Rg (Mv (.int .i64 n) Z Z (Mv (.int .i64 lo) Z Z (Pl Z (CE (a:=n) (b:=lo) Z Z (Mv (.bool (decide (lo≤n))) Z Z (BM (p:=lo≤n) ?_ ?_))))))
  ·intro aa;exact Gg 3 10 (AE Z aa) Z (AA (v:=.int .i64 n) Z (Gg 3 10 (AE Z aa) Z (AA (v:=.int .i64 hi) Z (Gg 3 10 (AE Z aa) Z (DC (a:=n) (b:=hi) Z Z (Pk true (.bool (decide (n≤hi))) Z (AE Z aa) Z (As (.bool (decide (n≤hi))) Z Z (Nl (⟨Z,Z,Et (b:=(.bool (decide (n≤hi)):Value)) Z (congrArg Value.bool (by (simp [aa];done):decide (n≤hi)=(decide ((lo≤n)∧(n≤hi)))))⟩)))))))))
  ·intro aa;exact Gs 3 10 (AD Z aa) Z (Gs 3 10 (AD Z aa) Z (Gs 3 10 (AD Z aa) Z (Pk false (.bool false) Z (AD Z aa) Z (As (.bool false) Z Z (Nl (⟨Z,Z,Et (b:=(.bool false:Value)) Z (congrArg Value.bool (by (simp [aa];done):false=(decide ((lo≤n)∧(n≤hi)))))⟩))))))
 ·rintro _ _ _ ⟨ac,ab,ad⟩;subst ac;subst ab;exact Rt (⟨.inr Z,Ac Z (v:=.bool (decide ((lo≤n)∧(n≤hi)))) ad (⟨(by rfl),Z⟩)⟩)
theorem J8 {W:Wk Tryz.prog} {h:GH} (xl:Int) (xh:Int) (lo:Int) (hi:Int):Ab W 65 #[.agg #[.int .i64 xl,.int .i64 xh],.int .i64 lo,.int .i64 hi] h (fun v h'=>v=(.bool (decide ((lo≤xl∧xl≤xh)∧xh≤hi)):Value)∧h.Le h'):=by
 refine AO Tryz.func65 Z (Nb Z) (Sq (Rg (Pl Z (Ap (v:=.agg #[.int .i64 xl,.int .i64 xh]) (c:=#[.int .i64 xl,.int .i64 xh]) Z Z fun _ h2 _ ae ad _=>As (.bool false) Z Z (Nl (A9 (fun σ' ds' h'=>ds'=[]∧h2=h'∧σ' 6=.bool (decide (((lo≤xl)∧(xl≤xh))∧(xh≤hi)))) ?_ ?_))))))
 ·refine Rg (Fa Fx.fld31_0 Z Z (Ld (.int .i64 xl) Z Z (Rd.one Fx.ty3 ad Z) (Mv (.int .i64 lo) Z Z (Pl Z (CE (a:=xl) (b:=lo) Z Z (Mv (.bool (decide (lo≤xl))) Z Z (BM (p:=lo≤xl) ?_ ?_)))))))
  ·intro aa;refine Gg 4 11 (AE Z aa) Z (AI Fx.fld31_1 Z (Gg 4 11 (AE Z aa) Z (AF (v:=.int .i64 xh) Z (Rd.one Fx.ty3 ad Z) (Gg 4 11 (AE Z aa) Z (AI Fx.fld31_0 Z (Gg 4 11 (AE Z aa) Z (AF (v:=.int .i64 xl) Z (Rd.one Fx.ty3 ad Z) (Gg 4 11 (AE Z aa) Z (CE (a:=xh) (b:=xl) Z Z (Pk true (.bool (decide (xl≤xh))) Z (AE Z aa) Z (Mv (.bool (decide (xl≤xh))) Z Z (BM (p:=xl≤xh) ?_ ?_))))))))))))
   ·intro ab;exact Gg 11 18 (AE Z ab) Z (AI Fx.fld31_1 Z (Gg 11 18 (AE Z ab) Z (AF (v:=.int .i64 xh) Z (Rd.one Fx.ty3 ad Z) (Gg 11 18 (AE Z ab) Z (AA (v:=.int .i64 hi) Z (Gg 11 18 (AE Z ab) Z (DC (a:=xh) (b:=hi) Z Z (Pk true (.bool (decide (xh≤hi))) Z (AE Z ab) Z (As (.bool (decide (xh≤hi))) Z Z (Nl (⟨Z,Z,Et (b:=(.bool (decide (xh≤hi)):Value)) Z (congrArg Value.bool (by (simp [aa,ab];done):decide (xh≤hi)=(decide (((lo≤xl)∧(xl≤xh))∧(xh≤hi)))))⟩)))))))))))
   ·intro ab;exact Gs 11 18 (AD Z ab) Z (Gs 11 18 (AD Z ab) Z (Gs 11 18 (AD Z ab) Z (Gs 11 18 (AD Z ab) Z (Pk false (.bool false) Z (AD Z ab) Z (As (.bool false) Z Z (Nl (⟨Z,Z,Et (b:=(.bool false:Value)) Z (congrArg Value.bool (by (simp [aa,ab];done):false=(decide (((lo≤xl)∧(xl≤xh))∧(xh≤hi)))))⟩)))))))
  ·intro aa;refine Gs 4 11 (AD Z aa) Z (Gs 4 11 (AD Z aa) Z (Gs 4 11 (AD Z aa) Z (Gs 4 11 (AD Z aa) Z (Gs 4 11 (AD Z aa) Z (Pk false (.bool false) Z (AD Z aa) Z (Mv (.bool false) Z Z (Gs 11 18 Z Z (Gs 11 18 Z Z (Gs 11 18 Z Z (Gs 11 18 Z Z (Pk false (.bool false) Z Z Z ?_)))))))))));exact As (.bool false) Z Z (Nl (⟨Z,Z,Et (b:=(.bool false:Value)) Z (congrArg Value.bool (by (simp [aa];done):false=(decide (((lo≤xl)∧(xl≤xh))∧(xh≤hi)))))⟩))
 ·rintro _ _ _ ⟨af,ac,ag⟩;subst af;subst ac;exact Rt (⟨.inr Z,Ac Z (v:=.bool (decide (((lo≤xl)∧(xl≤xh))∧(xh≤hi)))) ag (⟨(by rfl),ae⟩)⟩)
theorem Lg {W:Wk Tryz.prog} {h:GH} (xl:Int) (xh:Int):Ab W 143 #[.agg #[.int .i64 xl,.int .i64 xh]] h (fun v h'=>v=(.bool (decide (CM xl xh)):Value)∧h.Le h'):=by
 refine AO Tryz.func143 Z (Nb Z) (Sq (Rg (Pl Z (Ap (v:=.agg #[.int .i64 xl,.int .i64 xh]) (c:=#[.int .i64 xl,.int .i64 xh]) Z Z fun _ h2 _ ae ah _=>As (.bool false) Z Z (Nl (A9 (fun σ' ds' h'=>ds'=[]∧GH.Le h2 h'∧σ' 2=.bool (decide (((0≤xl∧xl≤xh)∧xh≤99)∧((xh-xl)<3)))) ?_ ?_))))))
 ·refine Rg (Ld (.agg #[.int .i64 xl,.int .i64 xh]) Z Z (AR Fx.ty31 (Bx ah Z)) (Pl Z (Ar Tryz.func65 Fx.call65 Z Z Z ((J8 xl xh 0 99 ).mono fun _ _ ai=>?_))));obtain ⟨rfl,ab⟩:=ai;refine Mv (.bool (decide ((0≤xl∧xl≤xh)∧xh≤99))) Z Z (BM (p:=(0≤xl∧xl≤xh)∧xh≤99) ?_ ?_)
  ·intro aa;exact Gg 2 5 (AE Z aa) Z (AI Fx.fld31_1 Z (have ac:=ab.keep ah Z;Gg 2 5 (AE Z aa) Z (AF (v:=.int .i64 xh) Z (Rd.one Fx.ty3 ac Z) (Gg 2 5 (AE Z aa) Z (AI Fx.fld31_0 Z (Gg 2 5 (AE Z aa) Z (AF (v:=.int .i64 xl) Z (Rd.one Fx.ty3 ac Z) (Gg 2 5 (AE Z aa) Z (BK (a:=xh) (b:=xl) Z Z (by omega) (Gg 2 5 (AE Z aa) Z (A5 (a:=xh-xl) (b:=3) Z Z (Pk true (.bool (decide ((xh-xl)<3))) Z (AE Z aa) Z (As (.bool (decide ((xh-xl)<3))) Z Z (Nl (⟨Z,ab,Et (b:=(.bool (decide ((xh-xl)<3)):Value)) Z (congrArg Value.bool (by (simp [aa];done):decide ((xh-xl)<3)=(decide (((0≤xl∧xl≤xh)∧xh≤99)∧((xh-xl)<3)))))⟩)))))))))))))))
  ·intro aa;exact Gs 2 5 (AD Z aa) Z (Gs 2 5 (AD Z aa) Z (Gs 2 5 (AD Z aa) Z (Gs 2 5 (AD Z aa) Z (Gs 2 5 (AD Z aa) Z (Gs 2 5 (AD Z aa) Z (Pk false (.bool false) Z (AD Z aa) Z (As (.bool false) Z Z (Nl (⟨Z,ab,Et (b:=(.bool false:Value)) Z (congrArg Value.bool (by (simp [aa];done):false=(decide (((0≤xl∧xl≤xh)∧xh≤99)∧((xh-xl)<3)))))⟩)))))))))
 ·rintro _ _ _ ⟨af,ad,ag⟩;subst af;exact Rt (⟨.inr Z,Ac Z (v:=.bool (decide (((0≤xl∧xl≤xh)∧xh≤99)∧((xh-xl)<3)))) ag (⟨(by rfl),(ae.trans ad)⟩)⟩)
theorem PM {W:Wk Tryz.prog} {h:GH} (c:Int):Ab W 156 #[.int .u8 c] h (fun v h'=>v=(.bool (decide (DE c)):Value)∧h=h'):=by
 refine AO Tryz.func156 Z (Nb Z) (Sq (Rg (As (.bool false) Z Z (Nl (A9 (fun σ' ds' h'=>ds'=[]∧h=h'∧σ' 2=.bool (decide ((97≤c)∧(c≤122)))) ?_ ?_)))))
 ·refine Rg (Mv (.int .u8 c) Z Z (Pl Z (CE (a:=c) (b:=97) Z Z (Mv (.bool (decide (97≤c))) Z Z (BM (p:=97≤c) ?_ ?_)))))
  ·intro aa;exact Gg 2 5 (AE Z aa) Z (AA (v:=.int .u8 c) Z (Gg 2 5 (AE Z aa) Z (DC (a:=c) (b:=122) Z Z (Pk true (.bool (decide (c≤122))) Z (AE Z aa) Z (As (.bool (decide (c≤122))) Z Z (Nl (⟨Z,Z,Et (b:=(.bool (decide (c≤122)):Value)) Z (congrArg Value.bool (by (simp [aa];done):decide (c≤122)=(decide ((97≤c)∧(c≤122)))))⟩)))))))
  ·intro aa;exact Gs 2 5 (AD Z aa) Z (Gs 2 5 (AD Z aa) Z (Pk false (.bool false) Z (AD Z aa) Z (As (.bool false) Z Z (Nl (⟨Z,Z,Et (b:=(.bool false:Value)) Z (congrArg Value.bool (by (simp [aa];done):false=(decide ((97≤c)∧(c≤122)))))⟩)))))
 ·rintro _ _ _ ⟨ac,ab,ad⟩;subst ac;subst ab;exact Rt (⟨.inr Z,Ac Z (v:=.bool (decide ((97≤c)∧(c≤122)))) ad (⟨(by rfl),Z⟩)⟩)
theorem Qh {W:Wk Tryz.prog} {h:GH} (c:Int):Ab W 157 #[.int .u8 c] h (fun v h'=>v=(.bool (decide (DQ c)):Value)∧h=h'):=by
 refine AO Tryz.func157 Z (Nb Z) (Sq (Rg (As (.bool false) Z Z (Nl (A9 (fun σ' ds' h'=>ds'=[]∧h=h'∧σ' 2=.bool (decide ((48≤c)∧(c≤57)))) ?_ ?_)))))
 ·refine Rg (Mv (.int .u8 c) Z Z (Pl Z (CE (a:=c) (b:=48) Z Z (Mv (.bool (decide (48≤c))) Z Z (BM (p:=48≤c) ?_ ?_)))))
  ·intro aa;exact Gg 2 5 (AE Z aa) Z (AA (v:=.int .u8 c) Z (Gg 2 5 (AE Z aa) Z (DC (a:=c) (b:=57) Z Z (Pk true (.bool (decide (c≤57))) Z (AE Z aa) Z (As (.bool (decide (c≤57))) Z Z (Nl (⟨Z,Z,Et (b:=(.bool (decide (c≤57)):Value)) Z (congrArg Value.bool (by (simp [aa];done):decide (c≤57)=(decide ((48≤c)∧(c≤57)))))⟩)))))))
  ·intro aa;exact Gs 2 5 (AD Z aa) Z (Gs 2 5 (AD Z aa) Z (Pk false (.bool false) Z (AD Z aa) Z (As (.bool false) Z Z (Nl (⟨Z,Z,Et (b:=(.bool false:Value)) Z (congrArg Value.bool (by (simp [aa];done):false=(decide ((48≤c)∧(c≤57)))))⟩)))))
 ·rintro _ _ _ ⟨ac,ab,ad⟩;subst ac;subst ab;exact Rt (⟨.inr Z,Ac Z (v:=.bool (decide ((48≤c)∧(c≤57)))) ad (⟨(by rfl),Z⟩)⟩)
theorem EA {W:Wk Tryz.prog} {h:GH} (a:Int) (b:Int):Ab W 60 #[.int .i64 a,.int .i64 b] h (fun v h'=>v=(.agg #[.int .i64 a,.int .i64 b]:Value)∧h.Le h'):=by
 exact AO Tryz.func60 Z (Nb Z) (Sq (Rg (Pl Z (Aj Fx.zero31 fun _ _ ab aa ac _=>Nl (Sq (Rg (Mv (.int .i64 a) Z Z (Mv (.int .i64 b) Z Z (Pl Z (Ay (cells:=#[.int .i64 a,.int .i64 b]) Fx.pl31 Fx.zero31 (by kernel_rfl) (Pl Z (AL (v:=.agg #[.int .i64 a,.int .i64 b]) (c':=#[.int .i64 a,.int .i64 b]) Fx.ty31 Z Z ac Z Z (by simp) Z fun _ ad ae=>Nl (Rt (⟨.inr Z,IH Z (v:=.agg #[.int .i64 a,.int .i64 b]) Z (AR Fx.ty31 (Bx ad Z)) (⟨Z,(aa.upd (Ln Lr ab) ae)⟩)⟩))))))))))))))
theorem F9 {W:Wk Tryz.prog} {h:GH} (d:Int) (m:Int) (gs:List Good) (gsv:Value) (ms:List AB) (msv:Value) (cs:List AK) (csv:Value) (n:Int) (hgs:AN h gsv 5 BD gs) (hms:AN h msv 5 A1 ms) (hcs:AN h csv 4 Av cs):Ab W 110 #[.agg #[.int .i64 d,.int .i64 m,gsv,msv,csv],.int .i64 n] h (fun v h'=>v=(.bool (decide ((0≤n∧n≤(ms.length:Int)-1)∧(ms.getD (n).toNat AB.z).kind=0)):Value)∧h.Le h'):=by
 have af:=hgs.len;have ag:=hms.len;have ah:=hcs.len;refine AO Tryz.func110 Z (Nb Z) (Sq (Rg (Pl Z (Ap (v:=.agg #[.int .i64 d,.int .i64 m,gsv,msv,csv]) (c:=#[.int .i64 d,.int .i64 m,gsv,msv,csv]) Z Z fun _ h5 _ ac ap _=>As (.bool false) Z Z (Nl (A9 (fun σ' ds' h'=>ds'=[]∧GH.Le h5 h'∧σ' 4=.bool (decide ((0≤n∧n≤(ms.length:Int)-1)∧(((ms.getD (n.toNat) AB.z).kind)=0)))) ?_ ?_))))))
 ·refine Rg (Ld (.agg #[.int .i64 d,.int .i64 m,gsv,msv,csv]) Z Z (AR Fx.ty104 (Bx ap Z)) (Mv (.int .i64 n) Z Z (Pl Z (AX Tryz.func108 Fx.call108 Z Z ((J7 d m gs gsv ms msv cs csv n (hgs.le ac) (hms.le ac) (hcs.le ac) ).mono fun _ _ ai=>?_)))));obtain ⟨rfl,ab⟩:=ai;refine Mv (.bool (decide (0≤n∧n≤(ms.length:Int)-1))) Z Z (BM (p:=0≤n∧n≤(ms.length:Int)-1) ?_ ?_)
  ·intro aa;refine Gg 3 8 (AE Z aa) Z (AI Fx.fld104_0 Z (Gg 3 8 (AE Z aa) Z (AI Fx.fld26_3 Z (Gg 3 8 (AE Z aa) Z (AF (v:=msv) Z (Rd.one Fx.ty23 (ab.keep ap Z) Z) (Gg 3 8 (AE Z aa) Z (AA (v:=.int .i64 n) Z ?_)))))));have aj:(0:Int)≤n:=by omega
   have ak:n<((ms.length:Nat):Int):=by omega
   exact Gg 3 8 (AE Z aa) Z (Az Fx.esz23 hms Z Z aj ak fun aq ad al=>have am:Aa _ aq ad 5 (A1 (ms.getD (n.toNat) AB.z)):=Aa.getD AB.z al;Gg 3 8 (AE Z aa) Z (AI Fx.fld75_0 Z (Gg 3 8 (AE Z aa) Z (AF (v:=.int .i64 ((ms.getD (n.toNat) AB.z).kind)) Z (B3 Fx.ty73 (am.le (ac.trans ab)) Z) (Gg 3 8 (AE Z aa) Z (Bg (a:=(ms.getD (n.toNat) AB.z).kind) (b:=0) Z Z (Pk true (.bool (decide (((ms.getD (n.toNat) AB.z).kind)=0))) Z (AE Z aa) Z (As (.bool (decide (((ms.getD (n.toNat) AB.z).kind)=0))) Z Z (Nl (⟨Z,ab,Et (b:=(.bool (decide (((ms.getD (n.toNat) AB.z).kind)=0)):Value)) Z (congrArg Value.bool (by (simp [aa];done):decide (((ms.getD (n.toNat) AB.z).kind)=0)=(decide ((0≤n∧n≤(ms.length:Int)-1)∧(((ms.getD (n.toNat) AB.z).kind)=0)))))⟩))))))))))
  ·intro aa;exact Gs 3 8 (AD Z aa) Z (Gs 3 8 (AD Z aa) Z (Gs 3 8 (AD Z aa) Z (Gs 3 8 (AD Z aa) Z (Gs 3 8 (AD Z aa) Z (Gs 3 8 (AD Z aa) Z (Gs 3 8 (AD Z aa) Z (Gs 3 8 (AD Z aa) Z (Pk false (.bool false) Z (AD Z aa) Z (As (.bool false) Z Z (Nl (⟨Z,ab,Et (b:=(.bool false:Value)) Z (congrArg Value.bool (by (simp [aa];done):false=(decide ((0≤n∧n≤(ms.length:Int)-1)∧(((ms.getD (n.toNat) AB.z).kind)=0)))))⟩)))))))))))
 ·rintro _ _ _ ⟨an,ae,ao⟩;subst an;exact Rt (⟨.inr Z,Ac Z (v:=.bool (decide ((0≤n∧n≤(ms.length:Int)-1)∧(((ms.getD (n.toNat) AB.z).kind)=0)))) ao (⟨(by rfl),(ac.trans ae)⟩)⟩)
theorem SL {W:Wk Tryz.prog} {h:GH} (d:Int) (m:Int) (gs:List Good) (gsv:Value) (ms:List AB) (msv:Value) (cs:List AK) (csv:Value) (hgs:AN h gsv 5 BD gs) (hms:AN h msv 5 A1 ms) (hcs:AN h csv 4 Av cs):Ab W 194 #[.agg #[.int .i64 d,.int .i64 m,gsv,msv,csv]] h (fun v h'=>v=(.int .i64 (DU d m):Value)∧h.Le h'):=by
 have ad:=hgs.len;have ae:=hms.len;have af:=hcs.len;refine AO Tryz.func194 Z (Nb Z) (Sq (Rg (Pl Z (Ap (v:=.agg #[.int .i64 d,.int .i64 m,gsv,msv,csv]) (c:=#[.int .i64 d,.int .i64 m,gsv,msv,csv]) Z Z fun _ h5 _ ab al _=>As (.int .i64 0) Z Z (Nl (Sq (A9 (fun σ' ds' h'=>ds'=[]∧h5=h'∧σ' 2=.int .i64 0∧σ' 14=.bool (decide ((¬(1≤d∧d≤99))∨(¬(0≤m∧m≤2))))) ?_ ?_)))))))
 ·refine Rg (Fa Fx.fld104_0 Z Z (Fa Fx.fld26_0 Z Z (Ld (.int .i64 d) Z Z (Rd.one Fx.ty3 al Z) (Pl Z (Ar Tryz.func79 Fx.call79 Z Z Z ((BU d 1 99 ).mono fun _ _ ag=>?_))))));obtain ⟨rfl,rfl⟩:=ag;refine Pl Z (BO (p:=1≤d∧d≤99) Z (Mv (.bool (decide (¬(1≤d∧d≤99)))) Z Z (BM (p:=¬(1≤d∧d≤99)) ?_ ?_)))
  ·intro aa;exact Gs 5 8 (AE Z aa) Z (Gs 5 8 (AE Z aa) Z (Gs 5 8 (AE Z aa) Z (Gs 5 8 (AE Z aa) Z (Gs 5 8 (AE Z aa) Z (Pk true (.bool true) Z (AE Z aa) Z (Nl (⟨Z,Z,Z,Et (b:=(.bool true:Value)) Z (congrArg Value.bool (by (simp [aa];done):true=(decide ((¬(1≤d∧d≤99))∨(¬(0≤m∧m≤2))))))⟩)))))))
  ·intro aa;refine Gg 5 8 (AD Z aa) Z (AI Fx.fld104_0 Z (Gg 5 8 (AD Z aa) Z (AI Fx.fld26_1 Z (Gg 5 8 (AD Z aa) Z (AF (v:=.int .i64 m) Z (Rd.one Fx.ty3 al Z) (Gg 5 8 (AD Z aa) Z (Ar Tryz.func79 Fx.call79 Z Z Z ((BU m 0 2 ).mono fun _ _ ah=>?_))))))));obtain ⟨rfl,rfl⟩:=ah;exact Gg 5 8 (AD Z aa) Z (BO (p:=0≤m∧m≤2) Z (Pk false (.bool (decide (¬(0≤m∧m≤2)))) Z (AD Z aa) Z (Nl (⟨Z,Z,Z,Et (b:=(.bool (decide (¬(0≤m∧m≤2))):Value)) Z (congrArg Value.bool (by (simp [aa];done):decide (¬(0≤m∧m≤2))=(decide ((¬(1≤d∧d≤99))∨(¬(0≤m∧m≤2))))))⟩))))
 ·rintro _ _ _ ⟨ai,ac,am,aj⟩;subst ai;subst ac;refine AZ (p:=(¬(1≤d∧d≤99))∨(¬(0≤m∧m≤2))) aj (fun ak=>?_) (fun ak=>?_)
  ·exact Sq (Rg (As (.int .i64 1) Z Z (Nl (Rt (⟨.inr Z,Ac Z (v:=.int .i64 1) Z (⟨(by simp_all [DU]),ab⟩)⟩)))))
  ·exact Sk (Sq (Rg (As (.int .i64 0) Z Z (Nl (Rt (⟨.inr Z,Ac Z (v:=.int .i64 0) Z (⟨(by simp_all [DU]),ab⟩)⟩))))))
theorem MJ {W:Wk Tryz.prog} {h:GH} (xs:List Int) (xsv:Value) (fv:Value) (p:Int→Bool) (hxs:AN h xsv 1 eI xs) (hf:∀x ∈ xs,∀h1,h.Le h1→CJ W fv #[.int .i64 x] h1 fun v h2=>v=.bool (p x)∧h1.Le h2):Ab W 139 #[xsv,fv] h (fun v h'=>v=(.int .i64 (idxOf p xs):Value)∧h.Le h'):=by
 have ac:=hxs.len;refine AO Tryz.func139 Z (Nb Z) (Sq (Rg (As (.int .i64 0) Z Z (Nl (Sq (Sq (Rg (Mv xsv Z Z (Pl Z (AY Fx.sl27 hxs Z (Mv (.int .i64 0) Z Z (Nl (Bk (Ao (fun nn σ' ds' h'=>∃(k:Nat),nn=xs.length-k∧(k≤xs.length)∧((xs.take k).any p=false)∧ds'=[]∧GH.Le h h'∧σ' 0=xsv∧σ' 1=fv∧σ' 7=.int .i64 (xs.length:Int)∧σ' 8=.int .i64 (k:Int)) ⟨0,Z,(by omega),(by simp),Z,Lr,Z,Z,Z,Z⟩ (fun nn _ _ _ am=>?_)))))))))))))));obtain ⟨k,rfl,hk,hs,x6,x7,x8,x9,al,ad⟩:=am;subst x6;refine Sq (Rg (Pl Z (A5 (a:=(k:Int)) (b:=(xs.length:Int)) ad al (Nl (Sq (AZ (p:=(k:Int)<(xs.length:Int)) Z (fun ae=>?_) (fun ae=>?_)))))))
 ·refine Sk (Sq (Bk (Sq (Rg (Mv (.int .i64 (k:Int)) Z ad (As (.int .i64 (k:Int)) Z Z (Nl (Sq (Rg (Mv fv Z x9 (Mv xsv Z x8 (Mv (.int .i64 (k:Int)) Z Z ?_))))))))))));have af:(0:Int)≤(k:Int):=by omega
  have ag:(k:Int)<((xs.length:Nat):Int):=by omega
  refine Pl Z (Az Fx.esz27 hxs Z Z af ag fun an ab ah=>have ai:Aa _ an ab 1 (eI (xs.getD k 0)):=Aa.getD 0 ah;Ld (.int .i64 (xs.getD k 0)) Z Z (B3 Fx.ty3 (ai.le x7) Z) (Pl Z (Gk Z (vs:=#[.int .i64 (xs.getD k 0)]) (by simp only [List.map_toArray,List.map_cons,List.map_nil,AV] <;> rfl) ((hf (xs.getD k 0) (Ck (by omega)) _ x7).mono fun _ _ aj=>?_))));obtain ⟨rfl,aa⟩:=aj;refine Nl (CR (t:=p (xs.getD k 0)) Z (fun ak=>?_) (fun ak=>?_))
  ·exact Sq (Rg (Mv (.int .i64 (k:Int)) Z Z (As (.int .i64 (k:Int)) Z Z (Nl (Rt (⟨.inr Z,Ac Z (v:=.int .i64 (k:Int)) Z (⟨(by (rw [Ja (k:=k) (by omega) hs ‹_›];done)),(x7.trans aa)⟩)⟩))))))
  ·exact Sk (Rg (Ad (k:Int) 1 Z ad Z (by omega) (Mv (.int .i64 ((k:Int)+1)) Z Z (Nl (⟨_,by omega,k+1,Z,(by omega),(by exact Iu (d:=0) (by omega) hs ‹_›),Z,(x7.trans aa),x8,x9,al,Z⟩)))))
 ·exact Xt (Sq (Rg (As (.int .i64 (-1)) Z Z (Nl (Rt (⟨.inr Z,Ac Z (v:=.int .i64 (-1)) Z (⟨(by (rw [IN (k:=k) (by omega) hs])),x7⟩)⟩))))))
theorem GY {W:Wk Tryz.prog} {h:GH} (xs:List Int) (xsv:Value) (fv:Value) (p:Int→Bool) (hxs:AN h xsv 1 eI xs) (hf:∀x ∈ xs,∀h1,h.Le h1→CJ W fv #[.int .i64 x] h1 fun v h2=>v=.bool (p x)∧h1.Le h2):Ab W 92 #[xsv,fv] h (fun v h'=>v=(.bool (xs.any p):Value)∧h.Le h'):=by
 have aa:=hxs.len;refine AO Tryz.func92 Z (Nb Z) (Sq (Rg (As (.bool false) Z Z (Nl (Sq (Rg (Mv xsv Z Z (Mv fv Z Z (Pl Z (AX Tryz.func139 Fx.call139 Z Z ((MJ xs xsv fv p hxs (fun x hx h1 l1=>hf x hx h1 (GH.Le.trans Lr l1))).mono fun _ _ ac=>?_)))))))))));obtain ⟨rfl,ab⟩:=ac;exact Pl Z (CE (a:=idxOf p xs) (b:=0) Z Z (As (.bool (decide (0≤(idxOf p xs)))) Z Z (Nl (Rt (⟨.inr Z,Ac Z (v:=.bool (decide (0≤(idxOf p xs)))) Z (⟨(by rw [show decide (0≤idxOf p xs)=xs.any p from by rw [Bool.eq_iff_iff];simp [GQ]]),ab⟩)⟩)))))
theorem KH {W:Wk Tryz.prog} {h:GH} (xs:List AK) (xsv:Value) (fv:Value) (p:AK→Bool) (hxs:AN h xsv 4 Av xs) (hf:∀x ∈ xs,∀h1,h.Le h1→CJ W fv #[.agg #[.int .i64 x.good,.int .i64 x.day,.int .i64 x.low,.int .i64 x.high]] h1 fun v h2=>v=.bool (p x)∧h1.Le h2):Ab W 158 #[xsv,fv] h (fun v h'=>v=(.int .i64 (idxOf p xs):Value)∧h.Le h'):=by
 have ac:=hxs.len;refine AO Tryz.func158 Z (Nb Z) (Sq (Rg (As (.int .i64 0) Z Z (Nl (Sq (Sq (Rg (Mv xsv Z Z (Pl Z (AY Fx.sl24 hxs Z (Mv (.int .i64 0) Z Z (Nl (Bk (Ao (fun nn σ' ds' h'=>∃(k:Nat),nn=xs.length-k∧(k≤xs.length)∧((xs.take k).any p=false)∧ds'=[]∧GH.Le h h'∧σ' 0=xsv∧σ' 1=fv∧σ' 7=.int .i64 (xs.length:Int)∧σ' 8=.int .i64 (k:Int)) ⟨0,Z,(by omega),(by simp),Z,Lr,Z,Z,Z,Z⟩ (fun nn _ _ _ am=>?_)))))))))))))));obtain ⟨k,rfl,hk,hs,x6,x7,x8,x9,al,ad⟩:=am;subst x6;refine Sq (Rg (Pl Z (A5 (a:=(k:Int)) (b:=(xs.length:Int)) ad al (Nl (Sq (AZ (p:=(k:Int)<(xs.length:Int)) Z (fun ae=>?_) (fun ae=>?_)))))))
 ·refine Sk (Sq (Bk (Sq (Rg (Mv (.int .i64 (k:Int)) Z ad (As (.int .i64 (k:Int)) Z Z (Nl (Sq (Rg (Mv fv Z x9 (Mv xsv Z x8 (Mv (.int .i64 (k:Int)) Z Z ?_))))))))))));have af:(0:Int)≤(k:Int):=by omega
  have ag:(k:Int)<((xs.length:Nat):Int):=by omega
  refine Pl Z (Az Fx.esz24 hxs Z Z af ag fun an ab ah=>have ai:Aa _ an ab 4 (Av (xs.getD k AK.z)):=Aa.getD AK.z ah;Ld (.agg #[.int .i64 ((xs.getD k AK.z).good),.int .i64 ((xs.getD k AK.z).day),.int .i64 ((xs.getD k AK.z).low),.int .i64 ((xs.getD k AK.z).high)]) Z Z (AR Fx.ty79 (ai.le x7)) (Pl Z (Gk Z (vs:=#[.agg #[.int .i64 ((xs.getD k AK.z).good),.int .i64 ((xs.getD k AK.z).day),.int .i64 ((xs.getD k AK.z).low),.int .i64 ((xs.getD k AK.z).high)]]) (by simp only [List.map_toArray,List.map_cons,List.map_nil,AV] <;> rfl) ((hf (xs.getD k AK.z) (Ck (by omega)) _ x7).mono fun _ _ aj=>?_))));obtain ⟨rfl,aa⟩:=aj;refine Nl (CR (t:=p (xs.getD k AK.z)) Z (fun ak=>?_) (fun ak=>?_))
  ·exact Sq (Rg (Mv (.int .i64 (k:Int)) Z Z (As (.int .i64 (k:Int)) Z Z (Nl (Rt (⟨.inr Z,Ac Z (v:=.int .i64 (k:Int)) Z (⟨(by (rw [Ja (k:=k) (by omega) hs ‹_›];done)),(x7.trans aa)⟩)⟩))))))
  ·exact Sk (Rg (Ad (k:Int) 1 Z ad Z (by omega) (Mv (.int .i64 ((k:Int)+1)) Z Z (Nl (⟨_,by omega,k+1,Z,(by omega),(by exact Iu (d:=AK.z) (by omega) hs ‹_›),Z,(x7.trans aa),x8,x9,al,Z⟩)))))
 ·exact Xt (Sq (Rg (As (.int .i64 (-1)) Z Z (Nl (Rt (⟨.inr Z,Ac Z (v:=.int .i64 (-1)) Z (⟨(by (rw [IN (k:=k) (by omega) hs])),x7⟩)⟩))))))
theorem Ic {W:Wk Tryz.prog} {h:GH} (xs:List AK) (xsv:Value) (fv:Value) (p:AK→Bool) (hxs:AN h xsv 4 Av xs) (hf:∀x ∈ xs,∀h1,h.Le h1→CJ W fv #[.agg #[.int .i64 x.good,.int .i64 x.day,.int .i64 x.low,.int .i64 x.high]] h1 fun v h2=>v=.bool (p x)∧h1.Le h2):Ab W 144 #[xsv,fv] h (fun v h'=>v=(.bool (xs.any p):Value)∧h.Le h'):=by
 have aa:=hxs.len;refine AO Tryz.func144 Z (Nb Z) (Sq (Rg (As (.bool false) Z Z (Nl (Sq (Rg (Mv xsv Z Z (Mv fv Z Z (Pl Z (AX Tryz.func158 Fx.call158 Z Z ((KH xs xsv fv p hxs (fun x hx h1 l1=>hf x hx h1 (GH.Le.trans Lr l1))).mono fun _ _ ac=>?_)))))))))));obtain ⟨rfl,ab⟩:=ac;exact Pl Z (CE (a:=idxOf p xs) (b:=0) Z Z (As (.bool (decide (0≤(idxOf p xs)))) Z Z (Nl (Rt (⟨.inr Z,Ac Z (v:=.bool (decide (0≤(idxOf p xs)))) Z (⟨(by rw [show decide (0≤idxOf p xs)=xs.any p from by rw [Bool.eq_iff_iff];simp [GQ]]),ab⟩)⟩)))))
theorem Lh {W:Wk Tryz.prog} {h:GH} (xs:List Good) (xsv:Value) (fv:Value) (p:Good→Bool) (hxs:AN h xsv 5 BD xs) (hf:∀x ∈ xs,∀h1,h.Le h1→CJ W fv #[.agg #[.string x.name,.int .i64 x.cost,.int .i64 x.pack,.int .i64 x.low,.int .i64 x.high]] h1 fun v h2=>v=.bool (p x)∧h1.Le h2):Ab W 202 #[xsv,fv] h (fun v h'=>v=(.int .i64 (idxOf p xs):Value)∧h.Le h'):=by
 have ac:=hxs.len;refine AO Tryz.func202 Z (Nb Z) (Sq (Rg (As (.int .i64 0) Z Z (Nl (Sq (Sq (Rg (Mv xsv Z Z (Pl Z (AY Fx.sl22 hxs Z (Mv (.int .i64 0) Z Z (Nl (Bk (Ao (fun nn σ' ds' h'=>∃(k:Nat),nn=xs.length-k∧(k≤xs.length)∧((xs.take k).any p=false)∧ds'=[]∧GH.Le h h'∧σ' 0=xsv∧σ' 1=fv∧σ' 7=.int .i64 (xs.length:Int)∧σ' 8=.int .i64 (k:Int)) ⟨0,Z,(by omega),(by simp),Z,Lr,Z,Z,Z,Z⟩ (fun nn _ _ _ am=>?_)))))))))))))));obtain ⟨k,rfl,hk,hs,x6,x7,x8,x9,al,ad⟩:=am;subst x6;refine Sq (Rg (Pl Z (A5 (a:=(k:Int)) (b:=(xs.length:Int)) ad al (Nl (Sq (AZ (p:=(k:Int)<(xs.length:Int)) Z (fun ae=>?_) (fun ae=>?_)))))))
 ·refine Sk (Sq (Bk (Sq (Rg (Mv (.int .i64 (k:Int)) Z ad (As (.int .i64 (k:Int)) Z Z (Nl (Sq (Rg (Mv fv Z x9 (Mv xsv Z x8 (Mv (.int .i64 (k:Int)) Z Z ?_))))))))))));have af:(0:Int)≤(k:Int):=by omega
  have ag:(k:Int)<((xs.length:Nat):Int):=by omega
  refine Pl Z (Az Fx.esz22 hxs Z Z af ag fun an ab ah=>have ai:Aa _ an ab 5 (BD (xs.getD k Good.z)):=Aa.getD Good.z ah;Ld (.agg #[.string ((xs.getD k Good.z).name),.int .i64 ((xs.getD k Good.z).cost),.int .i64 ((xs.getD k Good.z).pack),.int .i64 ((xs.getD k Good.z).low),.int .i64 ((xs.getD k Good.z).high)]) Z Z (AR Fx.ty99 (ai.le x7)) (Pl Z (Gk Z (vs:=#[.agg #[.string ((xs.getD k Good.z).name),.int .i64 ((xs.getD k Good.z).cost),.int .i64 ((xs.getD k Good.z).pack),.int .i64 ((xs.getD k Good.z).low),.int .i64 ((xs.getD k Good.z).high)]]) (by simp only [List.map_toArray,List.map_cons,List.map_nil,AV] <;> rfl) ((hf (xs.getD k Good.z) (Ck (by omega)) _ x7).mono fun _ _ aj=>?_))));obtain ⟨rfl,aa⟩:=aj;refine Nl (CR (t:=p (xs.getD k Good.z)) Z (fun ak=>?_) (fun ak=>?_))
  ·exact Sq (Rg (Mv (.int .i64 (k:Int)) Z Z (As (.int .i64 (k:Int)) Z Z (Nl (Rt (⟨.inr Z,Ac Z (v:=.int .i64 (k:Int)) Z (⟨(by (rw [Ja (k:=k) (by omega) hs ‹_›];done)),(x7.trans aa)⟩)⟩))))))
  ·exact Sk (Rg (Ad (k:Int) 1 Z ad Z (by omega) (Mv (.int .i64 ((k:Int)+1)) Z Z (Nl (⟨_,by omega,k+1,Z,(by omega),(by exact Iu (d:=Good.z) (by omega) hs ‹_›),Z,(x7.trans aa),x8,x9,al,Z⟩)))))
 ·exact Xt (Sq (Rg (As (.int .i64 (-1)) Z Z (Nl (Rt (⟨.inr Z,Ac Z (v:=.int .i64 (-1)) Z (⟨(by (rw [IN (k:=k) (by omega) hs])),x7⟩)⟩))))))
theorem JR {W:Wk Tryz.prog} {h:GH} (xs:List Good) (xsv:Value) (fv:Value) (p:Good→Bool) (hxs:AN h xsv 5 BD xs) (hf:∀x ∈ xs,∀h1,h.Le h1→CJ W fv #[.agg #[.string x.name,.int .i64 x.cost,.int .i64 x.pack,.int .i64 x.low,.int .i64 x.high]] h1 fun v h2=>v=.bool (p x)∧h1.Le h2):Ab W 199 #[xsv,fv] h (fun v h'=>v=(.bool (xs.any p):Value)∧h.Le h'):=by
 have aa:=hxs.len;refine AO Tryz.func199 Z (Nb Z) (Sq (Rg (As (.bool false) Z Z (Nl (Sq (Rg (Mv xsv Z Z (Mv fv Z Z (Pl Z (AX Tryz.func202 Fx.call202 Z Z ((Lh xs xsv fv p hxs (fun x hx h1 l1=>hf x hx h1 (GH.Le.trans Lr l1))).mono fun _ _ ac=>?_)))))))))));obtain ⟨rfl,ab⟩:=ac;exact Pl Z (CE (a:=idxOf p xs) (b:=0) Z Z (As (.bool (decide (0≤(idxOf p xs)))) Z Z (Nl (Rt (⟨.inr Z,Ac Z (v:=.bool (decide (0≤(idxOf p xs)))) Z (⟨(by rw [show decide (0≤idxOf p xs)=xs.any p from by rw [Bool.eq_iff_iff];simp [GQ]]),ab⟩)⟩)))))
theorem MK {W:Wk Tryz.prog} {h:GH} (n:Int):Ab W 155 #[.int .i64 n] h (fun v h'=>v=(.bool (decide (¬(0≤n∧n≤99))):Value)∧h=h'):=by
 refine AO Tryz.func155 Z (Nb Z) (Sq (Rg (As (.bool false) Z Z (Nl (Sq (Rg (Mv (.int .i64 n) Z Z (Pl Z (Ar Tryz.func79 Fx.call79 Z Z Z ((BU n 0 99 ).mono fun _ _ aa=>?_))))))))));obtain ⟨rfl,rfl⟩:=aa;exact Pl Z (BO (p:=0≤n∧n≤99) Z (As (.bool (decide (¬(0≤n∧n≤99)))) Z Z (Nl (Rt (⟨.inr Z,Ac Z (v:=.bool (decide (¬(0≤n∧n≤99)))) Z (⟨Z,Z⟩)⟩)))))
theorem JS {W:Wk Tryz.prog} {h:GH} (l:List Int) (lv:Value) (m:Int) (hl:AN h lv 1 eI l):Ab W 140 #[lv,.int .i64 m] h (fun v h'=>v=(.int .i64 (Aw l m):Value)∧h.Le h'):=by
 have ab:=hl.len;refine AO Tryz.func140 Z (Nb Z) (Sq (Rg (As (.int .i64 0) Z Z (Nl (Sq (Bk (Sq (Rg (Mv lv Z Z (Pl Z (AY Fx.sl27 hl Z (Mv (.int .i64 m) Z Z (Pl Z (A4 (a:=(l.length:Int)) (b:=m) Z Z (As (.bool (decide (¬(l.length:Int)=m))) Z Z (Nl (AZ (p:=¬(l.length:Int)=m) Z (fun ac=>?_) (fun ac=>?_))))))))))))))))))
 ·exact Sq (Rg (As (.int .i64 2) Z Z (Nl (Rt (⟨.inr Z,Ac Z (v:=.int .i64 2) Z (⟨(by simp_all [Aw]),Lr⟩)⟩)))))
 ·refine Sq (Rg (Mv lv Z Z ?_));have ad:∀x ∈ l,∀h1,GH.Le h h1→CJ W (.func (.func 155) #[] #[]) #[.int .i64 x] h1 fun v h2=>v=.bool ((fun x=>decide (¬(0≤x∧x≤99))) x)∧h1.Le h2:=by
   intro x hx h1 _;exact Bv Tryz.func155 Fx.call155 Z ((MK x ).mono fun v h2 hp=>⟨hp.1,by rw [←hp.2];exact GH.Le.refl _⟩)
  refine Pl Z (AX Tryz.func92 Fx.call92 Z Z ((GY l lv (.func (.func 155) #[] #[]) (fun x=>decide (¬(0≤x∧x≤99))) hl ad).mono fun _ _ ae=>?_));obtain ⟨rfl,aa⟩:=ae;refine As (.bool (l.any (fun x=>decide (¬(0≤x∧x≤99))))) Z Z (Nl (CR (t:=l.any (fun x=>decide (¬(0≤x∧x≤99)))) Z (fun af=>?_) (fun af=>?_)))
  ·exact Sq (Rg (As (.int .i64 1) Z Z (Nl (Rt (⟨.inr Z,Ac Z (v:=.int .i64 1) Z (⟨(by simp_all [Aw]),aa⟩)⟩)))))
  ·exact Sk (Sq (Rg (As (.int .i64 0) Z Z (Nl (Rt (⟨.inr Z,Ac Z (v:=.int .i64 0) Z (⟨(by simp_all [Aw]),aa⟩)⟩))))))
end Go.Ns
namespace Go.Ns
open Go.Conc Go.Proofs
attribute [local irreducible] Bd DS Tr Ab CJ Bs
theorem Qi {W:Wk Tryz.prog} {h:GH} (d:Int) (m:Int) (gs:List Good) (gsv:Value) (ms:List AB) (msv:Value) (cs:List AK) (csv:Value) (hgs:AN h gsv 5 BD gs) (hms:AN h msv 5 A1 ms) (hcs:AN h csv 4 Av cs):Ab W 196 #[.agg #[.int .i64 d,.int .i64 m,gsv,msv,csv]] h (fun v h'=>v=(.int .i64 (BI d gs ms):Value)∧h.Le h'):=by
 have av:=hgs.len;have aw:=hms.len;have ax:=hcs.len;refine AO Tryz.func196 Z (Nb Z) (Sq (Rg (Pl Z (Ap (v:=.agg #[.int .i64 d,.int .i64 m,gsv,msv,csv]) (c:=#[.int .i64 d,.int .i64 m,gsv,msv,csv]) Z Z fun r4 h5 _ af ay _=>As (.int .i64 0) Z Z (Nl (Sq (Sq (Rg (Fa Fx.fld104_0 Z Z (Fa Fx.fld26_3 Z Z (Ld msv Z Z (Rd.one Fx.ty23 ay Z) (have ak:=hms.le af;Pl Z (AY Fx.sl23 ak Z (Pl Z (DD (a:=(ms.length:Int)) (b:=6) Z Z (Nl (AZ (p:=6<(ms.length:Int)) Z (fun az=>?_) (fun az=>?_))))))))))))))))))
 ·exact Sq (Rg (As (.int .i64 2) Z Z (Nl (Rt (⟨.inr Z,Ac Z (v:=.int .i64 2) Z (⟨(by (symm;congr 1;rw [BI,if_pos ‹_›];done)),af⟩)⟩)))))
 ·refine Sk (Sq (Rg (As (.int .i64 0) Z Z (Nl (Sq (Sq (Rg (Fa Fx.fld104_0 Z Z (Fa Fx.fld26_3 Z Z (Ld msv Z Z (Rd.one Fx.ty23 ay Z) (Pl Z (AY Fx.sl23 ak Z (Mv (.int .i64 0) Z Z (Nl (Bk (Ao (fun nn σ' ds' h'=>∃(k:Nat),nn=ms.length-k∧(k≤ms.length)∧(∀j,j<k→Cl d gs ms j=0)∧ds'=[]∧GH.Le h5 h'∧σ' 1=.pointer (some ⟨r4,0,none⟩)∧σ' 13=msv∧σ' 14=.int .i64 (ms.length:Int)∧σ' 3=.int .i64 (CT ms k)∧σ' 15=.int .i64 (k:Int)) ⟨0,Z,(by omega),(by (intro j hj;omega)),Z,Lr,Z,Z,Z,Z,Z⟩ (fun nn _ _ _ a0=>?_)))))))))))))))));obtain ⟨k,rfl,hk,hs,bi,al,a1,bg,bh,bj,a2⟩:=a0;subst bi;refine Sq (Rg (Pl Z (A5 (a:=(k:Int)) (b:=(ms.length:Int)) a2 bh (Nl (Sq (AZ (p:=(k:Int)<(ms.length:Int)) Z (fun a3=>?_) (fun a3=>?_)))))))
  ·refine Sk (Sq (Bk (Sq (Rg ?_))));have a4:(0:Int)≤(k:Int):=by omega
   have a5:(k:Int)<((ms.length:Nat):Int):=by omega
   refine Pl Z (Az Fx.esz23 hms bg a2 a4 a5 fun bk am a6=>have a7:Aa _ bk am 5 (A1 (ms.getD k AB.z)):=Aa.getD AB.z a6;have ad:=af.trans al;Ld (.agg #[.int .i64 ((ms.getD k AB.z).kind),.int .i64 ((ms.getD k AB.z).good),.int .i64 ((ms.getD k AB.z).day),.int .i64 ((ms.getD k AB.z).low),.int .i64 ((ms.getD k AB.z).high)]) Z Z (AR Fx.ty75 (a7.le ad)) (have an:=al.keep ay Z;Pl Z (Aj Fx.zero75 fun bl _ ag ac a8 _=>have a9:r4≠bl:=Cg an ag;Pl Z (AL (v:=.agg #[.int .i64 ((ms.getD k AB.z).kind),.int .i64 ((ms.getD k AB.z).good),.int .i64 ((ms.getD k AB.z).day),.int .i64 ((ms.getD k AB.z).low),.int .i64 ((ms.getD k AB.z).high)]) (c':=#[.int .i64 ((ms.getD k AB.z).kind),.int .i64 ((ms.getD k AB.z).good),.int .i64 ((ms.getD k AB.z).day),.int .i64 ((ms.getD k AB.z).low),.int .i64 ((ms.getD k AB.z).high)]) Fx.ty75 Z Z a8 Z Z (by simp) Z fun _ aj ah=>Nl (Sq (Bk (Sq (Rg (Fa Fx.fld75_0 Z Z (Ld (.int .i64 ((ms.getD k AB.z).kind)) Z Z (Rd.one Fx.ty73 aj Z) (Pl Z (Ar Tryz.func79 Fx.call79 Z Z Z ((BU ((ms.getD k AB.z).kind) 0 4 ).mono fun _ _ ba=>?_)))))))))))));obtain ⟨rfl,rfl⟩:=ba;refine Pl Z (BO (p:=0≤((ms.getD k AB.z).kind)∧((ms.getD k AB.z).kind)≤4) Z (As (.bool (decide (¬(0≤((ms.getD k AB.z).kind)∧((ms.getD k AB.z).kind)≤4)))) Z Z (Nl (AZ (p:=¬(0≤((ms.getD k AB.z).kind)∧((ms.getD k AB.z).kind)≤4)) Z (fun ao=>?_) (fun ao=>?_)))))
   ·exact Sq (Rg (As (.int .i64 1) Z Z (Nl (Rt (⟨.inr Z,Ac Z (v:=.int .i64 1) Z (⟨(by (symm;congr 1;rw [BI,if_neg ‹_›];exact BP (k:=k) hs (by omega) (by unfold Cl;(simp only [*,not_true_eq_false,not_false_eq_true,if_true,if_false,true_or,or_true,reduceCtorEq,Bool.false_eq_true];done)) (by decide))),((ad.trans ac).upd (Ln ad ag) ah)⟩)⟩)))))
   ·have hc48_:=Dn ao;refine Sq (Rg (have ap:=(ah _ a9).trans (ac.keep an Z);Ld (.agg #[.int .i64 d,.int .i64 m,gsv,msv,csv]) Z a1 (AR Fx.ty104 (Bx ap Z)) (Fa Fx.fld75_1 Z Z (Ld (.int .i64 ((ms.getD k AB.z).good)) Z Z (Rd.one Fx.ty3 aj Z) (have ab:=(ad.trans ac).upd (Ln ad ag) ah;Pl Z (AX Tryz.func77 Fx.call77 Z Z ((E2 d m gs gsv ms msv cs csv ((ms.getD k AB.z).good) (hgs.le ab) (hms.le ab) (hcs.le ab) ).mono fun _ _ bb=>?_)))))));obtain ⟨rfl,aa⟩:=bb;refine Pl Z (BO (p:=0≤((ms.getD k AB.z).good)∧((ms.getD k AB.z).good)≤(gs.length:Int)-1) Z (As (.bool (decide (¬(0≤((ms.getD k AB.z).good)∧((ms.getD k AB.z).good)≤(gs.length:Int)-1)))) Z Z (Nl (AZ (p:=¬(0≤((ms.getD k AB.z).good)∧((ms.getD k AB.z).good)≤(gs.length:Int)-1)) Z (fun aq=>?_) (fun aq=>?_)))))
    ·exact Sq (Rg (As (.int .i64 6) Z Z (Nl (Rt (⟨.inr Z,Ac Z (v:=.int .i64 6) Z (⟨(by (symm;congr 1;rw [BI,if_neg ‹_›];exact BP (k:=k) hs (by omega) (by unfold Cl;(clear hs;simp_all;done)) (by decide))),(ab.trans aa)⟩)⟩)))))
    ·have hc59_:=Dn aq;refine Sq (Rg (Fa Fx.fld75_2 Z Z (have ai:=aa.keep aj Z;Ld (.int .i64 ((ms.getD k AB.z).day)) Z Z (Rd.one Fx.ty3 ai Z) (Fa Fx.fld104_0 Z a1 (Fa Fx.fld26_0 Z Z (Ld (.int .i64 d) Z Z (Rd.one Fx.ty3 (aa.keep ap Z) Z) (Pl Z (Ar Tryz.func79 Fx.call79 Z Z Z ((BU ((ms.getD k AB.z).day) 1 d ).mono fun _ _ bc=>?_)))))))));obtain ⟨rfl,rfl⟩:=bc;refine Pl Z (BO (p:=1≤((ms.getD k AB.z).day)∧((ms.getD k AB.z).day)≤d) Z (As (.bool (decide (¬(1≤((ms.getD k AB.z).day)∧((ms.getD k AB.z).day)≤d)))) Z Z (Nl (AZ (p:=¬(1≤((ms.getD k AB.z).day)∧((ms.getD k AB.z).day)≤d)) Z (fun ar=>?_) (fun ar=>?_)))))
     ·exact Sq (Rg (As (.int .i64 1) Z Z (Nl (Rt (⟨.inr Z,Ac Z (v:=.int .i64 1) Z (⟨(by (symm;congr 1;rw [BI,if_neg ‹_›];exact BP (k:=k) hs (by omega) (by unfold Cl;(clear hs;simp_all;done)) (by decide))),(ab.trans aa)⟩)⟩)))))
     ·have hc67_:=Dn ar;refine Sq (Rg (Fa Fx.fld75_2 Z Z (Ld (.int .i64 ((ms.getD k AB.z).day)) Z Z (Rd.one Fx.ty3 ai Z) (Mv (.int .i64 (CT ms k)) Z bj (Pl Z (A5 (a:=(ms.getD k AB.z).day) (b:=CT ms k) Z Z (As (.bool (decide (((ms.getD k AB.z).day)<(CT ms k)))) Z Z (Nl (AZ (p:=((ms.getD k AB.z).day)<(CT ms k)) Z (fun bd=>?_) (fun bd=>?_))))))))))
      ·exact Sq (Rg (As (.int .i64 7) Z Z (Nl (Rt (⟨.inr Z,Ac Z (v:=.int .i64 7) Z (⟨(by (symm;congr 1;rw [BI,if_neg ‹_›];exact BP (k:=k) hs (by omega) (by unfold Cl;(clear hs;simp_all;done)) (by decide))),(ab.trans aa)⟩)⟩)))))
      ·refine Sq (Rg (Fa Fx.fld75_3 Z Z (Ld (.agg #[.int .i64 ((ms.getD k AB.z).low),.int .i64 ((ms.getD k AB.z).high)]) Z Z (GC (o:=3) (ws:=#[.int .i64 ((ms.getD k AB.z).low),.int .i64 ((ms.getD k AB.z).high)]) Fx.ty31 (Bx ai Z) (Nb Z) Z) (Pl Z (Am Tryz.func201 Fx.call201 Z ((PL ((ms.getD k AB.z).low) ((ms.getD k AB.z).high) ).mono fun _ _ be=>?_))))));obtain ⟨rfl,ae⟩:=be;refine Pl Z (BO (p:=CM ((ms.getD k AB.z).low) ((ms.getD k AB.z).high)) Z (As (.bool (decide (¬(CM ((ms.getD k AB.z).low) ((ms.getD k AB.z).high))))) Z Z (Nl (AZ (p:=¬(CM ((ms.getD k AB.z).low) ((ms.getD k AB.z).high))) Z (fun au=>?_) (fun au=>?_)))))
       ·exact Sq (Rg (As (.int .i64 1) Z Z (Nl (Rt (⟨.inr Z,Ac Z (v:=.int .i64 1) Z (⟨(by (symm;congr 1;rw [BI,if_neg ‹_›];exact BP (k:=k) hs (by omega) (by unfold Cl;(clear hs;simp_all;done)) (by decide))),((ab.trans aa).trans ae)⟩)⟩)))))
       ·have hc75_:=Dn au;exact Sk (Rg (Fa Fx.fld75_2 Z Z (Ld (.int .i64 ((ms.getD k AB.z).day)) Z Z (Rd.one Fx.ty3 (ae.keep ai Z) Z) (As (.int .i64 ((ms.getD k AB.z).day)) Z Z (Nl (Rg (Ad (k:Int) 1 Z a2 Z (by omega) (Mv (.int .i64 ((k:Int)+1)) Z Z (Nl (have bf:=(((al.trans ac).upd (Ln al ag) ah).trans aa).trans ae;⟨_,by omega,k+1,Z,(by omega),(by exact Cx hs (by unfold Cl;(clear hs;simp_all;done))),Z,bf,a1,bg,bh,(Et (b:=(.int .i64 ((ms.getD k AB.z).day):Value)) Z (by simp [CT])),Z⟩))))))))))
  ·exact Xt (Sq (Rg (As (.int .i64 0) Z Z (Nl (Rt (⟨.inr Z,Ac Z (v:=.int .i64 0) Z (⟨(by (symm;congr 1;rw [BI,if_neg ‹_›];exact CB (k:=k) hs (by omega))),(af.trans al)⟩)⟩))))))
theorem PN {W:Wk Tryz.prog} {h:GH} (d:Int) (m:Int) (gs:List Good) (gsv:Value) (ms:List AB) (msv:Value) (cs:List AK) (csv:Value) (hgs:AN h gsv 5 BD gs) (hms:AN h msv 5 A1 ms) (hcs:AN h csv 4 Av cs):Ab W 197 #[.agg #[.int .i64 d,.int .i64 m,gsv,msv,csv]] h (fun v h'=>v=(.int .i64 (By d gs cs):Value)∧h.Le h'):=by
 have aw:=hgs.len;have ax:=hms.len;have ay:=hcs.len;refine AO Tryz.func197 Z (Nb Z) (Sq (Rg (Pl Z (Ap (v:=.agg #[.int .i64 d,.int .i64 m,gsv,msv,csv]) (c:=#[.int .i64 d,.int .i64 m,gsv,msv,csv]) Z Z fun r4 h5 _ ae az _=>As (.int .i64 0) Z Z (Nl (Sq (Sq (Rg (Fa Fx.fld104_0 Z Z (Fa Fx.fld26_4 Z Z (Ld csv Z Z (Rd.one Fx.ty24 az Z) (have aj:=hcs.le ae;Pl Z (AY Fx.sl24 aj Z (Pl Z (DD (a:=(cs.length:Int)) (b:=4) Z Z (Nl (AZ (p:=4<(cs.length:Int)) Z (fun a0=>?_) (fun a0=>?_))))))))))))))))))
 ·exact Sq (Rg (As (.int .i64 2) Z Z (Nl (Rt (⟨.inr Z,Ac Z (v:=.int .i64 2) Z (⟨(by (symm;congr 1;rw [By,if_pos ‹_›];done)),ae⟩)⟩)))))
 ·refine Sk (Sq (Sq (Rg (Fa Fx.fld104_0 Z Z (Fa Fx.fld26_4 Z Z (Ld csv Z Z (Rd.one Fx.ty24 az Z) (Pl Z (AY Fx.sl24 aj Z (Mv (.int .i64 0) Z Z (Nl (Bk (Ao (fun nn σ' ds' h'=>∃(k:Nat),nn=cs.length-k∧(k≤cs.length)∧(∀j,j<k→D5 d gs cs j=0)∧ds'=[]∧GH.Le h5 h'∧σ' 1=.pointer (some ⟨r4,0,none⟩)∧σ' 12=csv∧σ' 13=.int .i64 (cs.length:Int)∧σ' 14=.int .i64 (k:Int)) ⟨0,Z,(by omega),(by (intro j hj;omega)),Z,Lr,Z,Z,Z,Z⟩ (fun nn _ _ _ a1=>?_)))))))))))));obtain ⟨k,rfl,hk,hs,bm,ak,au,a2,a3,av⟩:=a1;subst bm;refine Sq (Rg (Pl Z (A5 (a:=(k:Int)) (b:=(cs.length:Int)) av a3 (Nl (Sq (AZ (p:=(k:Int)<(cs.length:Int)) Z (fun a4=>?_) (fun a4=>?_)))))))
  ·refine Sk (Sq (Bk (Sq (Rg ?_))));have a5:(0:Int)≤(k:Int):=by omega
   have a6:(k:Int)<((cs.length:Nat):Int):=by omega
   refine Pl Z (Az Fx.esz24 hcs a2 av a5 a6 fun bn al a7=>have a8:Aa _ bn al 4 (Av (cs.getD k AK.z)):=Aa.getD AK.z a7;have ag:=ae.trans ak;Ld (.agg #[.int .i64 ((cs.getD k AK.z).good),.int .i64 ((cs.getD k AK.z).day),.int .i64 ((cs.getD k AK.z).low),.int .i64 ((cs.getD k AK.z).high)]) Z Z (AR Fx.ty79 (a8.le ag)) (have am:=ak.keep az Z;Pl Z (Aj Fx.zero79 fun bo _ ah ac a9 _=>have ba:r4≠bo:=Cg am ah;Pl Z (AL (v:=.agg #[.int .i64 ((cs.getD k AK.z).good),.int .i64 ((cs.getD k AK.z).day),.int .i64 ((cs.getD k AK.z).low),.int .i64 ((cs.getD k AK.z).high)]) (c':=#[.int .i64 ((cs.getD k AK.z).good),.int .i64 ((cs.getD k AK.z).day),.int .i64 ((cs.getD k AK.z).low),.int .i64 ((cs.getD k AK.z).high)]) Fx.ty79 Z Z a9 Z Z (by simp) Z fun _ an ai=>Nl (Bk (Sq (Rg (have ao:=(ai _ ba).trans (ac.keep am Z);Ld (.agg #[.int .i64 d,.int .i64 m,gsv,msv,csv]) Z au (AR Fx.ty104 (Bx ao Z)) (Fa Fx.fld79_0 Z Z (Ld (.int .i64 ((cs.getD k AK.z).good)) Z Z (Rd.one Fx.ty3 an Z) (have ad:=(ag.trans ac).upd (Ln ag ah) ai;Pl Z (AX Tryz.func77 Fx.call77 Z Z ((E2 d m gs gsv ms msv cs csv ((cs.getD k AK.z).good) (hgs.le ad) (hms.le ad) (hcs.le ad) ).mono fun _ bp bb=>?_)))))))))))));obtain ⟨rfl,ab⟩:=bb;refine Pl Z (BO (p:=0≤((cs.getD k AK.z).good)∧((cs.getD k AK.z).good)≤(gs.length:Int)-1) Z (As (.bool (decide (¬(0≤((cs.getD k AK.z).good)∧((cs.getD k AK.z).good)≤(gs.length:Int)-1)))) Z Z (Nl (AZ (p:=¬(0≤((cs.getD k AK.z).good)∧((cs.getD k AK.z).good)≤(gs.length:Int)-1)) Z (fun ap=>?_) (fun ap=>?_)))))
   ·exact Sq (Rg (As (.int .i64 6) Z Z (Nl (Rt (⟨.inr Z,Ac Z (v:=.int .i64 6) Z (⟨(by (symm;congr 1;rw [By,if_neg ‹_›];exact BP (k:=k) hs (by omega) (by unfold D5;(simp only [*,not_true_eq_false,not_false_eq_true,if_true,if_false,true_or,or_true,reduceCtorEq,Bool.false_eq_true];done)) (by decide))),(ad.trans ab)⟩)⟩)))))
   ·have hc52_:=Dn ap;refine A9 (fun σ' ds' h'=>ds'=[]∧GH.Le bp h'∧σ' 1=.pointer (some ⟨r4,0,none⟩)∧σ' 12=csv∧σ' 13=.int .i64 (cs.length:Int)∧σ' 14=.int .i64 (k:Int)∧σ' 24=.bool (decide ((¬(0≤((cs.getD k AK.z).day)∧((cs.getD k AK.z).day)≤d))∨(¬((0≤((cs.getD k AK.z).low)∧((cs.getD k AK.z).low)≤((cs.getD k AK.z).high))∧((cs.getD k AK.z).high)≤999))))) ?_ ?_
    ·refine Rg (Fa Fx.fld79_1 Z Z (have aq:=ab.keep an Z;Ld (.int .i64 ((cs.getD k AK.z).day)) Z Z (Rd.one Fx.ty3 aq Z) (Fa Fx.fld104_0 Z au (Fa Fx.fld26_0 Z Z (Ld (.int .i64 d) Z Z (Rd.one Fx.ty3 (ab.keep ao Z) Z) (Pl Z (Ar Tryz.func79 Fx.call79 Z Z Z ((BU ((cs.getD k AK.z).day) 0 d ).mono fun _ _ bc=>?_))))))));obtain ⟨rfl,rfl⟩:=bc;refine Pl Z (BO (p:=0≤((cs.getD k AK.z).day)∧((cs.getD k AK.z).day)≤d) Z (Mv (.bool (decide (¬(0≤((cs.getD k AK.z).day)∧((cs.getD k AK.z).day)≤d)))) Z Z (BM (p:=¬(0≤((cs.getD k AK.z).day)∧((cs.getD k AK.z).day)≤d)) ?_ ?_)))
     ·intro aa;exact Gs 7 32 (AE Z aa) Z (Gs 7 32 (AE Z aa) Z (Gs 7 32 (AE Z aa) Z (Gs 7 32 (AE Z aa) Z (Pk true (.bool true) Z (AE Z aa) Z (As (.bool true) Z Z (Nl (⟨Z,Lr,au,a2,a3,av,Et (b:=(.bool true:Value)) Z (congrArg Value.bool (by grind:true=(decide ((¬(0≤((cs.getD k AK.z).day)∧((cs.getD k AK.z).day)≤d))∨(¬((0≤((cs.getD k AK.z).low)∧((cs.getD k AK.z).low)≤((cs.getD k AK.z).high))∧((cs.getD k AK.z).high)≤999))))))⟩)))))))
     ·intro aa;refine Gg 7 32 (AD Z aa) Z (AI Fx.fld79_2 Z (Gg 7 32 (AD Z aa) Z (AF (v:=.agg #[.int .i64 ((cs.getD k AK.z).low),.int .i64 ((cs.getD k AK.z).high)]) Z (GC (o:=2) (ws:=#[.int .i64 ((cs.getD k AK.z).low),.int .i64 ((cs.getD k AK.z).high)]) Fx.ty31 (Bx aq Z) (Nb Z) Z) (Gg 7 32 (AD Z aa) Z (Ar Tryz.func129 Fx.call129 Z Z Z ((Lf ((cs.getD k AK.z).low) ((cs.getD k AK.z).high) 0 999 ).mono fun _ _ bd=>?_))))));obtain ⟨rfl,ar⟩:=bd;exact Gg 7 32 (AD Z aa) Z (BO (p:=(0≤((cs.getD k AK.z).low)∧((cs.getD k AK.z).low)≤((cs.getD k AK.z).high))∧((cs.getD k AK.z).high)≤999) Z (Pk false (.bool (decide (¬((0≤((cs.getD k AK.z).low)∧((cs.getD k AK.z).low)≤((cs.getD k AK.z).high))∧((cs.getD k AK.z).high)≤999)))) Z (AD Z aa) Z (As (.bool (decide (¬((0≤((cs.getD k AK.z).low)∧((cs.getD k AK.z).low)≤((cs.getD k AK.z).high))∧((cs.getD k AK.z).high)≤999)))) Z Z (Nl (⟨Z,ar,au,a2,a3,av,Et (b:=(.bool (decide (¬((0≤((cs.getD k AK.z).low)∧((cs.getD k AK.z).low)≤((cs.getD k AK.z).high))∧((cs.getD k AK.z).high)≤999))):Value)) Z (congrArg Value.bool (by grind:decide (¬((0≤((cs.getD k AK.z).low)∧((cs.getD k AK.z).low)≤((cs.getD k AK.z).high))∧((cs.getD k AK.z).high)≤999))=(decide ((¬(0≤((cs.getD k AK.z).day)∧((cs.getD k AK.z).day)≤d))∨(¬((0≤((cs.getD k AK.z).low)∧((cs.getD k AK.z).low)≤((cs.getD k AK.z).high))∧((cs.getD k AK.z).high)≤999))))))⟩)))))
    ·rintro _ _ _ ⟨be,af,bf,bg,bh,bi,bj⟩;subst be;refine AZ (p:=(¬(0≤((cs.getD k AK.z).day)∧((cs.getD k AK.z).day)≤d))∨(¬((0≤((cs.getD k AK.z).low)∧((cs.getD k AK.z).low)≤((cs.getD k AK.z).high))∧((cs.getD k AK.z).high)≤999))) bj (fun bk=>?_) (fun bk=>?_)
     ·exact Sq (Rg (As (.int .i64 1) Z Z (Nl (Rt (⟨.inr Z,Ac Z (v:=.int .i64 1) Z (⟨(by (symm;congr 1;rw [By,if_neg ‹_›];exact BP (k:=k) hs (by omega) (by unfold D5;(clear hs;simp_all;done)) (by decide))),((ad.trans ab).trans af)⟩)⟩)))))
     ·exact Sk (Rg (Ad (k:Int) 1 Z bi Z (by omega) (Mv (.int .i64 ((k:Int)+1)) Z Z (Nl (have bl:=(((ak.trans ac).upd (Ln ak ah) ai).trans ab).trans af;⟨_,by omega,k+1,Z,(by omega),(by exact Cx hs (by unfold D5;(clear hs;simp_all;done))),Z,bl,bf,bg,bh,Z⟩)))))
  ·exact Xt (Sq (Rg (As (.int .i64 0) Z Z (Nl (Rt (⟨.inr Z,Ac Z (v:=.int .i64 0) Z (⟨(by (symm;congr 1;rw [By,if_neg ‹_›];exact CB (k:=k) hs (by omega))),(ae.trans ak)⟩)⟩))))))
theorem PO {W:Wk Tryz.prog} {h:GH} (s:ByteArray) (hsz:s.size≤1000):Ab W 198 #[.string s] h (fun v h'=>v=(.bool (C5 s):Value)∧h.Le h'):=by
 have hbl:=CL s;refine AO Tryz.func198 Z (Nb Z) (Sq (Rg (As (.bool false) Z Z (Nl (Sq (Sq (Rg (Mv (.string s) Z Z (Pl Z (S1 Fx.s2b9_230 Z (by omega) fun a1 h2 ad a2=>Pl Z (AY Fx.sl230 a2 Z (Mv (.int .i64 0) Z Z (Nl (Bk (Ao (fun nn σ' ds' h'=>∃(k:Nat),nn=(bytesOf s).length-k∧(k≤(bytesOf s).length)∧(∀j,j<k→GF s j=0)∧ds'=[]∧GH.Le h2 h'∧σ' 0=.string s∧σ' 6=a1∧σ' 7=.int .i64 ((bytesOf s).length:Int)∧σ' 8=.int .i64 (k:Int)) ⟨0,Z,(by omega),(by (intro j hj;omega)),Z,Lr,Z,Z,Z,Z⟩ (fun nn _ _ h7 a3=>?_))))))))))))))));obtain ⟨k,rfl,hk,hs,x9,ag,ah,ai,aj,ac⟩:=a3;subst x9;have hby:=H0 s k;refine Sq (Rg (Pl Z (A5 (a:=(k:Int)) (b:=((bytesOf s).length:Int)) ac aj (Nl (Sq (AZ (p:=(k:Int)<((bytesOf s).length:Int)) Z (fun ak=>?_) (fun ak=>?_)))))))
 ·refine Sk (Sq (Bk (Sq (Rg (Mv (.int .i64 (k:Int)) Z ac ?_)))));have al:(0:Int)≤(k:Int):=by omega
  have am:(k:Int)<(((bytesOf s).length:Nat):Int):=by omega
  refine Pl Z (Az Fx.esz230 a2 ai ac al am fun a4 ae an=>have ao:Aa _ a4 ae 1 (eB ((bytesOf s).getD k 0)):=Aa.getD 0 an;Ld (.int .u8 ((bytesOf s).getD k 0)) Z Z (B3 Fx.ty5 (ao.le ag) Z) (As (.int .i64 (k:Int)) Z Z (As (.int .u8 ((bytesOf s).getD k 0)) Z Z (Nl (A9 (fun σ' ds' h'=>ds'=[]∧h7=h'∧σ' 0=.string s∧σ' 6=a1∧σ' 7=.int .i64 ((bytesOf s).length:Int)∧σ' 8=.int .i64 (k:Int)∧σ' 26=.bool (decide ((¬(97≤((bytesOf s).getD k 0)∧((bytesOf s).getD k 0)≤122))∧(((k:Int)=0)∨(¬(48≤((bytesOf s).getD k 0)∧((bytesOf s).getD k 0)≤57)))))) ?_ ?_)))))
  ·refine Rg (Mv (.int .u8 ((bytesOf s).getD k 0)) Z Z (Pl Z (BT (r:=(bytesOf s).getD k 0) Fx.und5 Fx.kind3 Z (by rw [IntWalk.i64_in _ (by omega)]) (Pl Z (Ar Tryz.func79 Fx.call79 Z Z Z ((BU ((bytesOf s).getD k 0) 97 122 ).mono fun _ _ ap=>?_))))));obtain ⟨rfl,rfl⟩:=ap;refine Pl Z (BO (p:=97≤((bytesOf s).getD k 0)∧((bytesOf s).getD k 0)≤122) Z (Mv (.bool (decide (¬(97≤((bytesOf s).getD k 0)∧((bytesOf s).getD k 0)≤122)))) Z Z (BM (p:=¬(97≤((bytesOf s).getD k 0)∧((bytesOf s).getD k 0)≤122)) ?_ ?_)))
   ·intro aa;refine Gg 4 17 (AE Z aa) Z (AA (v:=.int .i64 (k:Int)) Z (Gg 4 17 (AE Z aa) Z (Bg (a:=(k:Int)) (b:=0) Z Z (Gg 4 17 (AE Z aa) Z (AA (v:=.bool (decide ((k:Int)=0))) Z (BM (p:=(k:Int)=0) ?_ ?_))))))
    ·intro ab;exact Gs 7 20 (AE Z ab) Z (Gs 7 20 (AE Z ab) Z (Gs 7 20 (AE Z ab) Z (Gs 7 20 (AE Z ab) Z (Gg 4 17 (AE Z aa) Z (A3 (t:=true) (v:=.bool true) (AE Z ab) Z (Pk true (.bool true) Z (AE Z aa) Z (Nl (⟨Z,Z,ah,ai,aj,ac,Et (b:=(.bool true:Value)) Z (congrArg Value.bool (by grind:true=(decide ((¬(97≤((bytesOf s).getD k 0)∧((bytesOf s).getD k 0)≤122))∧(((k:Int)=0)∨(¬(48≤((bytesOf s).getD k 0)∧((bytesOf s).getD k 0)≤57)))))))⟩))))))))
    ·intro ab;refine Gg 7 20 (AD Z ab) Z (AA (v:=.int .u8 ((bytesOf s).getD k 0)) Z (Gg 7 20 (AD Z ab) Z (BT (r:=(bytesOf s).getD k 0) Fx.und5 Fx.kind3 Z (by rw [IntWalk.i64_in _ (by omega)]) (Gg 7 20 (AD Z ab) Z (Ar Tryz.func79 Fx.call79 Z Z Z ((BU ((bytesOf s).getD k 0) 48 57 ).mono fun _ _ aq=>?_))))));obtain ⟨rfl,rfl⟩:=aq;exact Gg 7 20 (AD Z ab) Z (BO (p:=48≤((bytesOf s).getD k 0)∧((bytesOf s).getD k 0)≤57) Z (Gg 4 17 (AE Z aa) Z (A3 (t:=false) (v:=.bool (decide (¬(48≤((bytesOf s).getD k 0)∧((bytesOf s).getD k 0)≤57)))) (AD Z ab) Z (Pk true (.bool (decide (¬(48≤((bytesOf s).getD k 0)∧((bytesOf s).getD k 0)≤57)))) Z (AE Z aa) Z (Nl (⟨Z,Z,ah,ai,aj,ac,Et (b:=(.bool (decide (¬(48≤((bytesOf s).getD k 0)∧((bytesOf s).getD k 0)≤57))):Value)) Z (congrArg Value.bool (by grind:decide (¬(48≤((bytesOf s).getD k 0)∧((bytesOf s).getD k 0)≤57))=(decide ((¬(97≤((bytesOf s).getD k 0)∧((bytesOf s).getD k 0)≤122))∧(((k:Int)=0)∨(¬(48≤((bytesOf s).getD k 0)∧((bytesOf s).getD k 0)≤57)))))))⟩))))))
   ·intro aa;exact Gs 4 17 (AD Z aa) Z (Gs 4 17 (AD Z aa) Z (Gs 4 17 (AD Z aa) Z (Bn (j:=7) (d:=20) Z Z Z Z Z Z (Bn (j:=7) (d:=20) Z Z Z Z Z Z (Bn (j:=7) (d:=20) Z Z Z Z Z Z (Bn (j:=7) (d:=20) Z Z Z Z Z Z (Gs 4 17 (AD Z aa) Z (Pk false (.bool false) Z (AD Z aa) Z (Nl (⟨Z,Z,ah,ai,aj,ac,Et (b:=(.bool false:Value)) Z (congrArg Value.bool (by grind:false=(decide ((¬(97≤((bytesOf s).getD k 0)∧((bytesOf s).getD k 0)≤122))∧(((k:Int)=0)∨(¬(48≤((bytesOf s).getD k 0)∧((bytesOf s).getD k 0)≤57)))))))⟩))))))))))
  ·rintro _ _ _ ⟨ar,af,au,av,aw,ax,ay⟩;subst ar;subst af;refine AZ (p:=(¬(97≤((bytesOf s).getD k 0)∧((bytesOf s).getD k 0)≤122))∧(((k:Int)=0)∨(¬(48≤((bytesOf s).getD k 0)∧((bytesOf s).getD k 0)≤57)))) ay (fun az=>?_) (fun az=>?_)
   ·exact Sq (Rg (As (.bool false) Z Z (Nl (Rt (⟨.inr Z,Ac Z (v:=.bool false) Z (⟨(by (symm;congr 1;exact Kx hs (by omega) (by unfold GF;simp only [DE,DQ, *,not_true_eq_false,not_false_eq_true,if_true,if_false,or_self,or_true,true_or,and_self,and_true,true_and];simp_all;done))),(ad.trans ag)⟩)⟩)))))
   ·exact Sk (Rg (Ad (k:Int) 1 Z ax Z (by omega) (Mv (.int .i64 ((k:Int)+1)) Z Z (Nl (⟨_,by omega,k+1,Z,(by omega),(by exact Cx hs (by unfold GF;simp only [DE,DQ];simp_all;done)),Z,ag,au,av,aw,Z⟩)))))
 ·refine Xt (Sq (Rg (Mv (.string s) Z ah (Pl Z (In Fx.str9 Z (Pl Z (Ar Tryz.func79 Fx.call79 Z Z Z ((BU (s.size:Int) 1 10 ).mono fun _ _ a0=>?_))))))));obtain ⟨rfl,rfl⟩:=a0;exact As (.bool (decide (1≤(s.size:Int)∧(s.size:Int)≤10))) Z Z (Nl (Rt (⟨.inr Z,Ac Z (v:=.bool (decide (1≤(s.size:Int)∧(s.size:Int)≤10))) Z (⟨(by (symm;congr 1;exact Ky hs (by omega))),(ad.trans ag)⟩)⟩)))
theorem PP {W:Wk Tryz.prog} {h:GH} (o:Good) (x:Good) (rx:Nat) (hrx:Aa h rx 0 5 #[.string x.name,.int .i64 x.cost,.int .i64 x.pack,.int .i64 x.low,.int .i64 x.high]):Ab W 200 #[.agg #[.string o.name,.int .i64 o.cost,.int .i64 o.pack,.int .i64 o.low,.int .i64 o.high],.pointer (some ⟨rx,0,none⟩)] h (fun v h'=>v=(.bool ((o.name).toList==(x.name).toList):Value)∧h.Le h'):=by
 refine AO Tryz.func200 Z (Nb Z) (Sq (Rg (Pl Z (Ap (v:=.agg #[.string o.name,.int .i64 o.cost,.int .i64 o.pack,.int .i64 o.low,.int .i64 o.high]) (c:=#[.string o.name,.int .i64 o.cost,.int .i64 o.pack,.int .i64 o.low,.int .i64 o.high]) Z Z fun _ _ _ aa ab _=>As (.bool false) Z Z (Nl (Sq (Rg (Fa Fx.fld99_0 Z Z (Ld (.string o.name) Z Z (Rd.one Fx.ty9 ab Z) (Fa Fx.fld99_0 Z Z (Ld (.string x.name) Z Z (Bq (o:=0) Fx.ty9 (hrx.le aa) Z) (Pl Z (RA (a:=o.name) (b:=x.name) Z Z (As (.bool ((o.name).toList==(x.name).toList)) Z Z (Nl (Rt ?_))))))))))))))));exact ⟨.inr Z,Ac Z (v:=.bool ((o.name).toList==(x.name).toList)) Z (⟨Z,aa⟩)⟩
theorem Qj {W:Wk Tryz.prog} {h:GH} (d:Int) (m:Int) (gs:List Good) (gsv:Value) (ms:List AB) (msv:Value) (cs:List AK) (csv:Value) (hgs:AN h gsv 5 BD gs) (hms:AN h msv 5 A1 ms) (hcs:AN h csv 4 Av cs) (hnm:∀k,(gs.getD k Good.z).name.size≤1000):Ab W 195 #[.agg #[.int .i64 d,.int .i64 m,gsv,msv,csv]] h (fun v h'=>v=(.int .i64 (BR gs):Value)∧h.Le h'):=by
 have a2:=hgs.len;have a3:=hms.len;have a4:=hcs.len;refine AO Tryz.func195 Z (Nb Z) (Sq (Rg (Pl Z (Ap (v:=.agg #[.int .i64 d,.int .i64 m,gsv,msv,csv]) (c:=#[.int .i64 d,.int .i64 m,gsv,msv,csv]) Z Z fun r4 h5 _ ag a5 _=>As (.int .i64 0) Z Z (Nl (Sq (Sq (Rg (Fa Fx.fld104_0 Z Z (Fa Fx.fld26_2 Z Z (Ld gsv Z Z (Rd.one Fx.ty22 a5 Z) (have ap:=hgs.le ag;Pl Z (AY Fx.sl22 ap Z (Pl Z (Ar Tryz.func79 Fx.call79 Z Z Z ((BU (gs.length:Int) 1 3 ).mono fun _ _ a6=>?_))))))))))))))));obtain ⟨rfl,rfl⟩:=a6;refine Pl Z (BO (p:=1≤(gs.length:Int)∧(gs.length:Int)≤3) Z (Nl (AZ (p:=¬(1≤(gs.length:Int)∧(gs.length:Int)≤3)) Z (fun aq=>?_) (fun aq=>?_))))
 ·exact Sq (Rg (As (.int .i64 2) Z Z (Nl (Rt (⟨.inr Z,Ac Z (v:=.int .i64 2) Z (⟨(by (symm;congr 1;rw [BR,if_pos ‹_›];done)),ag⟩)⟩)))))
 ·have hc16_:=Dn aq;refine Sk (Sq (Sq (Rg (Fa Fx.fld104_0 Z Z (Fa Fx.fld26_2 Z Z (Ld gsv Z Z (Rd.one Fx.ty22 a5 Z) (Pl Z (AY Fx.sl22 ap Z (Mv (.int .i64 0) Z Z (Nl (Bk (Ao (fun nn σ' ds' h'=>∃(k:Nat),nn=gs.length-k∧(k≤gs.length)∧(∀j,j<k→EG gs j=0)∧ds'=[]∧GH.Le h5 h'∧σ' 1=.pointer (some ⟨r4,0,none⟩)∧σ' 13=gsv∧σ' 14=.int .i64 (gs.length:Int)∧σ' 15=.int .i64 (k:Int)) ⟨0,Z,(by omega),(by (intro j hj;omega)),Z,Lr,Z,Z,Z,Z⟩ (fun nn _ _ _ a7=>?_)))))))))))));obtain ⟨k,rfl,hk,hs,bx,ar,ay,az,a0,ao⟩:=a7;subst bx;have hnk:=hnm k;refine Sq (Rg (Pl Z (A5 (a:=(k:Int)) (b:=(gs.length:Int)) ao a0 (Nl (Sq (AZ (p:=(k:Int)<(gs.length:Int)) Z (fun a8=>?_) (fun a8=>?_)))))))
  ·refine Sk (Sq (Bk (Sq (Rg (Mv (.int .i64 (k:Int)) Z ao ?_)))));have a9:(0:Int)≤(k:Int):=by omega
   have ba:(k:Int)<((gs.length:Nat):Int):=by omega
   refine Pl Z (Az Fx.esz22 hgs az ao a9 ba fun bz au bb=>have bc:Aa _ bz au 5 (BD (gs.getD k Good.z)):=Aa.getD Good.z bb;have af:=ag.trans ar;Ld (.agg #[.string ((gs.getD k Good.z).name),.int .i64 ((gs.getD k Good.z).cost),.int .i64 ((gs.getD k Good.z).pack),.int .i64 ((gs.getD k Good.z).low),.int .i64 ((gs.getD k Good.z).high)]) Z Z (AR Fx.ty99 (bc.le af)) (have av:=ar.keep a5 Z;Pl Z (Aj Fx.zero99 fun a1 _ ah ad bd _=>have be:r4≠a1:=Cg av ah;As (.int .i64 (k:Int)) Z Z (Pl Z (AL (v:=.agg #[.string ((gs.getD k Good.z).name),.int .i64 ((gs.getD k Good.z).cost),.int .i64 ((gs.getD k Good.z).pack),.int .i64 ((gs.getD k Good.z).low),.int .i64 ((gs.getD k Good.z).high)]) (c':=#[.string ((gs.getD k Good.z).name),.int .i64 ((gs.getD k Good.z).cost),.int .i64 ((gs.getD k Good.z).pack),.int .i64 ((gs.getD k Good.z).low),.int .i64 ((gs.getD k Good.z).high)]) Fx.ty99 Z Z bd Z Z (by simp) Z fun _ ak ai=>Nl (Bk (Sq (Rg (Fa Fx.fld99_0 Z Z (Ld (.string ((gs.getD k Good.z).name)) Z Z (Rd.one Fx.ty9 ak Z) (Pl Z (Am Tryz.func198 Fx.call198 Z ((PO ((gs.getD k Good.z).name) (by omega)).mono fun _ bw bf=>?_)))))))))))));obtain ⟨rfl,ac⟩:=bf;refine Pl Z (C4 (b:=C5 ((gs.getD k Good.z).name)) Z (As (.bool (!(C5 ((gs.getD k Good.z).name)))) Z Z (Nl (CR (t:= !(C5 ((gs.getD k Good.z).name))) Z (fun al=>?_) (fun al=>?_)))))
   ·have hc51_:(C5 ((gs.getD k Good.z).name))=false:=by simpa using al
    exact Sq (Rg (As (.int .i64 4) Z Z (Nl (Rt (⟨.inr Z,Ac Z (v:=.int .i64 4) Z (⟨(by (symm;congr 1;rw [BR,if_neg ‹_›];exact BP (k:=k) hs (by omega) (by unfold EG;(simp only [*,not_true_eq_false,not_false_eq_true,if_true,if_false,true_or,or_true,reduceCtorEq,Bool.false_eq_true];done)) (by decide))),(((af.trans ad).upd (Ln af ah) ai).trans ac)⟩)⟩)))))
   ·have hc51_:(C5 ((gs.getD k Good.z).name))=true:=by simpa using al
    refine Sq (Rg (Fa Fx.fld104_0 Z ay (Fa Fx.fld26_2 Z Z (Ld gsv Z Z (Rd.one Fx.ty22 (ac.keep ((ai _ be).trans (ad.keep av Z)) Z) Z) (Mv (.int .i64 (k:Int)) Z Z (have am:=((af.trans ad).upd (Ln af ah) ai).trans ac;Pl Z (Sz (0) k Fx.esz22 (hgs.le am) Z Z (⟨_,Z⟩) (by omega) (by omega) fun aw bg=>?_)))))));have bh:AN bw aw 5 BD (gs.take k):=by simpa using bg
    refine Pl Z (Ir Z ?_);have bi:∀x ∈ (gs.take k),∀h1,GH.Le bw h1→CJ W (.func (.func 200) #[] #[.pointer (some ⟨a1,0,none⟩)]) #[.agg #[.string x.name,.int .i64 x.cost,.int .i64 x.pack,.int .i64 x.low,.int .i64 x.high]] h1 fun v h2=>v=.bool ((fun x=>(x.name).toList==((gs.getD k Good.z).name).toList) x)∧h1.Le h2:=by
     intro x hx h1 l1;exact Bv Tryz.func200 Fx.call200 Z ((PP x (gs.getD k Good.z) a1 (Bx (l1.keep (ac.keep ak Z) Z) Z) ).mono fun v h2 hp=>⟨hp.1,hp.2⟩)
    refine Pl Z (AX Tryz.func199 Fx.call199 Z Z ((JR (gs.take k) aw (.func (.func 200) #[] #[.pointer (some ⟨a1,0,none⟩)]) (fun x=>(x.name).toList==((gs.getD k Good.z).name).toList) bh bi).mono fun _ b0 bj=>?_));obtain ⟨rfl,ae⟩:=bj;refine As (.bool ((gs.take k).any (fun x=>(x.name).toList==((gs.getD k Good.z).name).toList))) Z Z (Nl (CR (t:=(gs.take k).any (fun x=>(x.name).toList==((gs.getD k Good.z).name).toList)) Z (fun bk=>?_) (fun bk=>?_)))
    ·exact Sq (Rg (As (.int .i64 5) Z Z (Nl (Rt (⟨.inr Z,Ac Z (v:=.int .i64 5) Z (⟨(by (symm;congr 1;rw [BR,if_neg ‹_›];exact BP (k:=k) hs (by omega) (by unfold EG;(simp only [*,not_true_eq_false,not_false_eq_true,if_true,if_false,true_or,or_true,reduceCtorEq,Bool.false_eq_true];done)) (by decide))),(am.trans ae)⟩)⟩)))))
    ·refine A9 (fun σ' ds' h'=>ds'=[]∧GH.Le b0 h'∧σ' 1=.pointer (some ⟨r4,0,none⟩)∧σ' 13=gsv∧σ' 14=.int .i64 (gs.length:Int)∧σ' 15=.int .i64 (k:Int)∧σ' 33=.bool (decide (((¬(0≤((gs.getD k Good.z).cost)∧((gs.getD k Good.z).cost)≤999))∨(¬(1≤((gs.getD k Good.z).pack)∧((gs.getD k Good.z).pack)≤20)))∨(¬(CM ((gs.getD k Good.z).low) ((gs.getD k Good.z).high)))))) ?_ ?_
     ·refine Rg (Fa Fx.fld99_1 Z Z (have an:=ae.keep (ac.keep ak Z) Z;Ld (.int .i64 ((gs.getD k Good.z).cost)) Z Z (Rd.one Fx.ty3 an Z) (Pl Z (Ar Tryz.func79 Fx.call79 Z Z Z ((BU ((gs.getD k Good.z).cost) 0 999 ).mono fun _ _ bl=>?_)))));obtain ⟨rfl,rfl⟩:=bl;refine Pl Z (BO (p:=0≤((gs.getD k Good.z).cost)∧((gs.getD k Good.z).cost)≤999) Z (Mv (.bool (decide (¬(0≤((gs.getD k Good.z).cost)∧((gs.getD k Good.z).cost)≤999)))) Z Z (BM (p:=¬(0≤((gs.getD k Good.z).cost)∧((gs.getD k Good.z).cost)≤999)) ?_ ?_)))
      ·intro aa;refine Gs 4 38 (AE Z aa) Z (Gs 4 38 (AE Z aa) Z (Gs 4 38 (AE Z aa) Z (Gs 4 38 (AE Z aa) Z (Pk true (.bool true) Z (AE Z aa) Z (Mv (.bool true) Z Z (Gs 10 44 Z Z (Gs 10 44 Z Z (Gs 10 44 Z Z (Gs 10 44 Z Z (Pk true (.bool true) Z Z Z (As (.bool true) Z Z ?_)))))))))));exact Nl (⟨Z,Lr,ay,az,a0,ao,Et (b:=(.bool true:Value)) Z (congrArg Value.bool (by grind:true=(decide (((¬(0≤((gs.getD k Good.z).cost)∧((gs.getD k Good.z).cost)≤999))∨(¬(1≤((gs.getD k Good.z).pack)∧((gs.getD k Good.z).pack)≤20)))∨(¬(CM ((gs.getD k Good.z).low) ((gs.getD k Good.z).high)))))))⟩)
      ·intro aa;refine Gg 4 38 (AD Z aa) Z (AI Fx.fld99_2 Z (Gg 4 38 (AD Z aa) Z (AF (v:=.int .i64 ((gs.getD k Good.z).pack)) Z (Rd.one Fx.ty3 an Z) (Gg 4 38 (AD Z aa) Z (Ar Tryz.func79 Fx.call79 Z Z Z ((BU ((gs.getD k Good.z).pack) 1 20 ).mono fun _ _ bm=>?_))))));obtain ⟨rfl,rfl⟩:=bm;refine Gg 4 38 (AD Z aa) Z (BO (p:=1≤((gs.getD k Good.z).pack)∧((gs.getD k Good.z).pack)≤20) Z (Pk false (.bool (decide (¬(1≤((gs.getD k Good.z).pack)∧((gs.getD k Good.z).pack)≤20)))) Z (AD Z aa) Z (Mv (.bool (decide (¬(1≤((gs.getD k Good.z).pack)∧((gs.getD k Good.z).pack)≤20)))) Z Z (BM (p:=¬(1≤((gs.getD k Good.z).pack)∧((gs.getD k Good.z).pack)≤20)) ?_ ?_))))
       ·intro ab;exact Gs 10 44 (AE Z ab) Z (Gs 10 44 (AE Z ab) Z (Gs 10 44 (AE Z ab) Z (Gs 10 44 (AE Z ab) Z (Pk true (.bool true) Z (AE Z ab) Z (As (.bool true) Z Z (Nl (⟨Z,Lr,ay,az,a0,ao,Et (b:=(.bool true:Value)) Z (congrArg Value.bool (by grind:true=(decide (((¬(0≤((gs.getD k Good.z).cost)∧((gs.getD k Good.z).cost)≤999))∨(¬(1≤((gs.getD k Good.z).pack)∧((gs.getD k Good.z).pack)≤20)))∨(¬(CM ((gs.getD k Good.z).low) ((gs.getD k Good.z).high)))))))⟩)))))))
       ·intro ab;refine Gg 10 44 (AD Z ab) Z (AI Fx.fld99_3 Z (Gg 10 44 (AD Z ab) Z (AF (v:=.agg #[.int .i64 ((gs.getD k Good.z).low),.int .i64 ((gs.getD k Good.z).high)]) Z (GC (o:=3) (ws:=#[.int .i64 ((gs.getD k Good.z).low),.int .i64 ((gs.getD k Good.z).high)]) Fx.ty31 (Bx an Z) (Nb Z) Z) (Gg 10 44 (AD Z ab) Z (Am Tryz.func201 Fx.call201 Z ((PL ((gs.getD k Good.z).low) ((gs.getD k Good.z).high) ).mono fun _ _ bn=>?_))))));obtain ⟨rfl,ax⟩:=bn;exact Gg 10 44 (AD Z ab) Z (BO (p:=CM ((gs.getD k Good.z).low) ((gs.getD k Good.z).high)) Z (Pk false (.bool (decide (¬(CM ((gs.getD k Good.z).low) ((gs.getD k Good.z).high))))) Z (AD Z ab) Z (As (.bool (decide (¬(CM ((gs.getD k Good.z).low) ((gs.getD k Good.z).high))))) Z Z (Nl (⟨Z,ax,ay,az,a0,ao,Et (b:=(.bool (decide (¬(CM ((gs.getD k Good.z).low) ((gs.getD k Good.z).high)))):Value)) Z (congrArg Value.bool (by grind:decide (¬(CM ((gs.getD k Good.z).low) ((gs.getD k Good.z).high)))=(decide (((¬(0≤((gs.getD k Good.z).cost)∧((gs.getD k Good.z).cost)≤999))∨(¬(1≤((gs.getD k Good.z).pack)∧((gs.getD k Good.z).pack)≤20)))∨(¬(CM ((gs.getD k Good.z).low) ((gs.getD k Good.z).high)))))))⟩)))))
     ·rintro _ _ _ ⟨bo,aj,bp,bq,br,bs,bt⟩;subst bo;refine AZ (p:=((¬(0≤((gs.getD k Good.z).cost)∧((gs.getD k Good.z).cost)≤999))∨(¬(1≤((gs.getD k Good.z).pack)∧((gs.getD k Good.z).pack)≤20)))∨(¬(CM ((gs.getD k Good.z).low) ((gs.getD k Good.z).high)))) bt (fun bu=>?_) (fun bu=>?_)
      ·exact Sq (Rg (As (.int .i64 1) Z Z (Nl (Rt (⟨.inr Z,Ac Z (v:=.int .i64 1) Z (⟨(by (symm;congr 1;rw [BR,if_neg ‹_›];exact BP (k:=k) hs (by omega) (by unfold EG;(simp only [*,not_true_eq_false,not_false_eq_true,if_true,if_false,true_or,or_true,reduceCtorEq,Bool.false_eq_true];done)) (by decide))),((am.trans ae).trans aj)⟩)⟩)))))
      ·exact Sk (Rg (Ad (k:Int) 1 Z bs Z (by omega) (Mv (.int .i64 ((k:Int)+1)) Z Z (Nl (have bv:=((((ar.trans ad).upd (Ln ar ah) ai).trans ac).trans ae).trans aj;⟨_,by omega,k+1,Z,(by omega),(by exact Cx hs (by unfold EG;(simp only [*,not_true_eq_false,not_false_eq_true,if_true,if_false,or_self,reduceCtorEq,Bool.false_eq_true];done))),Z,bv,bp,bq,br,Z⟩)))))
  ·exact Xt (Sq (Rg (As (.int .i64 0) Z Z (Nl (Rt (⟨.inr Z,Ac Z (v:=.int .i64 0) Z (⟨(by (symm;congr 1;rw [BR,if_neg ‹_›];exact CB (k:=k) hs (by omega))),(ag.trans ar)⟩)⟩))))))
end Go.Ns
namespace Go.Ns
open Go.Conc Go.Proofs
attribute [local irreducible] Bd DS Tr Ab CJ Bs
def N0:Array Value:=#[.func (.func 194) #[] #[],.func (.func 195) #[] #[],.func (.func 196) #[] #[],.func (.func 197) #[] #[]]
def N1:Array Value:=#[.string ⟨#[99,97,109,101]⟩,.func (.func 203) #[] #[],.string ⟨#[115,111,108,100]⟩,.func (.func 204) #[] #[],.string ⟨#[108,111,115,116]⟩,.func (.func 204) #[] #[],.string ⟨#[103,105,118,101,110]⟩,.func (.func 204) #[] #[],.string ⟨#[98,97,99,107]⟩,.func (.func 203) #[] #[]]
def Ct (h:GH):Prop:=Aa h 0 0 4 N0∧Aa h 1 0 10 N1
theorem Ct.le {h h':GH} (g:Ct h) (l:h.Le h'):Ct h':=⟨g.1.le l,g.2.le l⟩
def KV (k:Nat):Value:=N0.getD k undef
def Qk (k:Nat):Value:=N1.getD (k*2+1) undef
theorem Ql {k:Nat} (h:k<4):(if false=true then some (Value.agg ((#[.func (.func 194) #[] #[],.func (.func 195) #[] #[],.func (.func 196) #[] #[],.func (.func 197) #[] #[]]:Array Value).extract (k*1) (k*1+1))) else (#[.func (.func 194) #[] #[],.func (.func 195) #[] #[],.func (.func 196) #[] #[],.func (.func 197) #[] #[]]:Array Value)[k*1]?)=some (KV k):=by
 match k,h with
 | 0,_=>rfl
 | 1,_=>rfl
 | 2,_=>rfl
 | 3,_=>rfl
theorem SM {k:Nat} (h:k<5):N1[0+k*2+1]? =some (Qk k):=by
 match k,h with
 | 0,_=>rfl
 | 1,_=>rfl
 | 2,_=>rfl
 | 3,_=>rfl
 | 4,_=>rfl
theorem N2 {W:Wk Tryz.prog} {h:GH} (d m:Int) (gs:List Good) (gsv:Value) (ms:List AB) (msv:Value) (cs:List AK) (csv:Value) (hgs:AN h gsv 5 BD gs) (hms:AN h msv 5 A1 ms) (hcs:AN h csv 4 Av cs) (hnm:∀k,(gs.getD k Good.z).name.size≤1000) {k:Nat} (hk:k<4) :
  CJ W (KV k) #[.agg #[.int .i64 d,.int .i64 m,gsv,msv,csv]] h fun v h'=>v=.int .i64 (DG d m gs ms cs k)∧h.Le h':=by
 match k,hk with
 | 0,_=>exact Bv (first:=#[]) (cap:=#[]) Tryz.func194 Fx.call194 rfl (SL (W:=W) (h:=h) d m gs gsv ms msv cs csv hgs hms hcs)
 | 1,_=>exact Bv (first:=#[]) (cap:=#[]) Tryz.func195 Fx.call195 rfl (Qj (W:=W) (h:=h) d m gs gsv ms msv cs csv hgs hms hcs hnm)
 | 2,_=>exact Bv (first:=#[]) (cap:=#[]) Tryz.func196 Fx.call196 rfl (Qi (W:=W) (h:=h) d m gs gsv ms msv cs csv hgs hms hcs)
 | 3,_=>exact Bv (first:=#[]) (cap:=#[]) Tryz.func197 Fx.call197 rfl (PN (W:=W) (h:=h) d m gs gsv ms msv cs csv hgs hms hcs)
theorem M0 {W:Wk Tryz.prog} {h:GH} (n:Int):Ab W 203 #[.int .i64 n] h (fun v h'=>v=(.int .i64 n:Value)∧h=h'):=by
 exact AO Tryz.func203 Z (Nb Z) (Sq (Rg (As (.int .i64 0) Z Z (Nl (Sq (Rg (Mv (.int .i64 n) Z Z (As (.int .i64 n) Z Z (Nl (Rt (⟨.inr Z,Ac Z (v:=.int .i64 n) Z (⟨Z,Z⟩)⟩)))))))))))
theorem Jk {W:Wk Tryz.prog} {h:GH} (n:Int) (hn:0≤n∧n≤99):Ab W 204 #[.int .i64 n] h (fun v h'=>v=(.int .i64 (-n):Value)∧h=h'):=by
 exact AO Tryz.func204 Z (Nb Z) (Sq (Rg (As (.int .i64 0) Z Z (Nl (Sq (Rg (Mv (.int .i64 n) Z Z (Pl Z (Pr (a:=n) Z (by omega) (As (.int .i64 (-n)) Z Z (Nl (Rt (⟨.inr Z,Ac Z (v:=.int .i64 (-n)) Z (⟨Z,Z⟩)⟩)))))))))))))
theorem Cd {W:Wk Tryz.prog} {h:GH} (d:Int) (m:Int) (gs:List Good) (gsv:Value) (ms:List AB) (msv:Value) (cs:List AK) (csv:Value) (hgs:AN h gsv 5 BD gs) (hms:AN h msv 5 A1 ms) (hcs:AN h csv 4 Av cs) (hG:Ct h) (hnm:∀k,(gs.getD k Good.z).name.size≤1000):Ab W 25 #[.agg #[.int .i64 d,.int .i64 m,gsv,msv,csv]] h (fun v h'=>v=(.int .i64 (AM d m gs ms cs):Value)∧h.Le h'):=by
 have ae:=hgs.len;have af:=hms.len;have ag:=hcs.len;refine AO Tryz.func25 Z (Nb Z) (Sq (Rg (Pl Z (Ap (v:=.agg #[.int .i64 d,.int .i64 m,gsv,msv,csv]) (c:=#[.int .i64 d,.int .i64 m,gsv,msv,csv]) Z Z fun r4 h5 _ ac aq _=>As (.int .i64 0) Z Z (Nl (Sq (Sq (Rg (Ld (.agg #[.func (.func 194) #[] #[],.func (.func 195) #[] #[],.func (.func 196) #[] #[],.func (.func 197) #[] #[]]) Z Z (AR Fx.ty135 (hG.le ac).1) (Mv (.int .i64 0) Z Z (Nl (Bk (Ao (fun nn σ' ds' h'=>∃(k:Nat),nn=4-k∧(k≤4)∧(∀j,j<k→DG d m gs ms cs j=0)∧ds'=[]∧GH.Le h5 h'∧σ' 1=.pointer (some ⟨r4,0,none⟩)∧σ' 6=.agg #[.func (.func 194) #[] #[],.func (.func 195) #[] #[],.func (.func 196) #[] #[],.func (.func 197) #[] #[]]∧σ' 7=.int .i64 (k:Int)) ⟨0,Z,(by omega),(by (intro j hj;omega)),Z,Lr,Z,Z,Z⟩ (fun nn _ _ _ ah=>?_))))))))))))));obtain ⟨k,rfl,hk,hs,ar,ad,ao,ap,ai⟩:=ah;subst ar;refine Sq (Rg (Pl Z (A5 (a:=(k:Int)) (b:=4) ai Z (Nl (Sq (AZ (p:=(k:Int)<4) Z (fun aj=>?_) (fun aj=>?_)))))))
 ·refine Sk (Sq (Bk (Sq (Rg ?_))));have ak:(0:Int)≤(k:Int):=by omega
  have al:(k:Int)<((4:Nat):Int):=by omega
  refine Pl Z (MW Fx.arr135 ap ai ak al (Ql (by omega)) (As (KV k) Z Z (Nl (Sq (Rg (Mv (KV k) Z Z (Ld (.agg #[.int .i64 d,.int .i64 m,gsv,msv,csv]) Z ao (AR Fx.ty26 (Bx (ad.keep aq Z) Z)) (Pl Z (Ay (cells:=#[.int .i64 d,.int .i64 m,gsv,msv,csv]) Fx.pl104 Fx.zero104 (by kernel_rfl) (have aa:=ac.trans ad;Pl Z (Fz Z Z ((N2 d m gs gsv ms msv cs csv (hgs.le aa) (hms.le aa) (hcs.le aa) hnm (k:=k) (by omega)).mono fun _ _ am=>?_))))))))))));obtain ⟨rfl,ab⟩:=am;refine As (.int .i64 (DG d m gs ms cs k)) Z Z (Nl (Sq (Rg (Mv (.int .i64 (DG d m gs ms cs k)) Z Z (Pl Z (A4 (a:=DG d m gs ms cs k) (b:=0) Z Z (Nl (AZ (p:=¬(DG d m gs ms cs k)=0) Z (fun an=>?_) (fun an=>?_)))))))))
  ·exact Sq (Rg (Mv (.int .i64 (DG d m gs ms cs k)) Z Z (As (.int .i64 (DG d m gs ms cs k)) Z Z (Nl (Rt (⟨.inr Z,Ac Z (v:=.int .i64 (DG d m gs ms cs k)) Z (⟨(by (symm;congr 1;exact BP (k:=k) hs (by omega) Z ‹_›)),(aa.trans ab)⟩)⟩))))))
  ·exact Sk (Rg (Ad (k:Int) 1 Z ai Z (by omega) (Mv (.int .i64 ((k:Int)+1)) Z Z (Nl (⟨_,by omega,k+1,Z,(by omega),(by exact Cx hs (Dn ‹_›)),Z,(ad.trans ab),ao,ap,Z⟩)))))
 ·exact Xt (Sq (Rg (As (.int .i64 0) Z Z (Nl (Rt (⟨.inr Z,Ac Z (v:=.int .i64 0) Z (⟨(by (symm;congr 1;exact CB (k:=k) hs (by omega))),(ac.trans ad)⟩)⟩))))))
end Go.Ns
namespace Go.Ns
open Go.Conc Go.Proofs
attribute [local irreducible] Bd DS Tr Ab CJ Bs
theorem PQ {W:Wk Tryz.prog} {h:GH} (n:Int) (hn:0≤n∧n≤99) {k:Nat} (hk:k<5):CJ W (Qk k) #[.int .i64 n] h fun v h'=>v=.int .i64 (signed k n)∧h.Le h':=by
 match k,hk with
 | 0,_=>exact Bv (first:=#[]) (cap:=#[]) Tryz.func203 Fx.call203 rfl ((M0 (W:=W) (h:=h) n).mono fun v h' hp=>⟨hp.1,by rw [←hp.2];exact GH.Le.refl _⟩)
 | 1,_=>exact Bv (first:=#[]) (cap:=#[]) Tryz.func204 Fx.call204 rfl ((Jk (W:=W) (h:=h) n hn).mono fun v h' hp=>⟨hp.1,by rw [←hp.2];exact GH.Le.refl _⟩)
 | 2,_=>exact Bv (first:=#[]) (cap:=#[]) Tryz.func204 Fx.call204 rfl ((Jk (W:=W) (h:=h) n hn).mono fun v h' hp=>⟨hp.1,by rw [←hp.2];exact GH.Le.refl _⟩)
 | 3,_=>exact Bv (first:=#[]) (cap:=#[]) Tryz.func204 Fx.call204 rfl ((Jk (W:=W) (h:=h) n hn).mono fun v h' hp=>⟨hp.1,by rw [←hp.2];exact GH.Le.refl _⟩)
 | 4,_=>exact Bv (first:=#[]) (cap:=#[]) Tryz.func203 Fx.call203 rfl ((M0 (W:=W) (h:=h) n).mono fun v h' hp=>⟨hp.1,by rw [←hp.2];exact GH.Le.refl _⟩)
theorem G3 {W:Wk Tryz.prog} {h:GH} (d:Int) (m:Int) (gs:List Good) (gsv:Value) (ms:List AB) (msv:Value) (cs:List AK) (csv:Value) (p:AS) (g:Int) (dy:Int) (hgs:AN h gsv 5 BD gs) (hms:AN h msv 5 A1 ms) (hcs:AN h csv 4 Av cs) (hG:Ct h) (hg0:0≤g) (hg1:g<3) (hp:Be p) (hml:ms.length≤6) (hkind:∀k,0≤(ms.getD k AB.z).kind∧(ms.getD k AB.z).kind≤4):Ab W 95 #[.agg #[.int .i64 d,.int .i64 m,gsv,msv,csv],.agg (Ai p),.int .i64 g,.int .i64 dy] h (fun v h'=>v=(.tuple #[.int .i64 ((AH ms p g dy).1),.int .i64 ((AH ms p g dy).2)]:Value)∧h.Le h'):=by
 have hpf:=hp.1 g.toNat;have ez:=hgs.len;have e0:=hms.len;have e1:=hcs.len;refine AO Tryz.func95 Z (Nb Z) (Sq (Rg (Pl Z (Ap (v:=.agg #[.int .i64 d,.int .i64 m,gsv,msv,csv]) (c:=#[.int .i64 d,.int .i64 m,gsv,msv,csv]) Z Z fun r4 _ _ e2 hu _=>Pl Z (Ap (v:=.agg (Ai p)) (c:=Ai p) Z Z fun hl hv _ a2 bs _=>As (.int .i64 0) Z Z (As (.int .i64 0) Z Z (Nl (Sq (Rg (Mv (.int .i64 g) Z Z (Fa Fx.fld119_0 Z Z ?_)))))))))));have e3:(0:Int)≤g:=by omega
 have e4:g<((3:Nat):Int):=by omega
 refine Pl Z (Cb Fx.asz115 Z Z e3 e4 (Ld (.int .i64 (p.first (g.toNat))) Z Z (Rd.one Fx.ty3 bs (NK (i:=g.toNat) (by omega))) (As (.int .i64 (p.first (g.toNat))) Z Z (Nl (Sq (Rg (Mv (.int .i64 (p.first (g.toNat))) Z Z (As (.int .i64 (p.first (g.toNat))) Z Z (Nl (Sq (Sq (Rg (Fa Fx.fld104_0 Z Z (Fa Fx.fld26_3 Z Z (have bt:=a2.keep hu Z;Ld msv Z Z (Rd.one Fx.ty23 bt Z) (have a7:=e2.trans a2;Pl Z (AY Fx.sl23 (hms.le a7) Z (Mv (.int .i64 0) Z Z ?_))))))))))))))))));refine Nl (Bk (Ao (fun nn σ' ds' h'=>∃(k:Nat) (n:Int) (low:Int),nn=ms.length-k∧(k≤ms.length)∧(-99*((k:Int)+1)≤n∧n≤99*((k:Int)+1))∧(CN ms p g dy (ms.length-k) k n low=CN ms p g dy ms.length 0 (p.first g.toNat) (p.first g.toNat))∧ds'=[]∧GH.Le hv h'∧σ' 2=.int .i64 g∧σ' 3=.int .i64 dy∧σ' 4=.pointer (some ⟨r4,0,none⟩)∧σ' 5=.pointer (some ⟨hl,0,none⟩)∧σ' 19=msv∧σ' 20=.int .i64 (ms.length:Int)∧σ' 8=.int .i64 n∧σ' 9=.int .i64 low∧σ' 21=.int .i64 (k:Int)) ⟨0,p.first g.toNat,p.first g.toNat,Z,(by omega),(by omega),(by rfl),Z,Lr,Z,Z,Z,Z,Z,Z,Z,Z,Z⟩ (fun nn _ _ _ e5=>?_)));obtain ⟨k,n,low,rfl,hk,hn,hrun,hw,an,a8,a9,ay,ba,bb,bc,a3,a4,az⟩:=e5;subst hw;have hkd:=hkind k;have hre:=FI hp k;have hsg:=Iv (k:=(ms.getD k AB.z).kind.toNat) hre;refine Sq (Rg (Pl Z (A5 (a:=(k:Int)) (b:=(ms.length:Int)) az bc (Nl (Sq (AZ (p:=(k:Int)<(ms.length:Int)) Z (fun e6=>?_) (fun e6=>?_)))))))
 ·refine Sk (Sq (Bk (Sq (Rg (Mv (.int .i64 (k:Int)) Z az ?_)))));have e7:(0:Int)≤(k:Int):=by omega
  have e8:(k:Int)<((ms.length:Nat):Int):=by omega
  refine Pl Z (Az Fx.esz23 hms bb az e7 e8 fun hx bu e9=>have fa:Aa _ hx bu 5 (A1 (ms.getD k AB.z)):=Aa.getD AB.z e9;have al:=a7.trans an;Ld (.agg #[.int .i64 ((ms.getD k AB.z).kind),.int .i64 ((ms.getD k AB.z).good),.int .i64 ((ms.getD k AB.z).day),.int .i64 ((ms.getD k AB.z).low),.int .i64 ((ms.getD k AB.z).high)]) Z Z (AR Fx.ty75 (fa.le al)) (have au:=an.keep bt Z;have bv:=an.keep bs Z;Pl Z (Aj Fx.zero75 fun ey _ ai ac fb _=>have a0:r4≠ey:=Cg au ai;have fc:hl≠ey:=Cg bv ai;As (.int .i64 (k:Int)) Z Z (Pl Z (AL (v:=.agg #[.int .i64 ((ms.getD k AB.z).kind),.int .i64 ((ms.getD k AB.z).good),.int .i64 ((ms.getD k AB.z).day),.int .i64 ((ms.getD k AB.z).low),.int .i64 ((ms.getD k AB.z).high)]) (c':=#[.int .i64 ((ms.getD k AB.z).kind),.int .i64 ((ms.getD k AB.z).good),.int .i64 ((ms.getD k AB.z).day),.int .i64 ((ms.getD k AB.z).low),.int .i64 ((ms.getD k AB.z).high)]) Fx.ty75 Z Z fb Z Z (by simp) Z fun _ av ae=>Nl (Sq (Sq (Rg (Fa Fx.fld75_2 Z Z (Ld (.int .i64 ((ms.getD k AB.z).day)) Z Z (Rd.one Fx.ty3 av Z) (Mv (.int .i64 dy) Z a9 (Pl Z (DD (a:=(ms.getD k AB.z).day) (b:=dy) Z Z (Nl (AZ (p:=dy<((ms.getD k AB.z).day)) Z (fun fd=>?_) (fun fd=>?_))))))))))))))))
  ·exact Xt (Sq (Rg (Mv (.int .i64 n) Z a3 (Mv (.int .i64 low) Z a4 (As (.int .i64 n) Z Z (As (.int .i64 low) Z Z (Nl (Rt (have fe:=(al.trans ac).upd (Ln al ai) ae;⟨.inr Z,Cu Z (v:=.int .i64 n) (v':=.int .i64 low) Z Z (⟨(by (rw [AH,←hrun,Lz (ms:=ms) (k:=k) (dy:=dy) (by omega) ‹_›])),fe⟩)⟩)))))))))
  ·refine Sk (Sq (Sq (Rg (Fa Fx.fld75_1 Z Z (Ld (.int .i64 ((ms.getD k AB.z).good)) Z Z (Rd.one Fx.ty3 av Z) (Mv (.int .i64 g) Z a8 (Pl Z (Bg (a:=(ms.getD k AB.z).good) (b:=g) Z Z (Nl (AZ (p:=((ms.getD k AB.z).good)=g) Z (fun ff=>?_) (fun ff=>?_)))))))))))
   ·refine BQ 10 false [0,5,11,15,20,26,31,36,42,47] Fx.mixed (by kernel_rfl) (tP Z Z (fun _=>AA (v:=.int .i64 n) a3 vz) (tP Z Z (fun _=>AI Fx.fld75_0 Z vz) (tR Z Z (AF (v:=.int .i64 ((ms.getD k AB.z).kind)) Z (Rd.one Fx.ty73 av Z) vz) ?_)));have fg:(0:Int)≤(ms.getD k AB.z).kind:=by omega
    have fh:(ms.getD k AB.z).kind<((5:Nat):Int):=by omega
    refine tP Z Z (fun _=>Cb Fx.asz174 Z Z fg fh vz) (tP Z Z (fun _=>AI Fx.fld173_1 Z vz) (have bd:=(al.trans ac).upd (Ln al ai) ae;tR Z Z (AF (v:=Qk (((ms.getD k AB.z).kind).toNat)) Z (Uz Fx.ty120 (hG.le bd).2 (SM (by omega))) vz) (tR Z Z (AF (v:=.agg (Ai p)) ba (AR Fx.ty119 (Bx ((ae _ fc).trans (ac.keep bv Z)) Z)) vz) (tR Z Z (AA (v:=.int .i64 (k:Int)) Z vz) (tE Z Z (AX Tryz.func83 Fx.call83 Z Z ((Jj p (k:Int) (by omega) (by omega)).mono fun _ _ fi=>?_)))))));obtain ⟨rfl,af⟩:=fi;refine eT af (tE Z Z (Fz Z Z ((PQ (BV p k) (by omega) (k:=(((ms.getD k AB.z).kind).toNat)) (by omega)).mono fun _ _ fj=>?_)));obtain ⟨rfl,ag⟩:=fj;refine eT ag (tN (Ad n (signed (((ms.getD k AB.z).kind).toNat) (BV p k)) Z Z Z (by omega) (As (.int .i64 (n+(signed (((ms.getD k AB.z).kind).toNat) (BV p k)))) Z Z (Nl (Sq (Kp 18 [[],[0],[],[2],[2,3],[2,3,4],[0,1,2,3,4,5],[0,1,2,3,4,5,6],[0,1,2,3,4,5,6,7],[0,1,2,3,4,5,6,7,8],[0,1,2,3,4,5,6,7,8,9],[0,1,2,3,4,5,6,7],[0,1,2,3,4,5,6,7,11],[0,1,2,3,4,5,6,7,8,9,10,11,12],[0,1,2,3,4,5,6,7,8,9,10,11,12,13],[0,1,2,3,4,5,6,7,8,9,10,11,12,13,14],[0,1,2,3,4,5,6,7],[0,1,2,3,4,5,6,7,16]] [(lF (.int .i64 (k:Int))),(lF (.int .i64 ((k:Int)+1))),(lF (.pointer (some ⟨r4,0,none⟩))),(lF (.pointer (some ⟨r4,3,none⟩))),(lF msv),(lF (.int .i64 (ms.length:Int))),(lF (.bool (decide (((k:Int)+1)=(ms.length:Int))))),(lF (.bool (decide (((k:Int)+1)=(ms.length:Int))))),(lF (.pointer (some ⟨r4,0,none⟩))),(lF (.pointer (some ⟨r4,3,none⟩))),(lF msv),(lF (.int .i64 (k:Int))),(lF (.int .i64 ((k:Int)+1))),(fun v h=>∃(a1:Nat) (ah:Nat),v=(.pointer (some ⟨a1,ah,none⟩):Value)∧Aa h a1 ah 5 #[.int .i64 ((ms.getD (k+1) AB.z).kind),.int .i64 ((ms.getD (k+1) AB.z).good),.int .i64 ((ms.getD (k+1) AB.z).day),.int .i64 ((ms.getD (k+1) AB.z).low),.int .i64 ((ms.getD (k+1) AB.z).high)]),(fun v h=>∃(a1:Nat) (ah:Nat),v=(.pointer (some ⟨a1,ah+2,none⟩):Value)∧Aa h a1 ah 5 #[.int .i64 ((ms.getD (k+1) AB.z).kind),.int .i64 ((ms.getD (k+1) AB.z).good),.int .i64 ((ms.getD (k+1) AB.z).day),.int .i64 ((ms.getD (k+1) AB.z).low),.int .i64 ((ms.getD (k+1) AB.z).high)]),(lF (.int .i64 ((ms.getD (k+1) AB.z).day))),(lF (.pointer (some ⟨ey,2,none⟩))),(lF (.int .i64 ((ms.getD k AB.z).day)))] Fx.mixed (by kernel_rfl) (K8 (K4 (K1 ⟨(fun _ _ _ l ⟨a1,ah,e,f0⟩=>⟨a1,ah,e,f0.le l⟩),(fun _ _ _ l ⟨a1,ah,e,f0⟩=>⟨a1,ah,e,f0.le l⟩),K2 (K1 trivial)⟩))) ⟨?_,?_,?_,?_,?_,?_,?_,?_,?_,?_,?_,?_,?_,?_,?_,?_,?_,?_,?_⟩))))))
    ·intro _ _ _ fk _ _;exact (AA (v:=.int .i64 (k:Int)) (Et (fk 10 Z) Z) (fL Z))
    ·intro _ _ _ _ fl _;obtain ⟨hy,_⟩:=fl;exact (Bw (a:=(k:Int)) (b:=1) (hy trivial) Z (by omega) (fL Z))
    ·intro _ _ _ fm _ _;exact (AI Fx.fld104_0 (Et (fm 4 Z) ay) (fL Z))
    ·intro _ _ _ _ bw _;obtain ⟨fn,_⟩:=bw;exact (AI Fx.fld26_3 (fn trivial) (fL Z))
    ·intro _ _ be _ bx _;obtain ⟨_,fo,_⟩:=bx;have bz:=(be.keep (ag.keep (af.keep ((ae _ a0).trans (ac.keep au Z)) Z) Z) Z);exact (AF (v:=msv) (fo trivial) (Rd.one Fx.ty23 bz Z) (fL Z))
    ·intro _ _ bf _ b0 _;obtain ⟨_,_,fp,_⟩:=b0;exact (AY Fx.sl23 (hms.le (((bd.trans af).trans ag).trans bf)) (fp trivial) (fL Z))
    ·intro _ _ _ _ b1 _;obtain ⟨_,fq,_,_,_,fr,_⟩:=b1;exact (Bg (a:=(k:Int)+1) (b:=(ms.length:Int)) (fq trivial) (fr trivial) (fL Z))
    ·intro _ _ _ _ b2 _;obtain ⟨_,_,_,_,_,_,fs,_⟩:=b2;exact (AA (v:=.bool (decide (((k:Int)+1)=(ms.length:Int)))) (fs trivial) (fL Z))
    ·intro _ _ _ b3 b4 b5;obtain ⟨_,_,_,_,_,_,_,ft,_⟩:=b4;have hm:=Ce (ft trivial) b5;exact (AI Fx.fld104_0 (Et (b3 4 Z) ay) (fL Z))
    ·intro _ _ _ _ b6 b7;obtain ⟨_,_,_,_,_,_,_,fu,fv,_⟩:=b6;have b8:=fu trivial;have b9:=Ce b8 b7;exact (AI Fx.fld26_3 (fv (AD b8 b9)) (fL Z))
    ·intro _ _ bg _ ca cb;obtain ⟨_,_,_,_,_,_,_,fw,_,fx,_⟩:=ca;have cc:=fw trivial;have cd:=Ce cc cb;have ce:=(bg.keep (ag.keep (af.keep ((ae _ a0).trans (ac.keep au Z)) Z) Z) Z);exact (AF (v:=msv) (fx (AD cc cd)) (Rd.one Fx.ty23 ce Z) (fL Z))
    ·intro _ _ _ cf cg ch;obtain ⟨_,_,_,_,_,_,_,fy,_⟩:=cg;have ho:=Ce (fy trivial) ch;exact (AA (v:=.int .i64 (k:Int)) (Et (cf 10 Z) Z) (fL Z))
    ·intro _ _ _ _ ci cj;obtain ⟨_,_,_,_,_,_,_,fz,f1,_⟩:=ci;have ck:=fz trivial;have cl:=Ce ck cj;exact (Bw (a:=(k:Int)) (b:=1) (f1 (AD ck cl)) Z (by omega) (fL Z))
    ·intro _ _ bh _ cm cn;obtain ⟨_,_,_,_,_,_,_,f2,_,_,f3,_,f4,_⟩:=cm;have bi:=f2 trivial;have a5:=Ce bi cn;have co:(0:Int)≤(k:Int)+1:=by omega
     have cp:(k:Int)+1<((ms.length:Nat):Int):=by omega
     exact (Az Fx.esz23 hms (f3 (AD bi a5)) (f4 (AD bi a5)) co cp fun cq aw cr=>have ct:Aa _ cq aw 5 (A1 (ms.getD (k+1) AB.z)):=Aa.getD AB.z cr;fL ⟨cq,aw,Z,(ct.le (((bd.trans af).trans ag).trans bh))⟩)
    ·intro _ _ _ _ cu cv;obtain ⟨_,_,_,_,_,_,_,f5,_,_,_,_,_,f6,_⟩:=cu;have cw:=f5 trivial;have cx:=Ce cw cv;obtain ⟨f7,bj,f8,f9⟩:=f6 (AD cw cx);exact (AI Fx.fld75_2 f8 (fL ⟨f7,bj,Z,f9⟩))
    ·intro _ _ _ _ cy cz;obtain ⟨_,_,_,_,_,_,_,ga,_,_,_,_,_,_,gb,_⟩:=cy;have c0:=ga trivial;have c1:=Ce c0 cz;obtain ⟨_,_,gc,gd⟩:=gb (AD c0 c1);exact (AF (v:=.int .i64 ((ms.getD (k+1) AB.z).day)) gc (Bq (o:=2) Fx.ty3 gd Z) (fL Z))
    ·intro _ _ _ c2 c3 c4;obtain ⟨_,_,_,_,_,_,_,ge,_⟩:=c3;have hq:=Ce (ge trivial) c4;exact (AI Fx.fld75_2 (Et (c2 11 Z) Z) (fL Z))
    ·intro _ _ bk _ c5 c6;obtain ⟨_,_,_,_,_,_,_,gf,gg,_⟩:=c5;have c7:=gf trivial;have c8:=Ce c7 c6;exact (AF (v:=.int .i64 ((ms.getD k AB.z).day)) (gg (AD c7 c8)) (Rd.one Fx.ty3 (bk.keep (ag.keep (af.keep av Z) Z) Z) Z) (fL Z))
    ·intro _ _ ao aa c9;obtain ⟨_,_,_,_,_,_,_,gi,_,_,_,_,_,_,_,gj,_,gk,_⟩:=c9;have aq:=gi trivial;refine BM (p:=((k:Int)+1)=(ms.length:Int)) ?_ ?_
     ·intro aj;refine Gs 7 52 (AE aq aj) Z (Pk true (.bool true) Z (AE aq aj) Z (Nl (DA Z (Rg (Mv (.int .i64 low) Z (Et (aa 9 Z) a4) (Mv (.int .i64 (n+(signed (((ms.getD k AB.z).kind).toNat) (BV p k)))) Z (Et (aa 8 Z) Z) (Pl Z (NC (a:=low) (b:=n+(signed (((ms.getD k AB.z).kind).toNat) (BV p k))) Z Z (As (.int .i64 (min low (n+(signed (((ms.getD k AB.z).kind).toNat) (BV p k))))) Z Z (Nl (Rg (Ad (k:Int) 1 Z (Et (aa 21 Z) az) Z (by omega) (Mv (.int .i64 ((k:Int)+1)) Z Z ?_)))))))))))));exact Nl (have da:=((((an.trans ac).upd (Ln an ai) ae).trans af).trans ag).trans ao;⟨_,by omega,k+1,n+(signed (((ms.getD k AB.z).kind).toNat) (BV p k)),min low (n+(signed (((ms.getD k AB.z).kind).toNat) (BV p k))),Z,(by omega),(by omega),(by rw [←hrun,DX (ms:=ms) (k:=k) (dy:=dy) (by omega) ‹_›];unfold Ey EV;repeat (first | rw [if_pos ‹_›] | rw [if_pos (.inl ‹_›)])),Z,da,(Et (aa 2 Z) a8),(Et (aa 3 Z) a9),(Et (aa 4 Z) ay),(Et (aa 5 Z) ba),(Et (aa 19 Z) bb),(Et (aa 20 Z) bc),(Et (aa 8 Z) Z),Z,Z⟩)
     ·intro aj;refine Gg 7 52 (AD aq aj) Z (DD (a:=(ms.getD (k+1) AB.z).day) (b:=(ms.getD k AB.z).day) (gj (AD aq aj)) (gk (AD aq aj)) (Pk false (.bool (decide (((ms.getD k AB.z).day)<((ms.getD (k+1) AB.z).day)))) Z (AD aq aj) Z (Nl (AZ (p:=((ms.getD k AB.z).day)<((ms.getD (k+1) AB.z).day)) Z (fun db=>?_) (fun db=>?_)))))
      ·exact Rg (Mv (.int .i64 low) Z (Et (aa 9 Z) a4) (Mv (.int .i64 (n+(signed (((ms.getD k AB.z).kind).toNat) (BV p k)))) Z (Et (aa 8 Z) Z) (Pl Z (NC (a:=low) (b:=n+(signed (((ms.getD k AB.z).kind).toNat) (BV p k))) Z Z (As (.int .i64 (min low (n+(signed (((ms.getD k AB.z).kind).toNat) (BV p k))))) Z Z (Nl (Rg (Ad (k:Int) 1 Z (Et (aa 21 Z) az) Z (by omega) (Mv (.int .i64 ((k:Int)+1)) Z Z (Nl (have dc:=((((an.trans ac).upd (Ln an ai) ae).trans af).trans ag).trans ao;⟨_,by omega,k+1,n+(signed (((ms.getD k AB.z).kind).toNat) (BV p k)),min low (n+(signed (((ms.getD k AB.z).kind).toNat) (BV p k))),Z,(by omega),(by omega),(by rw [←hrun,DX (ms:=ms) (k:=k) (dy:=dy) (by omega) ‹_›];unfold Ey EV;repeat (first | rw [if_pos ‹_›] | rw [if_pos (.inr ‹_›)])),Z,dc,(Et (aa 2 Z) a8),(Et (aa 3 Z) a9),(Et (aa 4 Z) ay),(Et (aa 5 Z) ba),(Et (aa 19 Z) bb),(Et (aa 20 Z) bc),(Et (aa 8 Z) Z),Z,Z⟩)))))))))))
      ·exact Sk (Rg (Ad (k:Int) 1 Z (Et (aa 21 Z) az) Z (by omega) (Mv (.int .i64 ((k:Int)+1)) Z Z (Nl (have dd:=((((an.trans ac).upd (Ln an ai) ae).trans af).trans ag).trans ao;⟨_,by omega,k+1,n+(signed (((ms.getD k AB.z).kind).toNat) (BV p k)),low,rfl,(by omega),(by omega),(by rw [←hrun,DX (ms:=ms) (k:=k) (dy:=dy) (by omega) ‹_›];unfold Ey EV;repeat (first | rw [if_pos ‹_›] | rw [if_neg (by rintro (q | q) <;> contradiction)])),rfl,dd,(Et (aa 2 rfl) a8),(Et (aa 3 rfl) a9),(Et (aa 4 rfl) ay),(Et (aa 5 rfl) ba),(Et (aa 19 rfl) bb),(Et (aa 20 rfl) bc),(Et (aa 8 rfl) rfl),(Et (aa 9 rfl) a4),(Et (b:=(.int .i64 ((k:Int)+1):Value)) rfl (by rfl))⟩)))))
   ·refine Sk (Sq (Kp 18 [[],[0],[],[2],[2,3],[2,3,4],[0,1,2,3,4,5],[0,1,2,3,4,5,6],[0,1,2,3,4,5,6,7],[0,1,2,3,4,5,6,7,8],[0,1,2,3,4,5,6,7,8,9],[0,1,2,3,4,5,6,7],[0,1,2,3,4,5,6,7,11],[0,1,2,3,4,5,6,7,8,9,10,11,12],[0,1,2,3,4,5,6,7,8,9,10,11,12,13],[0,1,2,3,4,5,6,7,8,9,10,11,12,13,14],[0,1,2,3,4,5,6,7],[0,1,2,3,4,5,6,7,16]] [(lF (.int .i64 (k:Int))),(lF (.int .i64 ((k:Int)+1))),(lF (.pointer (some ⟨r4,0,none⟩))),(lF (.pointer (some ⟨r4,3,none⟩))),(lF msv),(lF (.int .i64 (ms.length:Int))),(lF (.bool (decide (((k:Int)+1)=(ms.length:Int))))),(lF (.bool (decide (((k:Int)+1)=(ms.length:Int))))),(lF (.pointer (some ⟨r4,0,none⟩))),(lF (.pointer (some ⟨r4,3,none⟩))),(lF msv),(lF (.int .i64 (k:Int))),(lF (.int .i64 ((k:Int)+1))),(fun v h=>∃(am:Nat) (ad:Nat),v=(.pointer (some ⟨am,ad,none⟩):Value)∧Aa h am ad 5 #[.int .i64 ((ms.getD (k+1) AB.z).kind),.int .i64 ((ms.getD (k+1) AB.z).good),.int .i64 ((ms.getD (k+1) AB.z).day),.int .i64 ((ms.getD (k+1) AB.z).low),.int .i64 ((ms.getD (k+1) AB.z).high)]),(fun v h=>∃(am:Nat) (ad:Nat),v=(.pointer (some ⟨am,ad+2,none⟩):Value)∧Aa h am ad 5 #[.int .i64 ((ms.getD (k+1) AB.z).kind),.int .i64 ((ms.getD (k+1) AB.z).good),.int .i64 ((ms.getD (k+1) AB.z).day),.int .i64 ((ms.getD (k+1) AB.z).low),.int .i64 ((ms.getD (k+1) AB.z).high)]),(lF (.int .i64 ((ms.getD (k+1) AB.z).day))),(lF (.pointer (some ⟨ey,2,none⟩))),(lF (.int .i64 ((ms.getD k AB.z).day)))] Fx.mixed (by kernel_rfl) (K8 (K4 (K1 ⟨(fun _ _ _ l ⟨am,ad,e,f0⟩=>⟨am,ad,e,f0.le l⟩),(fun _ _ _ l ⟨am,ad,e,f0⟩=>⟨am,ad,e,f0.le l⟩),K2 (K1 trivial)⟩))) ⟨?_,?_,?_,?_,?_,?_,?_,?_,?_,?_,?_,?_,?_,?_,?_,?_,?_,?_,?_⟩))
    ·intro _ _ _ de _ _;exact (AA (v:=.int .i64 (k:Int)) (Et (de 10 Z) Z) (fL Z))
    ·intro _ _ _ _ df _;obtain ⟨gl,_⟩:=df;exact (Bw (a:=(k:Int)) (b:=1) (gl trivial) Z (by omega) (fL Z))
    ·intro _ _ _ dg _ _;exact (AI Fx.fld104_0 (Et (dg 4 Z) ay) (fL Z))
    ·intro _ _ _ _ dh _;obtain ⟨gm,_⟩:=dh;exact (AI Fx.fld26_3 (gm trivial) (fL Z))
    ·intro _ _ bl _ di _;obtain ⟨_,gn,_⟩:=di;exact (AF (v:=msv) (gn trivial) (Rd.one Fx.ty23 (bl.keep ((ae _ a0).trans (ac.keep au Z)) Z) Z) (fL Z))
    ·intro _ _ bm _ dj _;obtain ⟨_,_,gp,_⟩:=dj;have dk:=hms.le (((al.trans ac).upd (Ln al ai) ae).trans bm);exact (AY Fx.sl23 dk (gp trivial) (fL Z))
    ·intro _ _ _ _ dl _;obtain ⟨_,gq,_,_,_,gr,_⟩:=dl;exact (Bg (a:=(k:Int)+1) (b:=(ms.length:Int)) (gq trivial) (gr trivial) (fL Z))
    ·intro _ _ _ _ dm _;obtain ⟨_,_,_,_,_,_,gt,_⟩:=dm;exact (AA (v:=.bool (decide (((k:Int)+1)=(ms.length:Int)))) (gt trivial) (fL Z))
    ·intro _ _ _ dn dp dq;obtain ⟨_,_,_,_,_,_,_,gu,_⟩:=dp;have hr:=Ce (gu trivial) dq;exact (AI Fx.fld104_0 (Et (dn 4 Z) ay) (fL Z))
    ·intro _ _ _ _ dr ds;obtain ⟨_,_,_,_,_,_,_,gv,gw,_⟩:=dr;have dt:=gv trivial;have du:=Ce dt ds;exact (AI Fx.fld26_3 (gw (AD dt du)) (fL Z))
    ·intro _ _ bn _ dv dw;obtain ⟨_,_,_,_,_,_,_,gx,_,gy,_⟩:=dv;have dx:=gx trivial;have dz:=Ce dx dw;exact (AF (v:=msv) (gy (AD dx dz)) (Rd.one Fx.ty23 (bn.keep ((ae _ a0).trans (ac.keep au Z)) Z) Z) (fL Z))
    ·intro _ _ _ d0 d1 d2;obtain ⟨_,_,_,_,_,_,_,gz,_⟩:=d1;have hs:=Ce (gz trivial) d2;exact (AA (v:=.int .i64 (k:Int)) (Et (d0 10 Z) Z) (fL Z))
    ·intro _ _ _ _ d3 d4;obtain ⟨_,_,_,_,_,_,_,g0,g1,_⟩:=d3;have d5:=g0 trivial;have d6:=Ce d5 d4;exact (Bw (a:=(k:Int)) (b:=1) (g1 (AD d5 d6)) Z (by omega) (fL Z))
    ·intro _ _ bo _ d7 d8;obtain ⟨_,_,_,_,_,_,_,g2,_,_,g3,_,g4,_⟩:=d7;have bp:=g2 trivial;have a6:=Ce bp d8;have d9:(0:Int)≤(k:Int)+1:=by omega
     have ea:(k:Int)+1<((ms.length:Nat):Int):=by omega
     exact (Az Fx.esz23 hms (g3 (AD bp a6)) (g4 (AD bp a6)) d9 ea fun eb ax ec=>have ed:Aa _ eb ax 5 (A1 (ms.getD (k+1) AB.z)):=Aa.getD AB.z ec;have ee:=ed.le (((al.trans ac).upd (Ln al ai) ae).trans bo);fL ⟨eb,ax,Z,ee⟩)
    ·intro _ _ _ _ ef eg;obtain ⟨_,_,_,_,_,_,_,g5,_,_,_,_,_,g6,_⟩:=ef;have eh:=g5 trivial;have ei:=Ce eh eg;obtain ⟨g7,bq,g8,g9⟩:=g6 (AD eh ei);exact (AI Fx.fld75_2 g8 (fL ⟨g7,bq,Z,g9⟩))
    ·intro _ _ _ _ ej ek;obtain ⟨_,_,_,_,_,_,_,ha,_,_,_,_,_,_,hb,_⟩:=ej;have el:=ha trivial;have em:=Ce el ek;obtain ⟨_,_,hc,hd⟩:=hb (AD el em);exact (AF (v:=.int .i64 ((ms.getD (k+1) AB.z).day)) hc (Bq (o:=2) Fx.ty3 hd Z) (fL Z))
    ·intro _ _ _ en eo ep;obtain ⟨_,_,_,_,_,_,_,he,_⟩:=eo;have ht:=Ce (he trivial) ep;exact (AI Fx.fld75_2 (Et (en 11 Z) Z) (fL Z))
    ·intro _ _ br _ eq er;obtain ⟨_,_,_,_,_,_,_,hf,hg,_⟩:=eq;have es:=hf trivial;have et:=Ce es er;exact (AF (v:=.int .i64 ((ms.getD k AB.z).day)) (hg (AD es et)) (Rd.one Fx.ty3 (br.keep av Z) Z) (fL Z))
    ·intro _ _ ap ab eu;obtain ⟨_,_,_,_,_,_,_,hh,_,_,_,_,_,_,_,hi,_,hj,_⟩:=eu;have ar:=hh trivial;refine BM (p:=((k:Int)+1)=(ms.length:Int)) ?_ ?_
     ·intro ak;refine Gs 7 52 (AE ar ak) Z (Pk true (.bool true) Z (AE ar ak) Z (Nl (DA Z (Rg (Mv (.int .i64 low) Z (Et (ab 9 Z) a4) (Mv (.int .i64 n) Z (Et (ab 8 Z) a3) (Pl Z (NC (a:=low) (b:=n) Z Z (As (.int .i64 (min low n)) Z Z (Nl (Rg (Ad (k:Int) 1 Z (Et (ab 21 Z) az) Z (by omega) (Mv (.int .i64 ((k:Int)+1)) Z Z ?_)))))))))))));exact Nl (have ev:=((an.trans ac).upd (Ln an ai) ae).trans ap;⟨_,by omega,k+1,n,min low n,Z,(by omega),(by omega),(by rw [←hrun,DX (ms:=ms) (k:=k) (dy:=dy) (by omega) ‹_›];unfold Ey EV;repeat (first | rw [if_neg ‹_›] | rw [if_pos (.inl ‹_›)])),Z,ev,(Et (ab 2 Z) a8),(Et (ab 3 Z) a9),(Et (ab 4 Z) ay),(Et (ab 5 Z) ba),(Et (ab 19 Z) bb),(Et (ab 20 Z) bc),(Et (ab 8 Z) a3),Z,Z⟩)
     ·intro ak;refine Gg 7 52 (AD ar ak) Z (DD (a:=(ms.getD (k+1) AB.z).day) (b:=(ms.getD k AB.z).day) (hi (AD ar ak)) (hj (AD ar ak)) (Pk false (.bool (decide (((ms.getD k AB.z).day)<((ms.getD (k+1) AB.z).day)))) Z (AD ar ak) Z (Nl (AZ (p:=((ms.getD k AB.z).day)<((ms.getD (k+1) AB.z).day)) Z (fun ew=>?_) (fun ew=>?_)))))
      ·exact Rg (Mv (.int .i64 low) Z (Et (ab 9 Z) a4) (Mv (.int .i64 n) Z (Et (ab 8 Z) a3) (Pl Z (NC (a:=low) (b:=n) Z Z (As (.int .i64 (min low n)) Z Z (Nl (Rg (Ad (k:Int) 1 Z (Et (ab 21 Z) az) Z (by omega) (Mv (.int .i64 ((k:Int)+1)) Z Z (Nl (have ex:=((an.trans ac).upd (Ln an ai) ae).trans ap;⟨_,by omega,k+1,n,min low n,Z,(by omega),(by omega),(by rw [←hrun,DX (ms:=ms) (k:=k) (dy:=dy) (by omega) ‹_›];unfold Ey EV;repeat (first | rw [if_neg ‹_›] | rw [if_pos (.inr ‹_›)])),Z,ex,(Et (ab 2 Z) a8),(Et (ab 3 Z) a9),(Et (ab 4 Z) ay),(Et (ab 5 Z) ba),(Et (ab 19 Z) bb),(Et (ab 20 Z) bc),(Et (ab 8 Z) a3),Z,Z⟩)))))))))))
      ·exact Sk (Rg (Ad (k:Int) 1 Z (Et (ab 21 Z) az) Z (by omega) (Mv (.int .i64 ((k:Int)+1)) Z Z (Nl (⟨_,by omega,k+1,n,low,rfl,(by omega),(by omega),(by rw [←hrun,DX (ms:=ms) (k:=k) (dy:=dy) (by omega) ‹_›];unfold Ey EV;repeat (first | rw [if_neg ‹_›] | rw [if_neg (by rintro (q | q) <;> contradiction)])),rfl,(((an.trans ac).upd (Ln an ai) ae).trans ap),(Et (ab 2 rfl) a8),(Et (ab 3 rfl) a9),(Et (ab 4 rfl) ay),(Et (ab 5 rfl) ba),(Et (ab 19 rfl) bb),(Et (ab 20 rfl) bc),(Et (ab 8 rfl) a3),(Et (ab 9 rfl) a4),(Et (b:=(.int .i64 ((k:Int)+1):Value)) rfl (by rfl))⟩)))))
 ·exact Xt (Sq (Rg (Mv (.int .i64 n) Z a3 (Mv (.int .i64 low) Z a4 (As (.int .i64 n) Z Z (As (.int .i64 low) Z Z (Nl (Rt (⟨.inr Z,Cu Z (v:=.int .i64 n) (v':=.int .i64 low) Z Z (⟨(by (rw [AH,←hrun,NM (ms:=ms) (k:=k) ‹_›];done)),(a7.trans an)⟩)⟩)))))))))
end Go.Ns
namespace Go.Ns
open Go.Conc Go.Proofs
attribute [local irreducible] Bd DS Tr Ab CJ Bs
theorem N3 {W:Wk Tryz.prog} {h:GH} (c:AK) (d:Int) (m:Int) (gs:List Good) (gsv:Value) (ms:List AB) (msv:Value) (cs:List AK) (csv:Value) (r:Nat) (p:AS) (rp:Nat) (hgs:AN h gsv 5 BD gs) (hms:AN h msv 5 A1 ms) (hcs:AN h csv 4 Av cs) (hr:Aa h r 0 5 #[.int .i64 d,.int .i64 m,gsv,msv,csv]) (hrp:Aa h rp 0 15 (Ai p)) (hG:Ct h) (hc0:0≤c.good) (hc1:c.good<3) (hp:Be p) (hml:ms.length≤6) (hkind:∀k,0≤(ms.getD k AB.z).kind∧(ms.getD k AB.z).kind≤4):Ab W 145 #[.agg #[.int .i64 c.good,.int .i64 c.day,.int .i64 c.low,.int .i64 c.high],.pointer (some ⟨r,0,none⟩),.pointer (some ⟨rp,0,none⟩)] h (fun v h'=>v=(.bool (decide (¬(c.low≤(AH ms p c.good c.day).1∧(AH ms p c.good c.day).1≤c.high))):Value)∧h.Le h'):=by
 have ad:=hgs.len;have ae:=hms.len;have af:=hcs.len;refine AO Tryz.func145 Z (Nb Z) (Sq (Rg (Pl Z (Ap (v:=.agg #[.int .i64 c.good,.int .i64 c.day,.int .i64 c.low,.int .i64 c.high]) (c:=#[.int .i64 c.good,.int .i64 c.day,.int .i64 c.low,.int .i64 c.high]) Z Z fun _ _ _ aa ag _=>As (.bool false) Z Z (Nl (Sq (Rg (Ld (.agg #[.int .i64 d,.int .i64 m,gsv,msv,csv]) Z Z (AR Fx.ty104 (hr.le aa)) (Ld (.agg (Ai p)) Z Z (AR Fx.ty119 (hrp.le aa)) (Fa Fx.fld79_0 Z Z (Ld (.int .i64 c.good) Z Z (Rd.one Fx.ty3 ag Z) (Fa Fx.fld79_1 Z Z (Ld (.int .i64 c.day) Z Z (Rd.one Fx.ty3 ag Z) (Pl Z (CA Tryz.func95 Fx.call95 Z Z Z Z ((G3 d m gs gsv ms msv cs csv p c.good c.day (hgs.le aa) (hms.le aa) (hcs.le aa) (hG.le aa) (by omega) (by omega) (by omega) (by omega) (by omega)).mono fun _ _ ah=>?_))))))))))))))));obtain ⟨rfl,ab⟩:=ah;refine Mv (.tuple #[.int .i64 ((AH ms p c.good c.day).1),.int .i64 ((AH ms p c.good c.day).2)]) Z Z (Pl Z (AQ (vs:=#[.int .i64 ((AH ms p c.good c.day).1),.int .i64 ((AH ms p c.good c.day).2)]) (v:=.int .i64 ((AH ms p c.good c.day).1)) Z Z (Pl Z (AQ (vs:=#[.int .i64 ((AH ms p c.good c.day).1),.int .i64 ((AH ms p c.good c.day).2)]) (v:=.int .i64 ((AH ms p c.good c.day).2)) Z Z (As (.int .i64 ((AH ms p c.good c.day).1)) Z Z (As (.int .i64 ((AH ms p c.good c.day).2)) Z Z (Nl (Sq (Rg (Mv (.int .i64 ((AH ms p c.good c.day).1)) Z Z (Fa Fx.fld79_2 Z Z (Fa Fx.fld31_0 Z Z (have ac:=ab.keep ag Z;Ld (.int .i64 c.low) Z Z (Rd.one Fx.ty3 ac Z) (Fa Fx.fld79_2 Z Z (Fa Fx.fld31_1 Z Z ?_)))))))))))))));refine Ld (.int .i64 c.high) Z Z (Rd.one Fx.ty3 ac Z) (Pl Z (Ar Tryz.func79 Fx.call79 Z Z Z ((BU ((AH ms p c.good c.day).1) c.low c.high ).mono fun _ _ ai=>?_)));obtain ⟨rfl,rfl⟩:=ai;exact Pl Z (BO (p:=c.low≤((AH ms p c.good c.day).1)∧((AH ms p c.good c.day).1)≤c.high) Z (As (.bool (decide (¬(c.low≤((AH ms p c.good c.day).1)∧((AH ms p c.good c.day).1)≤c.high)))) Z Z (Nl (Rt (⟨.inr Z,Ac Z (v:=.bool (decide (¬(c.low≤((AH ms p c.good c.day).1)∧((AH ms p c.good c.day).1)≤c.high)))) Z (⟨(by rfl),(aa.trans ab)⟩)⟩)))))
theorem PR {W:Wk Tryz.prog} {h:GH} (d:Int) (m:Int) (gs:List Good) (gsv:Value) (ms:List AB) (msv:Value) (cs:List AK) (csv:Value) (p:AS) (hgs:AN h gsv 5 BD gs) (hms:AN h msv 5 A1 ms) (hcs:AN h csv 4 Av cs) (hG:Ct h) (hp:Be p) (hml:ms.length≤6) (hkind:∀k,0≤(ms.getD k AB.z).kind∧(ms.getD k AB.z).kind≤4) (hgl:gs.length≤3) (hcg:∀x ∈ cs,0≤x.good∧x.good<3):Ab W 102 #[.agg #[.int .i64 d,.int .i64 m,gsv,msv,csv],.agg (Ai p)] h (fun v h'=>v=(.bool (A8 d gs.length ms cs p):Value)∧h.Le h'):=by
 have ao:=hgs.len;have ap:=hms.len;have aq:=hcs.len;refine AO Tryz.func102 Z (Nb Z) (Sq (Rg (Pl Z (Ap (v:=.agg #[.int .i64 d,.int .i64 m,gsv,msv,csv]) (c:=#[.int .i64 d,.int .i64 m,gsv,msv,csv]) Z Z fun r4 _ _ ar a3 _=>Pl Z (Ap (v:=.agg (Ai p)) (c:=Ai p) Z Z fun an a4 _ ac ai _=>As (.bool false) Z Z (Nl (Sq (Sq (Rg (Fa Fx.fld104_0 Z Z (Fa Fx.fld26_2 Z Z (have ae:=ac.keep a3 Z;Ld gsv Z Z (Rd.one Fx.ty22 ae Z) (have af:=ar.trans ac;Pl Z (AY Fx.sl22 (hgs.le af) Z (Mv (.int .i64 0) Z Z (Nl (Bk ?_)))))))))))))))));refine Ao (fun nn σ' ds' h'=>∃(k:Nat),nn=gs.length-k∧(k≤gs.length)∧(∀j,j<k→¬(AH ms p (j:Int) d).2<0)∧ds'=[]∧GH.Le a4 h'∧σ' 2=.pointer (some ⟨r4,0,none⟩)∧σ' 3=.pointer (some ⟨an,0,none⟩)∧σ' 11=.int .i64 (gs.length:Int)∧σ' 12=.int .i64 (k:Int)) ⟨0,Z,(by omega),(by (intro j hj;omega)),Z,Lr,Z,Z,Z,Z⟩ (fun nn _ _ a5 au=>?_);obtain ⟨k,rfl,hk,hs,a6,ag,aj,av,a2,aw⟩:=au;subst a6;refine Sq (Rg (Pl Z (A5 (a:=(k:Int)) (b:=(gs.length:Int)) aw a2 (Nl (Sq (AZ (p:=(k:Int)<(gs.length:Int)) Z (fun ax=>?_) (fun ax=>?_)))))))
 ·refine Sk (Sq (Bk (Sq (Rg (Mv (.int .i64 (k:Int)) Z aw (As (.int .i64 (k:Int)) Z Z (Nl (Sq (Rg (have ak:=ag.keep ae Z;Ld (.agg #[.int .i64 d,.int .i64 m,gsv,msv,csv]) Z aj (AR Fx.ty104 (Bx ak Z)) (Ld (.agg (Ai p)) Z av (AR Fx.ty119 (Bx (ag.keep ai Z) Z)) (Mv (.int .i64 (k:Int)) Z Z (Fa Fx.fld104_0 Z aj (Fa Fx.fld26_0 Z Z (Ld (.int .i64 d) Z Z (Rd.one Fx.ty3 ak Z) (have aa:=af.trans ag;Pl Z (CA Tryz.func95 Fx.call95 Z Z Z Z ((G3 d m gs gsv ms msv cs csv p (k:Int) d (hgs.le aa) (hms.le aa) (hcs.le aa) (hG.le aa) (by omega) (by omega) (by omega) (by omega) (by omega)).mono fun _ _ ay=>?_))))))))))))))))));obtain ⟨rfl,ad⟩:=ay;refine Mv (.tuple #[.int .i64 ((AH ms p (k:Int) d).1),.int .i64 ((AH ms p (k:Int) d).2)]) Z Z (Pl Z (AQ (vs:=#[.int .i64 ((AH ms p (k:Int) d).1),.int .i64 ((AH ms p (k:Int) d).2)]) (v:=.int .i64 ((AH ms p (k:Int) d).1)) Z Z (Pl Z (AQ (vs:=#[.int .i64 ((AH ms p (k:Int) d).1),.int .i64 ((AH ms p (k:Int) d).2)]) (v:=.int .i64 ((AH ms p (k:Int) d).2)) Z Z (As (.int .i64 ((AH ms p (k:Int) d).1)) Z Z (As (.int .i64 ((AH ms p (k:Int) d).2)) Z Z (Nl (Sq (Rg (Mv (.int .i64 ((AH ms p (k:Int) d).2)) Z Z (Pl Z (A5 (a:=(AH ms p (k:Int) d).2) (b:=0) Z Z (Nl (AZ (p:=((AH ms p (k:Int) d).2)<0) Z (fun az=>?_) (fun az=>?_)))))))))))))))
  ·exact Sq (Rg (As (.bool false) Z Z (Nl (Rt (⟨.inr Z,Ac Z (v:=.bool false) Z (⟨(by (symm;congr 1;exact Pz (k:=k) (by omega) ‹_›)),(aa.trans ad)⟩)⟩)))))
  ·exact Sk (Rg (Ad (k:Int) 1 Z aw Z (by omega) (Mv (.int .i64 ((k:Int)+1)) Z Z (Nl (⟨_,by omega,k+1,Z,(by omega),(by exact Hh hs ‹_›),Z,(ag.trans ad),aj,av,a2,Z⟩)))))
 ·refine Xt (Sq (Rg (Fa Fx.fld104_0 Z aj (Fa Fx.fld26_4 Z Z (have al:=ag.keep ae Z;Ld csv Z Z (Rd.one Fx.ty24 al Z) (Pl Z (FE aj av ?_)))))));have ah:=af.trans ag;have a0:∀x ∈ cs,∀h1,GH.Le a5 h1→CJ W (.func (.func 145) #[] #[.pointer (some ⟨r4,0,none⟩),.pointer (some ⟨an,0,none⟩)]) #[.agg #[.int .i64 x.good,.int .i64 x.day,.int .i64 x.low,.int .i64 x.high]] h1 fun v h2=>v=.bool ((fun x=>decide (¬(x.low≤(AH ms p x.good x.day).1∧(AH ms p x.good x.day).1≤x.high))) x)∧h1.Le h2:=by
   intro x hx h1 l1;have hcx:=hcg x hx;have ab:=ah.trans l1;exact Bv Tryz.func145 Fx.call145 Z ((N3 x d m gs gsv ms msv cs csv r4 p an (hgs.le ab) (hms.le ab) (hcs.le ab) (Bx (l1.keep al Z) Z) (Bx (l1.keep (ag.keep ai Z) Z) Z) (hG.le ab) (by omega) (by omega) (by omega) (by omega) (by omega)).mono fun v h2 hp=>⟨hp.1,hp.2⟩)
  refine Pl Z (AX Tryz.func144 Fx.call144 Z Z ((Ic cs csv (.func (.func 145) #[] #[.pointer (some ⟨r4,0,none⟩),.pointer (some ⟨an,0,none⟩)]) (fun x=>decide (¬(x.low≤(AH ms p x.good x.day).1∧(AH ms p x.good x.day).1≤x.high))) (hcs.le ah) a0).mono fun _ _ a1=>?_));obtain ⟨rfl,am⟩:=a1;exact Pl Z (C4 (b:=cs.any (fun x=>decide (¬(x.low≤(AH ms p x.good x.day).1∧(AH ms p x.good x.day).1≤x.high)))) Z (As (.bool (!(cs.any (fun x=>decide (¬(x.low≤(AH ms p x.good x.day).1∧(AH ms p x.good x.day).1≤x.high)))))) Z Z (Nl (Rt (⟨.inr Z,Ac Z (v:=.bool (!(cs.any (fun x=>decide (¬(x.low≤(AH ms p x.good x.day).1∧(AH ms p x.good x.day).1≤x.high)))))) Z (⟨(by (symm;congr 1;exact OY (k:=k) (by omega) hs)),(ah.trans am)⟩)⟩)))))
end Go.Ns
namespace Go.Ns
open Go.Conc Go.Proofs
attribute [local irreducible] Bd DS Tr Ab CJ Bs
theorem PS {W:Wk Tryz.prog} {h:GH} (d:Int) (m:Int) (gs:List Good) (gsv:Value) (ms:List AB) (msv:Value) (cs:List AK) (csv:Value) (f:List Int) (fv:Value) (y:List Int) (yv:Value) (l:List Int) (lv:Value) (hgs:AN h gsv 5 BD gs) (hms:AN h msv 5 A1 ms) (hcs:AN h csv 4 Av cs) (hf:AN h fv 1 eI f) (hy:AN h yv 1 eI y) (hl:AN h lv 1 eI l) (hG:Ct h) (hnm:∀k,(gs.getD k Good.z).name.size≤1000):Ab W 94 #[.agg #[.int .i64 d,.int .i64 m,gsv,msv,csv],fv,yv,lv] h (fun v h'=>v=(.tuple #[.agg (Ai (BH d m gs ms cs f y l)),.int .i64 (A2 d m gs ms cs f y l)]:Value)∧h.Le h'):=by
 have br:=hgs.len;have bs:=hms.len;have bt:=hcs.len;have bu:=hf.len;have bv:=hy.len;have bw:=hl.len;refine AO Tryz.func94 Z (Nb Z) (Sq (Rg (Pl Z (Ap (v:=.agg #[.int .i64 d,.int .i64 m,gsv,msv,csv]) (c:=#[.int .i64 d,.int .i64 m,gsv,msv,csv]) Z Z fun r7 _ _ aa bx _=>Pl Z (Aj Fx.zero119 fun ck cm ah ag bz _=>have al:cm ck=some (true,.cells (Ai AS.zero) 119 (0,0)):=bz;As (.int .i64 0) Z Z (Nl (Sq (Sq (Rg (have aw:=ag.keep bx Z;Ld (.agg #[.int .i64 d,.int .i64 m,gsv,msv,csv]) Z Z (AR Fx.ty26 (Bx aw Z)) (have ai:=aa.trans ag;Pl Z (Am Tryz.func25 Fx.call25 Z ((Cd d m gs gsv ms msv cs csv (hgs.le ai) (hms.le ai) (hcs.le ai) (hG.le ai) (by omega)).mono fun _ _ b0=>?_)))))))))))));obtain ⟨rfl,ab⟩:=b0;refine As (.int .i64 (AM d m gs ms cs)) Z Z (Nl (Sq (Rg (Mv (.int .i64 (AM d m gs ms cs)) Z Z (Pl Z (A4 (a:=AM d m gs ms cs) (b:=0) Z Z (Nl (AZ (p:=¬(AM d m gs ms cs)=0) Z (fun ax=>?_) (fun ax=>?_)))))))))
 ·exact Sq (Rg (Pl Z (Ay (cells:=#[.int .i64 0,.int .i64 0,.int .i64 0,.int .i64 0,.int .i64 0,.int .i64 0,.int .i64 0,.int .i64 0,.int .i64 0,.bool false,.bool false,.bool false,.bool false,.bool false,.bool false]) Fx.pl119 Fx.zero119 (by kernel_rfl) (Mv (.int .i64 (AM d m gs ms cs)) Z Z (Pl Z (AL (v:=.agg #[.int .i64 0,.int .i64 0,.int .i64 0,.int .i64 0,.int .i64 0,.int .i64 0,.int .i64 0,.int .i64 0,.int .i64 0,.bool false,.bool false,.bool false,.bool false,.bool false,.bool false]) (c':=Ai AS.zero) Fx.ty119 Z Z (ab.keep al Z) Z Z (Nb Z) Z fun _ b1 b2=>As (.int .i64 (AM d m gs ms cs)) Z Z (Nl (Rt (⟨.inr Z,Cv Z (v:=.agg (Ai AS.zero)) (v':=.int .i64 (AM d m gs ms cs)) Z (AR Fx.ty119 (Bx b1 Z)) Z (⟨(by exact Fc (NP ‹_›) ‹_›),((ai.trans ab).upd (Ln aa ah) b2)⟩)⟩)))))))))
 ·have hbk:=Fb (Dn ax);have hgl:=hbk.glen;have hml:=hbk.mlen;have hcl:=hbk.clen;have hdy:=hbk.days;have hmo:=hbk.most;have hkind:=hbk.kind;refine Sk (Sq (Sq (Rg (Mv fv Z Z (Fa Fx.fld26_2 Z Z (have ay:=ab.keep aw Z;Ld gsv Z Z (Rd.one Fx.ty22 ay Z) (have am:=ai.trans ab;Pl Z (AY Fx.sl22 (hgs.le am) Z (Pl Z (AX Tryz.func140 Fx.call140 Z Z ((JS f fv (gs.length:Int) (hf.le am) ).mono fun _ _ b3=>?_)))))))))));obtain ⟨rfl,ae⟩:=b3;refine As (.int .i64 (Aw f (gs.length:Int))) Z Z (Nl (Sq (Rg (Mv (.int .i64 (Aw f (gs.length:Int))) Z Z (Pl Z (A4 (a:=Aw f (gs.length:Int)) (b:=0) Z Z (Nl (AZ (p:=¬(Aw f (gs.length:Int))=0) Z (fun az=>?_) (fun az=>?_)))))))))
  ·exact Sq (Rg (Pl Z (Ay (cells:=#[.int .i64 0,.int .i64 0,.int .i64 0,.int .i64 0,.int .i64 0,.int .i64 0,.int .i64 0,.int .i64 0,.int .i64 0,.bool false,.bool false,.bool false,.bool false,.bool false,.bool false]) Fx.pl119 Fx.zero119 (by kernel_rfl) (Mv (.int .i64 (Aw f (gs.length:Int))) Z Z (Pl Z (AL (v:=.agg #[.int .i64 0,.int .i64 0,.int .i64 0,.int .i64 0,.int .i64 0,.int .i64 0,.int .i64 0,.int .i64 0,.int .i64 0,.bool false,.bool false,.bool false,.bool false,.bool false,.bool false]) (c':=Ai AS.zero) Fx.ty119 Z Z (ae.keep (ab.keep al Z) Z) Z Z (Nb Z) Z fun _ b4 b5=>As (.int .i64 (Aw f (gs.length:Int))) Z Z (Nl (Rt (⟨.inr Z,Cv Z (v:=.agg (Ai AS.zero)) (v':=.int .i64 (Aw f (gs.length:Int))) Z (AR Fx.ty119 (Bx b4 Z)) Z (⟨(by exact Fc (NQ ‹_› ‹_›) ‹_›),((am.trans ae).upd (Ln aa ah) b5)⟩)⟩)))))))))
  ·obtain ⟨_,hnb51_⟩:=Ez (Dn az);refine Sk (Sq (Sq (Rg (Mv yv Z Z (Fa Fx.fld26_3 Z Z (have a0:=ae.keep ay Z;Ld msv Z Z (Rd.one Fx.ty23 a0 Z) (have aj:=am.trans ae;Pl Z (AY Fx.sl23 (hms.le aj) Z (Pl Z (AX Tryz.func140 Fx.call140 Z Z ((JS y yv (ms.length:Int) (hy.le aj) ).mono fun _ cn b6=>?_)))))))))));obtain ⟨rfl,ac⟩:=b6;refine As (.int .i64 (Aw y (ms.length:Int))) Z Z (Nl (Sq (Rg (Mv (.int .i64 (Aw y (ms.length:Int))) Z Z (Pl Z (A4 (a:=Aw y (ms.length:Int)) (b:=0) Z Z (Nl (AZ (p:=¬(Aw y (ms.length:Int))=0) Z (fun a1=>?_) (fun a1=>?_)))))))))
   ·exact Sq (Rg (Pl Z (Ay (cells:=#[.int .i64 0,.int .i64 0,.int .i64 0,.int .i64 0,.int .i64 0,.int .i64 0,.int .i64 0,.int .i64 0,.int .i64 0,.bool false,.bool false,.bool false,.bool false,.bool false,.bool false]) Fx.pl119 Fx.zero119 (by kernel_rfl) (Mv (.int .i64 (Aw y (ms.length:Int))) Z Z (Pl Z (AL (v:=.agg #[.int .i64 0,.int .i64 0,.int .i64 0,.int .i64 0,.int .i64 0,.int .i64 0,.int .i64 0,.int .i64 0,.int .i64 0,.bool false,.bool false,.bool false,.bool false,.bool false,.bool false]) (c':=Ai AS.zero) Fx.ty119 Z Z (ac.keep (ae.keep (ab.keep al Z) Z) Z) Z Z (Nb Z) Z fun _ b7 b8=>As (.int .i64 (Aw y (ms.length:Int))) Z Z (Nl (Rt (⟨.inr Z,Cv Z (v:=.agg (Ai AS.zero)) (v':=.int .i64 (Aw y (ms.length:Int))) Z (AR Fx.ty119 (Bx b7 Z)) Z (⟨(by exact Fc (NR ‹_› ‹_› ‹_›) ‹_›),((aj.trans ac).upd (Ln aa ah) b8)⟩)⟩)))))))))
   ·obtain ⟨_,hnb66_⟩:=Ez (Dn a1);refine Sk (Sq (Rg (have ap:=(ac.keep (ae.keep (ab.keep al Z) Z) Z);Pl Z (Aj Fx.zero119 fun b9 co ak an ca _=>have cb:co b9=some (true,.cells (Ai AS.zero) 119 (0,0)):=ca;Nl (Sq (Rg (Fa Fx.fld119_0 Z Z (Pl Z (Jv Fx.asz115 Z (Mv fv Z Z (have a2:=(aj.trans ac).trans an;Pl Z (OR (enc:=eI) (ys:=f) (c':=Ai (AS.zero.setFirsts f)) Fx.esz27 Z Z cb (Nb Z) (hf.le a2) (by omega) (by intro y hy;rfl) (by intro y hy;rfl) (KE (by omega)) fun _ cc a3=>Nl (Sq (Rg (Fa Fx.fld119_1 Z Z (Pl Z (Jv Fx.asz116 Z (Mv yv Z Z (have a4:=a2.upd (Ln ((((aa.trans ag).trans ab).trans ae).trans ac) ak) a3;Pl Z (OR (enc:=eI) (ys:=y) (c':=Ai ((AS.zero.setFirsts f).setManys y)) Fx.esz27 Z Z cc (Nb Z) (hy.le a4) (by omega) (by intro y hy;rfl) (by intro y hy;rfl) (Kz (by omega)) fun _ cd a5=>?_))))))))))))))))))));refine Nl (Sq (Rg (As (.int .i64 (-1)) Z Z (Nl (Sq (Sq (Rg (Mv lv Z Z (have ce:=a4.upd (Ln ((((aa.trans ag).trans ab).trans ae).trans ac) ak) a5;Pl Z (AY Fx.sl27 (hl.le ce) Z (Mv (.int .i64 0) Z Z (Nl (Bk (have cf:=(an.upd (Ln Lr ak) a3).upd (Ln Lr ak) a5;Ao (fun nn σ' ds' h'=>∃(k:Nat),nn=l.length-k∧(k≤l.length)∧(∀j,j<k→Ix ms l j=0)∧ds'=[]∧GH.Le cn h'∧σ' 4=.pointer (some ⟨r7,0,none⟩)∧σ' 8=.pointer (some ⟨ck,0,none⟩)∧σ' 13=.pointer (some ⟨b9,0,none⟩)∧σ' 49=lv∧σ' 50=.int .i64 (l.length:Int)∧σ' 14=.int .i64 (F3 l k)∧σ' 51=.int .i64 (k:Int)∧h' b9=some (true,.cells (Ai (Dv ((AS.zero.setFirsts f).setManys y) l k)) 119 (0,0))) ⟨0,Z,(by omega),(by (intro j hj;omega)),Z,cf,Z,Z,Z,Z,Z,Z,Z,(by have e:(Ai (Dv ((AS.zero.setFirsts f).setManys y) l 0):Array Value)=Ai ((AS.zero.setFirsts f).setManys y):=(by rfl);rw [e];exact cd)⟩ (fun nn _ _ _ cg=>?_)))))))))))))));obtain ⟨k,rfl,hk,hs,cp,aq,cl,ar,ch,a6,a7,ci,au,a8⟩:=cg;subst cp;refine Sq (Rg (Pl Z (A5 (a:=(k:Int)) (b:=(l.length:Int)) au a7 (Nl (Sq (AZ (p:=(k:Int)<(l.length:Int)) Z (fun a9=>?_) (fun a9=>?_)))))))
    ·refine Sk (Sq (Bk (Sq (Rg ?_))));have ba:(0:Int)≤(k:Int):=by omega
     have bb:(k:Int)<((l.length:Nat):Int):=by omega
     refine Pl Z (Az Fx.esz27 hl a6 au ba bb fun cj av bc=>have bd:Aa _ cj av 1 (eI (l.getD k 0)):=Aa.getD 0 bc;have af:=(aj.trans ac).trans aq;Ld (.int .i64 (l.getD k 0)) Z Z (B3 Fx.ty3 (bd.le af) Z) (As (.int .i64 (l.getD k 0)) Z Z (Nl (Sq (Bk (Sq (Rg (Ld (.agg #[.int .i64 d,.int .i64 m,gsv,msv,csv]) Z cl (AR Fx.ty26 (Bx (aq.keep (ac.keep a0 Z) Z) Z)) (Pl Z (Ay (cells:=#[.int .i64 d,.int .i64 m,gsv,msv,csv]) Fx.pl104 Fx.zero104 (by kernel_rfl) (Mv (.int .i64 (l.getD k 0)) Z Z (Pl Z (AX Tryz.func110 Fx.call110 Z Z ((F9 d m gs gsv ms msv cs csv (l.getD k 0) (hgs.le af) (hms.le af) (hcs.le af) ).mono fun _ _ be=>?_))))))))))))));obtain ⟨rfl,ad⟩:=be;refine Pl Z (BO (p:=(0≤(l.getD k 0)∧(l.getD k 0)≤(ms.length:Int)-1)∧(ms.getD ((l.getD k 0)).toNat AB.z).kind=0) Z (As (.bool (decide (¬((0≤(l.getD k 0)∧(l.getD k 0)≤(ms.length:Int)-1)∧(ms.getD ((l.getD k 0)).toNat AB.z).kind=0)))) Z Z (Nl (AZ (p:=¬((0≤(l.getD k 0)∧(l.getD k 0)≤(ms.length:Int)-1)∧(ms.getD ((l.getD k 0)).toNat AB.z).kind=0)) Z (fun ao=>?_) (fun ao=>?_)))))
     ·exact Sq (Rg (Pl Z (Ay (cells:=#[.int .i64 0,.int .i64 0,.int .i64 0,.int .i64 0,.int .i64 0,.int .i64 0,.int .i64 0,.int .i64 0,.int .i64 0,.bool false,.bool false,.bool false,.bool false,.bool false,.bool false]) Fx.pl119 Fx.zero119 (by kernel_rfl) (Pl Z (AL (v:=.agg #[.int .i64 0,.int .i64 0,.int .i64 0,.int .i64 0,.int .i64 0,.int .i64 0,.int .i64 0,.int .i64 0,.int .i64 0,.bool false,.bool false,.bool false,.bool false,.bool false,.bool false]) (c':=Ai AS.zero) Fx.ty119 ar Z (ad.keep (aq.keep ap Z) Z) Z Z (Nb Z) Z fun _ bf bg=>As (.int .i64 6) Z Z (Nl (Rt (⟨.inr Z,Cv Z (v:=.agg (Ai AS.zero)) (v':=.int .i64 6) ar (AR Fx.ty119 (Bx bf Z)) Z (⟨(by exact Fc (Gp ‹_› ‹_› ‹_› (BP (k:=k) hs (by omega) (UI ‹_›) (by decide))) (by decide)),((af.trans ad).upd (Ln aa ah) bg)⟩)⟩))))))))
     ·have hc122_:=Dn ao;refine Sq (Rg (Mv (.int .i64 (l.getD k 0)) Z Z (Mv (.int .i64 (F3 l k)) Z ci (Pl Z (DC (a:=l.getD k 0) (b:=F3 l k) Z Z (As (.bool (decide ((l.getD k 0)≤(F3 l k)))) Z Z (Nl (AZ (p:=(l.getD k 0)≤(F3 l k)) Z (fun bh=>?_) (fun bh=>?_)))))))))
      ·exact Sq (Rg (Pl Z (Ay (cells:=#[.int .i64 0,.int .i64 0,.int .i64 0,.int .i64 0,.int .i64 0,.int .i64 0,.int .i64 0,.int .i64 0,.int .i64 0,.bool false,.bool false,.bool false,.bool false,.bool false,.bool false]) Fx.pl119 Fx.zero119 (by kernel_rfl) (Pl Z (AL (v:=.agg #[.int .i64 0,.int .i64 0,.int .i64 0,.int .i64 0,.int .i64 0,.int .i64 0,.int .i64 0,.int .i64 0,.int .i64 0,.bool false,.bool false,.bool false,.bool false,.bool false,.bool false]) (c':=Ai AS.zero) Fx.ty119 ar Z (ad.keep (aq.keep ap Z) Z) Z Z (Nb Z) Z fun _ bi bj=>As (.int .i64 7) Z Z (Nl (Rt (⟨.inr Z,Cv Z (v:=.agg (Ai AS.zero)) (v':=.int .i64 7) ar (AR Fx.ty119 (Bx bi Z)) Z (⟨(by exact Fc (Gp ‹_› ‹_› ‹_› (BP (k:=k) hs (by omega) (UJ ‹_› ‹_›) (by decide))) (by decide)),((af.trans ad).upd (Ln aa ah) bj)⟩)⟩))))))))
      ·refine Sk (Rg (Mv (.int .i64 (l.getD k 0)) Z Z (Mv (.int .i64 (l.getD k 0)) Z Z (Fa Fx.fld119_2 Z ch ?_))));have bk:(0:Int)≤l.getD k 0:=by omega
       have bl:l.getD k 0<((6:Nat):Int):=by omega
       exact Pl Z (Cb Fx.asz117 Z Z bk bl (Pl Z (AL (v:=.bool true) (c':=Ai ((Dv ((AS.zero.setFirsts f).setManys y) l k).setLie ((l.getD k 0).toNat) true)) Fx.ty4 Z Z (ad.keep a8 Z) Z Z (by show _≤15;omega) (Gm (i:=(l.getD k 0).toNat) (by omega)) fun _ bm bn=>As (.int .i64 (l.getD k 0)) Z Z (Nl (Rg (Ad (k:Int) 1 Z au Z (by omega) (Mv (.int .i64 ((k:Int)+1)) Z Z (Nl (⟨_,by omega,k+1,Z,(by omega),(by exact Cx hs (UK ‹_› ‹_›)),Z,((aq.trans ad).upd (Ln Lr ak) bn),cl,ar,ch,a6,a7,Z,Z,(by have e:(Ai (Dv ((AS.zero.setFirsts f).setManys y) l (k+1)):Array Value)=Ai ((Dv ((AS.zero.setFirsts f).setManys y) l k).setLie ((l.getD k 0).toNat) true):=(by rw [Od (by omega)]);rw [e];exact bm)⟩)))))))))
    ·exact Xt (Sq (Rg (Ld (.agg (Ai (Dv ((AS.zero.setFirsts f).setManys y) l k))) Z ch (AR Fx.ty119 (Bx a8 Z)) (Pl Z (AL (v:=.agg (Ai (Dv ((AS.zero.setFirsts f).setManys y) l k))) (c':=Ai (Dv ((AS.zero.setFirsts f).setManys y) l k)) Fx.ty119 ar Z (aq.keep ap Z) (Gq _) (Gr _) (Hi _) (Hj _ _) fun _ bo bp=>As (.int .i64 0) Z Z (Nl (Rt (have bq:=((aj.trans ac).trans aq).upd (Ln aa ah) bp;⟨.inr Z,Cv Z (v:=.agg (Ai (Dv ((AS.zero.setFirsts f).setManys y) l k))) (v':=.int .i64 0) ar (AR Fx.ty119 (Bx bo Z)) Z (⟨(by exact Oe (Gp ‹_› ‹_› ‹_› (CB (k:=k) hs (by omega))) ‹_› hk),bq⟩)⟩))))))))
theorem SN {W:Wk Tryz.prog} {h:GH} (d:Int) (m:Int) (gs:List Good) (gsv:Value) (ms:List AB) (msv:Value) (cs:List AK) (csv:Value) (f:List Int) (fv:Value) (y:List Int) (yv:Value) (l:List Int) (lv:Value) (hgs:AN h gsv 5 BD gs) (hms:AN h msv 5 A1 ms) (hcs:AN h csv 4 Av cs) (hf:AN h fv 1 eI f) (hy:AN h yv 1 eI y) (hl:AN h lv 1 eI l) (hG:Ct h) (hnm:∀k,(gs.getD k Good.z).name.size≤1000):Ab W 23 #[.agg #[.int .i64 d,.int .i64 m,gsv,msv,csv],fv,yv,lv] h (fun v h'=>∃(w1:Value) (w2:Value),v=(.tuple #[w1,w2,.int .i64 (A2 d m gs ms cs f y l)]:Value)∧AN h' w1 1 eI (Fd d m gs ms cs f y l)∧AN h' w2 1 eI (Gt d m gs ms cs f y l)∧h.Le h'):=by
 have ba:=hgs.len;have bb:=hms.len;have bc:=hcs.len;have bd:=hf.len;have be:=hy.len;have bf:=hl.len;refine AO Tryz.func23 Z (Nb Z) (Sq (Rg (Pl Z (Ap (v:=.agg #[.int .i64 d,.int .i64 m,gsv,msv,csv]) (c:=#[.int .i64 d,.int .i64 m,gsv,msv,csv]) Z Z fun r7 _ _ aa ar _=>As (.slice none 0 0) Z Z (As (.slice none 0 0) Z Z (As (.int .i64 0) Z Z (Nl (Sq (Rg (Ld (.agg #[.int .i64 d,.int .i64 m,gsv,msv,csv]) Z Z (AR Fx.ty26 (Bx ar Z)) (Mv fv Z Z (Mv yv Z Z (Mv lv Z Z (Pl Z (CA Tryz.func94 Fx.call94 Z Z Z Z ((PS d m gs gsv ms msv cs csv f fv y yv l lv (hgs.le aa) (hms.le aa) (hcs.le aa) (hf.le aa) (hy.le aa) (hl.le aa) (hG.le aa) (by omega)).mono fun _ _ bg=>?_))))))))))))))));obtain ⟨rfl,ab⟩:=bg;refine Mv (.tuple #[.agg (Ai (BH d m gs ms cs f y l)),.int .i64 (A2 d m gs ms cs f y l)]) Z Z (Pl Z (AQ (vs:=#[.agg (Ai (BH d m gs ms cs f y l)),.int .i64 (A2 d m gs ms cs f y l)]) (v:=.agg (Ai (BH d m gs ms cs f y l))) Z Z (Pl Z (AQ (vs:=#[.agg (Ai (BH d m gs ms cs f y l)),.int .i64 (A2 d m gs ms cs f y l)]) (v:=.int .i64 (A2 d m gs ms cs f y l)) Z Z (have au:=ab.keep ar Z;Pl Z (Aj Fx.zero119 fun bh b4 am ad bi _=>have bj:b4 bh=some (true,.cells (Ai AS.zero) 119 (0,0)):=bi;have bk:r7≠bh:=Cg au am;Pl Z (AL (v:=.agg (Ai (BH d m gs ms cs f y l))) (c':=Ai (BH d m gs ms cs f y l)) Fx.ty119 Z Z bj (Gq _) (Gr _) (Hi _) (Hj _ _) fun av bl an=>As (.int .i64 (A2 d m gs ms cs f y l)) Z Z (Nl (Sq (Sq (Rg (Mv (.int .i64 (A2 d m gs ms cs f y l)) Z Z (Pl Z (A4 (a:=A2 d m gs ms cs f y l) (b:=0) Z Z (Nl (AZ (p:=¬(A2 d m gs ms cs f y l)=0) Z (fun aw=>?_) (fun aw=>?_)))))))))))))))))
 ·exact Sq (Rg (Mv (.int .i64 (A2 d m gs ms cs f y l)) Z Z (As (.slice none 0 0) Z Z (As (.slice none 0 0) Z Z (As (.int .i64 (A2 d m gs ms cs f y l)) Z Z (Nl (Rt (have bm:=((aa.trans ab).trans ad).upd (Ln (aa.trans ab) am) an;⟨.inr Z,MU Z (v:=.slice none 0 0) (v':=.slice none 0 0) (v2:=.int .i64 (A2 d m gs ms cs f y l)) Z Z Z (⟨.slice none 0 0,.slice none 0 0,(by rfl),(by have e:Fd d m gs ms cs f y l=[]:=(by exact NS ‹_›);rw [e];exact AN.nil _ _ _),(by have e:Gt d m gs ms cs f y l=[]:=(by exact Of ‹_›);rw [e];exact AN.nil _ _ _),bm⟩)⟩))))))))
 ·obtain ⟨hbk,hpo⟩:=Rm (Dn aw);have hgl:=hbk.glen;have hml:=hbk.mlen;have hdy:=hbk.days;have hkind:=hbk.kind;refine Sk (Sq (Sq (Rg (Fa Fx.fld26_2 Z Z (have ax:=(an _ bk).trans (ad.keep au Z);Ld gsv Z Z (Rd.one Fx.ty22 ax Z) (have ao:=((aa.trans ab).trans ad).upd (Ln (aa.trans ab) am) an;Pl Z (AY Fx.sl22 (hgs.le ao) Z (Mv (.int .i64 0) Z Z (Nl (Bk (Ao (fun nn σ' ds' h'=>∃(k:Nat) (w8:Value) (w9:Value),nn=gs.length-k∧(k≤gs.length)∧ds'=[]∧GH.Le av h'∧σ' 4=.pointer (some ⟨r7,0,none⟩)∧σ' 10=.int .i64 0∧σ' 11=.pointer (some ⟨bh,0,none⟩)∧σ' 29=.int .i64 (gs.length:Int)∧σ' 30=.int .i64 (k:Int)∧σ' 8=w8∧σ' 9=w9∧AU av h' w8 3 1 eI ((List.range k).map (fun (i:Nat)=>(AH ms (BH d m gs ms cs f y l) (i:Int) d).1))∧AU av h' w9 3 1 eI ((List.range k).map (fun (i:Nat)=>(AH ms (BH d m gs ms cs f y l) (i:Int) d).2))∧Apart w9 w8) ⟨0,.slice none 0 0,.slice none 0 0,Z,(by omega),Z,Lr,Z,Z,Z,Z,Z,Z,Z,(by have e:(List.range 0).map (fun (i:Nat)=>(AH ms (BH d m gs ms cs f y l) (i:Int) d).1)=[]:=(by rfl);rw [e];exact AU.nil _ _ _ _ _),(by have e:(List.range 0).map (fun (i:Nat)=>(AH ms (BH d m gs ms cs f y l) (i:Int) d).2)=[]:=(by rfl);rw [e];exact AU.nil _ _ _ _ _),Apart.nil⟩ (fun nn _ _ _ bn=>?_))))))))))));obtain ⟨k,w8,w9,rfl,hk,b5,ay,bo,b6,bw,bx,bp,bz,b0,b1,b2,b3⟩:=bn;subst b5;refine Sq (Rg (Pl Z (A5 (a:=(k:Int)) (b:=(gs.length:Int)) bp bx (Nl (Sq (AZ (p:=(k:Int)<(gs.length:Int)) Z (fun bq=>?_) (fun bq=>?_)))))))
  ·refine Sk (Sq (Bk (Sq (Rg (Mv (.int .i64 (k:Int)) Z bp (As (.int .i64 (k:Int)) Z Z (Nl (Sq (Rg (have az:=ay.keep ax Z;Ld (.agg #[.int .i64 d,.int .i64 m,gsv,msv,csv]) Z bo (AR Fx.ty26 (Bx az Z)) (Pl Z (Ay (cells:=#[.int .i64 d,.int .i64 m,gsv,msv,csv]) Fx.pl104 Fx.zero104 (by kernel_rfl) (Ld (.agg (Ai (BH d m gs ms cs f y l))) Z bw (AR Fx.ty119 (Bx (ay.keep bl Z) Z)) (Mv (.int .i64 (k:Int)) Z Z (Fa Fx.fld26_0 Z bo (Ld (.int .i64 d) Z Z (Rd.one Fx.ty3 az Z) (have ah:=ao.trans ay;Pl Z (CA Tryz.func95 Fx.call95 Z Z Z Z ((G3 d m gs gsv ms msv cs csv (BH d m gs ms cs f y l) (k:Int) d (hgs.le ah) (hms.le ah) (hcs.le ah) (hG.le ah) (by omega) (by omega) (by omega) (by omega) (by omega)).mono fun _ _ br=>?_)))))))))))))))))));obtain ⟨rfl,ae⟩:=br;refine Mv (.tuple #[.int .i64 ((AH ms (BH d m gs ms cs f y l) (k:Int) d).1),.int .i64 ((AH ms (BH d m gs ms cs f y l) (k:Int) d).2)]) Z Z (Pl Z (AQ (vs:=#[.int .i64 ((AH ms (BH d m gs ms cs f y l) (k:Int) d).1),.int .i64 ((AH ms (BH d m gs ms cs f y l) (k:Int) d).2)]) (v:=.int .i64 ((AH ms (BH d m gs ms cs f y l) (k:Int) d).1)) Z Z (Pl Z (AQ (vs:=#[.int .i64 ((AH ms (BH d m gs ms cs f y l) (k:Int) d).1),.int .i64 ((AH ms (BH d m gs ms cs f y l) (k:Int) d).2)]) (v:=.int .i64 ((AH ms (BH d m gs ms cs f y l) (k:Int) d).2)) Z Z (As (.int .i64 ((AH ms (BH d m gs ms cs f y l) (k:Int) d).1)) Z Z (As (.int .i64 ((AH ms (BH d m gs ms cs f y l) (k:Int) d).2)) Z Z (Nl (Rg (Mv w8 Z bz (Mv (.int .i64 ((AH ms (BH d m gs ms cs f y l) (k:Int) d).1)) Z Z (Pl Z (Af (cells:=#[.int .i64 ((AH ms (BH d m gs ms cs f y l) (k:Int) d).1)]) Fx.sel27 (by decide) (by decide) (by kernel_rfl) fun _ _ bs af bt _=>have bu:=AU.built (enc:=eI) (xs:=[(AH ms (BH d m gs ms cs f y l) (k:Int) d).1]) (n:=1) bs bt Z Z (by intro x hx;rfl) Z;have a0:=(b1.le ae).le af;have a1:=(ay.trans ae).trans af;have a2:=(b2.le ae).le af;Pl Z (Bz (h0:=av) Fx.app27_27 Z Z a0 (bu.sl) (fun _ q=>Ln a1 q) (by simp <;> omega) (by intro y hy;rfl) fun a9 _ bv ap=>have ai:Apart a9 w9:=Apart.grown ap a2 (Apart.symm b3);Mv w9 Z b0 (Mv (.int .i64 ((AH ms (BH d m gs ms cs f y l) (k:Int) d).2)) Z Z ?_))))))))))))));exact Pl Z (Af (cells:=#[.int .i64 ((AH ms (BH d m gs ms cs f y l) (k:Int) d).2)]) Fx.sel27 (by decide) (by decide) (by kernel_rfl) fun _ _ a3 ac a4 _=>have a5:=AU.built (enc:=eI) (xs:=[(AH ms (BH d m gs ms cs f y l) (k:Int) d).2]) (n:=1) a3 a4 Z Z (by intro x hx;rfl) Z;have aj:=((AU.grown ap a2 (Apart.symm b3)).le ac);have ak:=(GH.Le.grown ap a1 fun b e=>Ln Lr (a0.fresh b e)).trans ac;have al:=bv.le ac;Pl Z (Bz (h0:=av) Fx.app27_27 Z Z aj (a5.sl) (fun _ q=>Ln ak q) (by simp <;> omega) (by intro y hy;rfl) fun aq _ a6 ag=>have a7:Apart aq a9:=Apart.grown ag al (Apart.symm ai);As a9 Z Z (As aq Z Z (Nl (Rg (Ad (k:Int) 1 Z bp Z (by omega) (Mv (.int .i64 ((k:Int)+1)) Z Z (Nl (have a8:=GH.Le.grown ag ak fun b e=>Ln Lr (aj.fresh b e);⟨_,by omega,k+1,a9,aq,Z,(by omega),Z,a8,bo,b6,bw,bx,Z,Z,Z,(by have e:(List.range (k+1)).map (fun (i:Nat)=>(AH ms (BH d m gs ms cs f y l) (i:Int) d).1)=((List.range k).map (fun (i:Nat)=>(AH ms (BH d m gs ms cs f y l) (i:Int) d).1))++[(AH ms (BH d m gs ms cs f y l) (k:Int) d).1]:=(by exact EW _ _);rw [e];exact (AU.grown ag al (Apart.symm ai))),(by have e:(List.range (k+1)).map (fun (i:Nat)=>(AH ms (BH d m gs ms cs f y l) (i:Int) d).2)=((List.range k).map (fun (i:Nat)=>(AH ms (BH d m gs ms cs f y l) (i:Int) d).2))++[(AH ms (BH d m gs ms cs f y l) (k:Int) d).2]:=(by exact EW _ _);rw [e];exact a6),a7⟩)))))))))
  ·exact Xt (Sq (Rg (Mv w8 Z bz (Mv w9 Z b0 (As w8 Z Z (As w9 Z Z (As (.int .i64 0) Z Z (Nl (Rt (⟨.inr Z,MU Z (v:=w8) (v':=w9) (v2:=.int .i64 0) Z Z Z (⟨w8,w9,(by (rw [Dn (by assumption:¬¬A2 d m gs ms cs f y l=0)])),(by have e:Fd d m gs ms cs f y l=(List.range k).map (fun (i:Nat)=>(AH ms (BH d m gs ms cs f y l) (i:Int) d).1):=(by exact L6 ‹_› hk ‹_›);rw [e];exact b1.sl),(by have e:Gt d m gs ms cs f y l=(List.range k).map (fun (i:Nat)=>(AH ms (BH d m gs ms cs f y l) (i:Int) d).2):=(by exact NT ‹_› hk ‹_›);rw [e];exact b2.sl),(ao.trans ay)⟩)⟩))))))))))
end Go.Ns
namespace Go.Ns
open Go.Conc Go.Proofs
attribute [local irreducible] Bd DS Tr Ab CJ Bs
theorem Qm {W:Wk Tryz.prog} {h:GH} {hB:GH} {I:List AS→(Nat→Prop)→GH→Prop} {Sp:GH→Prop} {all:List AS} {d m:Int} {gs:List Good} {gsv:Value} {ms:List AB} {msv:Value} {cs:List AK} {csv:Value} {rb rmo:Nat} {mo:Int} (yv:Value) (hP:Gn hB I) (hY:IO W hB yv Ai I Sp all) (hgs:AN hB gsv 5 BD gs) (hms:AN hB msv 5 A1 ms) (hcs:AN hB csv 4 Av cs) (hG:Ct hB) (hrb:Aa hB rb 0 5 #[.int .i64 d,.int .i64 m,gsv,msv,csv]) (hrmo:Aa hB rmo 0 1 #[.int .i64 mo]) (hbk:BG d m gs ms cs) (hmo:0≤mo∧mo≤99) (f:Nat) {ry rmv:Nat} (ih:∀f',f'<f→∀{h:GH} {X0:Nat→Prop} {pre:List AS} (p:AS) (i:Nat) (iv:Int) (hi:iv=(i:Int)) (hBh:hB.Le h) (hI:I pre X0 h) (hry:h ry=some (true,.cells #[yv] 138 (0,0))) (nry:¬X0 ry) (hrmv:h rmv=some (true,.cells #[.func (.func 149) #[] #[.pointer (some ⟨rb,0,none⟩),.pointer (some ⟨ry,0,none⟩),.pointer (some ⟨rmv,0,none⟩),.pointer (some ⟨rmo,0,none⟩)]] 181 (0,0))) (nrmv:¬X0 rmv) (hfi:i+f'=ms.length) (hp:Be p) (hw:CP all pre (Aq (A8 d gs.length ms cs) ms mo f' i p)),Ab W 149 #[.agg (Ai p),.int .i64 iv,.pointer (some ⟨rb,0,none⟩),.pointer (some ⟨ry,0,none⟩),.pointer (some ⟨rmv,0,none⟩),.pointer (some ⟨rmo,0,none⟩)] h (Fu hB I Sp pre X0 h (Aq (A8 d gs.length ms cs) ms mo f' i p))) {X0:Nat→Prop} {pre:List AS} (p:AS) (i:Nat) (iv:Int) (hi:iv=(i:Int)) (hBh:hB.Le h) (hI:I pre X0 h) (hry:h ry=some (true,.cells #[yv] 138 (0,0))) (nry:¬X0 ry) (hrmv:h rmv=some (true,.cells #[.func (.func 149) #[] #[.pointer (some ⟨rb,0,none⟩),.pointer (some ⟨ry,0,none⟩),.pointer (some ⟨rmv,0,none⟩),.pointer (some ⟨rmo,0,none⟩)]] 181 (0,0))) (nrmv:¬X0 rmv) (hfi:i+f=ms.length) (hp:Be p) (hw:CP all pre (Aq (A8 d gs.length ms cs) ms mo f i p)):Ab W 149 #[.agg (Ai p),.int .i64 iv,.pointer (some ⟨rb,0,none⟩),.pointer (some ⟨ry,0,none⟩),.pointer (some ⟨rmv,0,none⟩),.pointer (some ⟨rmo,0,none⟩)] h (fun v h'=>Fu hB I Sp pre X0 h (Aq (A8 d gs.length ms cs) ms mo f i p) v h'):=by
 subst hi;have db:=Fs.start hI hBh;have hgl:=hbk.glen;have hml:=hbk.mlen;have hdy:=hbk.days;have hkind:=hbk.kind;have hcg:=hbk.cgood;have hfw:=hbk.few i;have hgw:=hbk.gfew i;have ci:=hgs.len;have cj:=hms.len;have ck:=hcs.len;refine AO Tryz.func149 Z (Nb Z) (Sq (Rg (Pl Z (Ap (v:=.agg (Ai p)) (c:=Ai p) Z Z fun r4 _ a0 a6 cl _=>have a7:ry≠r4:=Cg hry a0;have a8:rmv≠r4:=Cg hrmv a0;As (.bool false) Z Z (Nl (Sq (Sq (Rg (Mv (.int .i64 (i:Int)) Z Z (Fa Fx.fld104_0 Z Z (Fa Fx.fld26_3 Z Z (have ai:=Fs.le hP db a6;have bi:=hrb.le ai.base;Ld msv Z Z (Bq (o:=3) Fx.ty23 bi Z) (have bo:=hms.le ai.base;Pl Z (AY Fx.sl23 bo Z (Pl Z (Bg (a:=(i:Int)) (b:=(ms.length:Int)) Z Z (Nl ?_)))))))))))))))));refine AZ (p:=(i:Int)=(ms.length:Int)) Z (fun cm=>?_) (fun cm=>?_)
 ·obtain rfl:f=0:=(by omega);refine Sq (Rg (Ld (.agg #[.int .i64 d,.int .i64 m,gsv,msv,csv]) Z Z (AR Fx.ty104 bi) (Ld (.agg (Ai p)) Z Z (AR Fx.ty119 (Bx cl Z)) (Pl Z (AX Tryz.func102 Fx.call102 Z Z ((PR d m gs gsv ms msv cs csv p (hgs.le ai.base) bo (hcs.le ai.base) (hG.le ai.base) (by omega) (by omega) (by omega) (by omega) (by omega)).mono fun _ _ cn=>?_))))));obtain ⟨rfl,aq⟩:=cn;refine Pl Z (C4 (b:=A8 d gs.length ms cs p) Z (Mv (.bool (!(A8 d gs.length ms cs p))) Z Z (FP (b:= !(A8 d gs.length ms cs p)) ?_ ?_)))
  ·intro aj;exact Gs 4 20 (BC Z aj) Z (Gs 4 20 (BC Z aj) Z (Gs 4 20 (BC Z aj) Z (Pk true (.bool true) Z (BC Z aj) Z (As (.bool true) Z Z (Nl (Rt (have co:=Fs.le hP ai aq;⟨.inr Z,Ac Z (v:=.bool true) Z (Fs.done (by have e:pre++(Aq (A8 d gs.length ms cs) ms mo 0 i p)=pre:=(by simp only [Aq];rw [if_neg (by simp_all)];exact List.append_nil _);rw [e];exact co))⟩)))))))
  ·intro aj;refine Gg 4 20 (BC Z aj) Z (AF (v:=yv) Z (Rd.one Fx.ty138 (aq.keep (a6.keep hry Z) Z) Z) (Gg 4 20 (BC Z aj) Z (AF (v:=.agg (Ai p)) Z (AR Fx.ty119 (Bx (aq.keep cl Z) Z)) ?_)));have a9:=Fs.le hP ai aq;obtain ⟨_,bj⟩:=CP.one (p:=p) (by have e:Aq (A8 d gs.length ms cs) ms mo 0 i p=[p]:=(by simp only [Aq];rw [if_pos (by simp_all)]);rw [e] at hw;exact hw);refine Gg 4 20 (BC Z aj) Z (Fz Z Z ((hY.call _ _ _ _ _ bj a9.inv a9.base).mono fun _ _ bp=>?_));have bq:=Fs.pass a9 bp;obtain ⟨bk,_,rfl,_⟩:=a9.call bp;exact Pk false (.bool bk) Z (BC Z aj) Z (As (.bool bk) Z Z (Nl (Rt (⟨.inr Z,Ac Z (v:=.bool bk) Z ((by have e:Aq (A8 d gs.length ms cs) ms mo 0 i p=[p]:=(by simp only [Aq];rw [if_pos (by simp_all)]);rw [e];exact bq))⟩))))
 ·obtain ⟨f',rfl⟩:∃f',f=f'+1:=⟨f-1,by omega⟩;refine Sk (Sq (Sq (Rg (Fa Fx.fld104_0 Z Z (Fa Fx.fld26_3 Z Z (Ld msv Z Z (Bq (o:=3) Fx.ty23 bi Z) (Mv (.int .i64 (i:Int)) Z Z ?_)))))));have cp:(0:Int)≤(i:Int):=by omega
  have cq:(i:Int)<((ms.length:Nat):Int):=by omega
  refine Pl Z (Az Fx.esz23 hms Z Z cp cq fun dc br cr=>have ct:Aa _ dc br 5 (A1 (ms.getD i AB.z)):=Aa.getD AB.z cr;Fa Fx.fld75_3 Z Z (Fa Fx.fld31_0 Z Z (Ld (.int .i64 ((ms.getD i AB.z).low)) Z Z (Bq (o:=3) Fx.ty3 (ct.le ai.base) Z) (As (.int .i64 ((ms.getD i AB.z).low)) Z Z (Nl (Bk (Ao (fun nn σ' ds' h'=>∃(k:Nat) (pc:AS) (X:Nat→Prop),nn=((ms.getD i AB.z).high-(ms.getD i AB.z).low+1-(k:Int)).toNat∧((k:Int)≤(ms.getD i AB.z).high-(ms.getD i AB.z).low+1)∧(Be pc)∧(∀n b,pc.setMove i n b=p.setMove i n b)∧ds'=[]∧Fs hB I X0 h (pre++(Bl (ms.getD i AB.z).low k).flatMap (Bb (A8 d gs.length ms cs) ms mo f' i p)) X h'∧σ' 1=.int .i64 (i:Int)∧σ' 2=.pointer (some ⟨rb,0,none⟩)∧σ' 4=.pointer (some ⟨rmv,0,none⟩)∧σ' 5=.pointer (some ⟨rmo,0,none⟩)∧σ' 6=.pointer (some ⟨r4,0,none⟩)∧σ' 9=.int .i64 ((ms.getD i AB.z).low+(k:Int))∧h' ry=some (true,.cells #[yv] 138 (0,0))∧¬X ry∧h' rmv=some (true,.cells #[.func (.func 149) #[] #[.pointer (some ⟨rb,0,none⟩),.pointer (some ⟨ry,0,none⟩),.pointer (some ⟨rmv,0,none⟩),.pointer (some ⟨rmo,0,none⟩)]] 181 (0,0))∧¬X rmv∧h' r4=some (true,.cells (Ai pc) 119 (0,0))∧¬X r4) ⟨0,p,X0,Z,(by omega),(by exact hp),(by intros;rfl),Z,(by have e:pre++(Bl (ms.getD i AB.z).low 0).flatMap (Bb (A8 d gs.length ms cs) ms mo f' i p)=pre:=(by simp [Bl]);rw [e];exact ai),Z,Z,Z,Z,Z,(Et (b:=(.int .i64 ((ms.getD i AB.z).low):Value)) Z (by congr 1;omega)),(a6.keep hry Z),nry,(a6.keep hrmv Z),nrmv,cl,(hP.off db.inv a0)⟩ (fun nn _ _ _ cu=>?_))))))));obtain ⟨k,pc,_,rfl,hk,hpk,hpc,dd,cd,bd,ce,cv,cw,bl,cf,de,cg,df,ch,dg,bs⟩:=cu;subst dd;refine Sq (Sq (Rg (Mv (.int .i64 ((ms.getD i AB.z).low+(k:Int))) Z cf (Fa Fx.fld104_0 Z ce (Fa Fx.fld26_3 Z Z (Ld msv Z Z (Bq (o:=3) Fx.ty23 (hrb.le cd.base) Z) (Mv (.int .i64 (i:Int)) Z bd ?_)))))));have cx:(0:Int)≤(i:Int):=by omega
  have cy:(i:Int)<((ms.length:Nat):Int):=by omega
  refine Pl Z (Az Fx.esz23 hms Z Z cx cy fun dh bt cz=>have c0:Aa _ dh bt 5 (A1 (ms.getD i AB.z)):=Aa.getD AB.z cz;Fa Fx.fld75_3 Z Z (Fa Fx.fld31_1 Z Z (Ld (.int .i64 ((ms.getD i AB.z).high)) Z Z (Bq (o:=4) Fx.ty3 (c0.le cd.base) Z) (Pl Z (DC (a:=(ms.getD i AB.z).low+(k:Int)) (b:=(ms.getD i AB.z).high) Z Z (Nl (AZ (p:=((ms.getD i AB.z).low+(k:Int))≤((ms.getD i AB.z).high)) Z (fun c1=>?_) (fun c1=>?_))))))))
  ·refine Sk (Sq (Bk (Sq (Rg (Mv (.int .i64 (i:Int)) Z bd (Mv (.int .i64 (i:Int)) Z bd (Mv (.int .i64 ((ms.getD i AB.z).low+(k:Int))) Z cf (Fa Fx.fld119_1 Z bl ?_))))))));have c2:(0:Int)≤(i:Int):=by omega
   have c3:(i:Int)<((6:Nat):Int):=by omega
   refine Pl Z (Cb Fx.asz116 Z Z c2 c3 (Pl Z (AL (v:=.int .i64 ((ms.getD i AB.z).low+(k:Int))) (c':=Ai (pc.setMany i ((ms.getD i AB.z).low+(k:Int)))) Fx.ty3 Z Z dg Z Z (by show _≤15;omega) (Ly (i:=i) (by omega)) fun _ c4 bm=>Fa Fx.fld119_2 Z bl ?_)));have c5:(0:Int)≤(i:Int):=by omega
   have c6:(i:Int)<((6:Nat):Int):=by omega
   refine Pl Z (Cb Fx.asz117 Z Z c5 c6 (Pl Z (AL (v:=.bool false) (c':=Ai ((pc.setMany i ((ms.getD i AB.z).low+(k:Int))).setLie i false)) Fx.ty4 Z Z c4 Z Z (by show _≤15;omega) (Gm (i:=i) (by omega)) fun _ ba bn=>Nl (Sq (Sq (Rg (have a1:=((bn _ a8).trans ((bm _ a8).trans df));Ld (.func (.func 149) #[] #[.pointer (some ⟨rb,0,none⟩),.pointer (some ⟨ry,0,none⟩),.pointer (some ⟨rmv,0,none⟩),.pointer (some ⟨rmo,0,none⟩)]) Z cv (Rd.one Fx.ty181 a1 Z) (Ld (.agg (Ai ((pc.setMany i ((ms.getD i AB.z).low+(k:Int))).setLie i false))) Z bl (AR Fx.ty119 (Bx ba Z)) (Mv (.int .i64 (i:Int)) Z bd (Ad (i:Int) 1 Z Z Z (by omega) (have bb:=(Fs.store hP (Fs.store hP cd a0 (Ln hBh a0) bs bm) a0 (Ln hBh a0) bs bn);have bc:=((bn _ a7).trans ((bm _ a7).trans de));Pl Z (Ev (vs:=#[.agg (Ai ((pc.setMany i ((ms.getD i AB.z).low+(k:Int))).setLie i false)),.int .i64 ((i:Int)+1),.pointer (some ⟨rb,0,none⟩),.pointer (some ⟨ry,0,none⟩),.pointer (some ⟨rmv,0,none⟩),.pointer (some ⟨rmo,0,none⟩)]) Z Tryz.func149 Fx.call149 (by simp only [List.map_toArray,List.map_cons,List.map_nil,AV] <;> rfl) ((ih f' (by omega) ((pc.setMany i ((ms.getD i AB.z).low+(k:Int))).setLie i false) (i+1) ((i:Int)+1) (by omega) bb.base bb.inv bc cg a1 ch (by omega) (by exact hpk.setMany (by omega)) (by exact L3 hpc hw Z (by omega))).mono fun _ di bu=>?_)))))))))))));have c7:=Fs.pass bb bu;obtain ⟨az,c8,rfl,ao,ag,bv,bw⟩:=bb.call bu;have ar:=L0 ao bc cg;have au:=L0 ao a1 ch;have ak:=L0 ao ba bs;refine Pl Z (C4 (b:=az) Z (Nl (CR (t:= !az) Z (fun al=>?_) (fun al=>?_))))
   ·have hc109_y:az=false:=by simpa using al
    have hc109_:az=false:=by simpa using al
    exact Sq (Rg (As (.bool false) Z Z (Nl (Rt (⟨.inr Z,Ac Z (v:=.bool false) Z (Fu.stopped Z (bw hc109_y))⟩)))))
   ·have hc109_y:az=true:=by simpa using al
    have ad:=bv hc109_y;have hc109_:az=true:=by simpa using al
    refine Sk (Sq (Ek (fun σ' h'=>GH.Le di h'∧σ' 1=.int .i64 (i:Int)∧σ' 2=.pointer (some ⟨rb,0,none⟩)∧σ' 4=.pointer (some ⟨rmv,0,none⟩)∧σ' 5=.pointer (some ⟨rmo,0,none⟩)∧σ' 6=.pointer (some ⟨r4,0,none⟩)∧σ' 9=.int .i64 ((ms.getD i AB.z).low+(k:Int))∧σ' 58=.int .i64 (i:Int)∧σ' 67=.bool (decide (((0≤(i:Int)∧(i:Int)≤(ms.length:Int)-1)∧(ms.getD ((i:Int)).toNat AB.z).kind=0)∧((An ((pc.setMany i ((ms.getD i AB.z).low+(k:Int))).setLie i false) 6:Int)<mo)))∧σ' 68=.pointer (some ⟨r4,9,none⟩)) 11 false [0,6,11,50,17,21,26,36,32,41,46] Fx.mixed (by kernel_rfl) ?_ ?_))
    ·refine tP Z Z (fun _=>AA (v:=.int .i64 (i:Int)) bd vz) (tR Z Z (AF (v:=.agg #[.int .i64 d,.int .i64 m,gsv,msv,csv]) ce (AR Fx.ty104 (hrb.le ad.base)) vz) (tR Z Z (AA (v:=.int .i64 (i:Int)) bd vz) (tP Z Z (fun _=>AI Fx.fld119_2 bl vz) (tE Z Z (AX Tryz.func110 Fx.call110 Z Z ((F9 d m gs gsv ms msv cs csv (i:Int) (hgs.le ad.base) (hms.le ad.base) (hcs.le ad.base) ).mono fun _ _ bx=>?_))))));obtain ⟨rfl,ae⟩:=bx;refine eT ae (tR Z Z (AA (v:=.bool (decide ((0≤(i:Int)∧(i:Int)≤(ms.length:Int)-1)∧(ms.getD ((i:Int)).toNat AB.z).kind=0))) Z vz) (CY (p:=(0≤(i:Int)∧(i:Int)≤(ms.length:Int)-1)∧(ms.getD ((i:Int)).toNat AB.z).kind=0) ?_ ?_))
     ·intro ab;refine B4 Z Z Z Z (AE Z ab) (AF (v:=.agg (Ai ((pc.setMany i ((ms.getD i AB.z).low+(k:Int))).setLie i false))) bl (AR Fx.ty119 (Bx (ae.keep (ag.box ba bs Z) Z) Z)) vz) (have bz:=Fs.le hP ad ae;B4 Z Z Z Z (AE Z ab) (AF (v:=.int .i64 mo) cw (Bq (o:=0) Fx.ty3 (hrmo.le bz.base) Z) vz) (Pi Z Z Z Z (AE Z ab) (Am Tryz.func101 Fx.call101 Z ((Qg ((pc.setMany i ((ms.getD i AB.z).low+(k:Int))).setLie i false) ).mono fun _ _ b0=>?_))));obtain ⟨rfl,a2⟩:=b0;exact eT a2 (B4 Z Z Z Z (AE Z ab) (A5 (a:=(An ((pc.setMany i ((ms.getD i AB.z).low+(k:Int))).setLie i false) 6:Int)) (b:=mo) Z Z vz) (tR Z Z (A3 (t:=true) (v:=.bool (decide ((An ((pc.setMany i ((ms.getD i AB.z).low+(k:Int))).setLie i false) 6:Int)<mo))) (AE Z ab) Z vz) (tN (⟨(ae.trans a2),bd,ce,cv,cw,bl,cf,Z,Et (b:=(.bool (decide ((An ((pc.setMany i ((ms.getD i AB.z).low+(k:Int))).setLie i false) 6:Int)<mo)):Value)) Z (congrArg Value.bool (by grind:decide ((An ((pc.setMany i ((ms.getD i AB.z).low+(k:Int))).setLie i false) 6:Int)<mo)=(decide (((0≤(i:Int)∧(i:Int)≤(ms.length:Int)-1)∧(ms.getD ((i:Int)).toNat AB.z).kind=0)∧((An ((pc.setMany i ((ms.getD i AB.z).low+(k:Int))).setLie i false) 6:Int)<mo))))),Z⟩))))
     ·intro ab;exact tS Z Z Z Z (AD Z ab) Z (tS Z Z Z Z (AD Z ab) Z (tS Z Z Z Z (AD Z ab) Z (tS Z Z Z Z (AD Z ab) Z (tR Z Z (A3 (t:=false) (v:=.bool false) (AD Z ab) Z vz) (tN (⟨ae,bd,ce,cv,cw,bl,cf,Z,Et (b:=(.bool false:Value)) Z (congrArg Value.bool (by grind:false=(decide (((0≤(i:Int)∧(i:Int)≤(ms.length:Int)-1)∧(ms.getD ((i:Int)).toNat AB.z).kind=0)∧((An ((pc.setMany i ((ms.getD i AB.z).low+(k:Int))).setLie i false) 6:Int)<mo))))),Z⟩))))))
    ·rintro _ _ ⟨ac,av,be,a3,bf,aw,bg,b1,b2,b3⟩;have b4:(0:Int)≤(i:Int):=by omega
     have b5:(i:Int)<((6:Nat):Int):=by omega
     refine Pl Z (Cb Fx.asz117 b3 b1 b4 b5 (have b6:=ac.keep (ag.box ba bs Z) Z;Pl Z (AL (v:=.bool (decide (((0≤(i:Int)∧(i:Int)≤(ms.length:Int)-1)∧(ms.getD ((i:Int)).toNat AB.z).kind=0)∧((An ((pc.setMany i ((ms.getD i AB.z).low+(k:Int))).setLie i false) 6:Int)<mo)))) (c':=Ai (((pc.setMany i ((ms.getD i AB.z).low+(k:Int))).setLie i false).setLie i (decide (((0≤(i:Int)∧(i:Int)≤(ms.length:Int)-1)∧(ms.getD ((i:Int)).toNat AB.z).kind=0)∧((An ((pc.setMany i ((ms.getD i AB.z).low+(k:Int))).setLie i false) 6:Int)<mo))))) Fx.ty4 Z b2 b6 Z Z (by show _≤15;omega) (Gm (i:=i) (by omega)) fun _ am ah=>Nl (Sq (Rg (Mv (.int .i64 (i:Int)) Z av (Fa Fx.fld119_2 Z aw ?_)))))));have b7:(0:Int)≤(i:Int):=by omega
     have b8:(i:Int)<((6:Nat):Int):=by omega
     refine Pl Z (Cb Fx.asz117 Z Z b7 b8 (Ld (.bool ((((pc.setMany i ((ms.getD i AB.z).low+(k:Int))).setLie i false).setLie i (decide (((0≤(i:Int)∧(i:Int)≤(ms.length:Int)-1)∧(ms.getD ((i:Int)).toNat AB.z).kind=0)∧((An ((pc.setMany i ((ms.getD i AB.z).low+(k:Int))).setLie i false) 6:Int)<mo)))).lies i)) Z Z (Rd.one Fx.ty4 am (IM (i:=i) (by omega))) (Mv (.bool ((((pc.setMany i ((ms.getD i AB.z).low+(k:Int))).setLie i false).setLie i (decide (((0≤(i:Int)∧(i:Int)≤(ms.length:Int)-1)∧(ms.getD ((i:Int)).toNat AB.z).kind=0)∧((An ((pc.setMany i ((ms.getD i AB.z).low+(k:Int))).setLie i false) 6:Int)<mo)))).lies i)) Z Z (FP (b:=(((pc.setMany i ((ms.getD i AB.z).low+(k:Int))).setLie i false).setLie i (decide (((0≤(i:Int)∧(i:Int)≤(ms.length:Int)-1)∧(ms.getD ((i:Int)).toNat AB.z).kind=0)∧((An ((pc.setMany i ((ms.getD i AB.z).low+(k:Int))).setLie i false) 6:Int)<mo)))).lies i) ?_ ?_))))
     ·intro aa;have ax:=((ah _ a8).trans (ac.keep (ag.box a1 ch Z) Z));refine Gg 4 74 (BC Z aa) Z (AF (v:=.func (.func 149) #[] #[.pointer (some ⟨rb,0,none⟩),.pointer (some ⟨ry,0,none⟩),.pointer (some ⟨rmv,0,none⟩),.pointer (some ⟨rmo,0,none⟩)]) a3 (Rd.one Fx.ty181 ax Z) (Gg 4 74 (BC Z aa) Z (AF (v:=.agg (Ai (((pc.setMany i ((ms.getD i AB.z).low+(k:Int))).setLie i false).setLie i (decide (((0≤(i:Int)∧(i:Int)≤(ms.length:Int)-1)∧(ms.getD ((i:Int)).toNat AB.z).kind=0)∧((An ((pc.setMany i ((ms.getD i AB.z).low+(k:Int))).setLie i false) 6:Int)<mo)))))) aw (AR Fx.ty119 (Bx am Z)) (Gg 4 74 (BC Z aa) Z (AA (v:=.int .i64 (i:Int)) av (Gg 4 74 (BC Z aa) Z (Bw (a:=(i:Int)) (b:=1) Z Z (by omega) (have ay:=Fs.store hP (Fs.le hP ad ac) a0 (Ln hBh a0) ak ah;have a4:=((ah _ a7).trans (ac.keep (ag.box bc cg Z) Z));Gg 4 74 (BC Z aa) Z (Ev (vs:=#[.agg (Ai (((pc.setMany i ((ms.getD i AB.z).low+(k:Int))).setLie i false).setLie i (decide (((0≤(i:Int)∧(i:Int)≤(ms.length:Int)-1)∧(ms.getD ((i:Int)).toNat AB.z).kind=0)∧((An ((pc.setMany i ((ms.getD i AB.z).low+(k:Int))).setLie i false) 6:Int)<mo))))),.int .i64 ((i:Int)+1),.pointer (some ⟨rb,0,none⟩),.pointer (some ⟨ry,0,none⟩),.pointer (some ⟨rmv,0,none⟩),.pointer (some ⟨rmo,0,none⟩)]) Z Tryz.func149 Fx.call149 (by simp only [List.map_toArray,List.map_cons,List.map_nil,AV] <;> rfl) ((ih f' (by omega) (((pc.setMany i ((ms.getD i AB.z).low+(k:Int))).setLie i false).setLie i (decide (((0≤(i:Int)∧(i:Int)≤(ms.length:Int)-1)∧(ms.getD ((i:Int)).toNat AB.z).kind=0)∧((An ((pc.setMany i ((ms.getD i AB.z).low+(k:Int))).setLie i false) 6:Int)<mo)))) (i+1) ((i:Int)+1) (by omega) ay.base ay.inv a4 ar ax au (by omega) (by exact hpk.setMany (by omega)) (by exact L5 hpc hw ‹_› Z (by omega))).mono fun _ _ bh=>?_))))))))));have c9:=Fs.pass ay bh;obtain ⟨af,da,rfl,ap,a5,b9,ca⟩:=ay.call bh;refine Gg 4 74 (BC Z aa) Z (C4 (b:=af) Z (Pk true (.bool (!af)) Z (BC Z aa) Z (Nl (CR (t:= !af) Z (fun an=>?_) (fun an=>?_)))))
      ·have hc168_y:af=false:=by simpa using an
       have hc168_:af=false:=by simpa using an
       exact Sq (Rg (As (.bool false) Z Z (Nl (Rt (⟨.inr Z,Ac Z (v:=.bool false) Z (Fu.stopped Z (ca hc168_y))⟩)))))
      ·have hc168_y:af=true:=by simpa using an
       have cb:=b9 hc168_y;have hc168_:af=true:=by simpa using an
       exact Sk (Rg (Mv (.int .i64 ((ms.getD i AB.z).low+(k:Int))) Z bg (Ad ((ms.getD i AB.z).low+(k:Int)) 1 Z Z Z (by omega) (As (.int .i64 (((ms.getD i AB.z).low+(k:Int))+1)) Z Z (Nl (⟨_,by omega,k+1,((pc.setMany i ((ms.getD i AB.z).low+(k:Int))).setLie i false).setLie i (decide (((0≤(i:Int)∧(i:Int)≤(ms.length:Int)-1)∧(ms.getD ((i:Int)).toNat AB.z).kind=0)∧((An ((pc.setMany i ((ms.getD i AB.z).low+(k:Int))).setLie i false) 6:Int)<mo))),da,Z,(by omega),(by exact hpk.setMany (by omega)),(by exact OZ hpc),Z,(by have e:pre++(Bl (ms.getD i AB.z).low (k+1)).flatMap (Bb (A8 d gs.length ms cs) ms mo f' i p)=((pre++(Bl (ms.getD i AB.z).low k).flatMap (Bb (A8 d gs.length ms cs) ms mo f' i p))++(Aq (A8 d gs.length ms cs) ms mo f' (i+1) ((pc.setMany i ((ms.getD i AB.z).low+(k:Int))).setLie i false)))++(Aq (A8 d gs.length ms cs) ms mo f' (i+1) (((pc.setMany i ((ms.getD i AB.z).low+(k:Int))).setLie i false).setLie i (decide (((0≤(i:Int)∧(i:Int)≤(ms.length:Int)-1)∧(ms.getD ((i:Int)).toNat AB.z).kind=0)∧((An ((pc.setMany i ((ms.getD i AB.z).low+(k:Int))).setLie i false) 6:Int)<mo))))):=(by exact Ob hpc ‹_› Z);rw [e];exact cb),av,be,a3,bf,aw,(Et (b:=(.int .i64 (((ms.getD i AB.z).low+(k:Int))+1):Value)) Z (by congr 1;omega)),(a5.box a4 ar Z),(L0 ap a4 ar),(a5.box ax au Z),(L0 ap ax au),(a5.box am ak Z),(L0 ap am ak)⟩))))))
     ·intro aa;refine Gs 4 74 (BC Z aa) Z (Gs 4 74 (BC Z aa) Z (Gs 4 74 (BC Z aa) Z (Gs 4 74 (BC Z aa) Z (Gs 4 74 (BC Z aa) Z (Gs 4 74 (BC Z aa) Z (Pk false (.bool false) Z (BC Z aa) Z (Nl (Bi Z (Sk (Rg (Mv (.int .i64 ((ms.getD i AB.z).low+(k:Int))) Z bg (Ad ((ms.getD i AB.z).low+(k:Int)) 1 Z Z Z (by omega) ?_))))))))))));exact As (.int .i64 (((ms.getD i AB.z).low+(k:Int))+1)) Z Z (Nl (have cc:=Fs.store hP (Fs.le hP ad ac) a0 (Ln hBh a0) ak ah;⟨_,by omega,k+1,((pc.setMany i ((ms.getD i AB.z).low+(k:Int))).setLie i false).setLie i (decide (((0≤(i:Int)∧(i:Int)≤(ms.length:Int)-1)∧(ms.getD ((i:Int)).toNat AB.z).kind=0)∧((An ((pc.setMany i ((ms.getD i AB.z).low+(k:Int))).setLie i false) 6:Int)<mo))),c8,Z,(by omega),(by exact hpk.setMany (by omega)),(by exact OZ hpc),Z,(by have e:pre++(Bl (ms.getD i AB.z).low (k+1)).flatMap (Bb (A8 d gs.length ms cs) ms mo f' i p)=(pre++(Bl (ms.getD i AB.z).low k).flatMap (Bb (A8 d gs.length ms cs) ms mo f' i p))++(Aq (A8 d gs.length ms cs) ms mo f' (i+1) ((pc.setMany i ((ms.getD i AB.z).low+(k:Int))).setLie i false)):=(by exact Oc hpc ‹_› Z);rw [e];exact cc),av,be,a3,bf,aw,(Et (b:=(.int .i64 (((ms.getD i AB.z).low+(k:Int))+1):Value)) Z (by congr 1;omega)),((ah _ a7).trans (ac.keep (ag.box bc cg Z) Z)),ar,((ah _ a8).trans (ac.keep (ag.box a1 ch Z) Z)),au,am,ak⟩))
  ·exact Xt (Sq (Rg (As (.bool true) Z Z (Nl (Rt (⟨.inr Z,Ac Z (v:=.bool true) Z (Fs.done (by have e:pre++(Aq (A8 d gs.length ms cs) ms mo (f'+1) i p)=pre++(Bl (ms.getD i AB.z).low k).flatMap (Bb (A8 d gs.length ms cs) ms mo f' i p):=(by (rw [CO,CP.roundEnd (k:=k) ‹_› (by omega)]));rw [e];exact cd))⟩))))))
theorem PT {W:Wk Tryz.prog} {hB:GH} {I:List AS→(Nat→Prop)→GH→Prop} {Sp:GH→Prop} {all:List AS} {d m:Int} {gs:List Good} {gsv:Value} {ms:List AB} {msv:Value} {cs:List AK} {csv:Value} {rb rmo:Nat} {mo:Int} (yv:Value) (hP:Gn hB I) (hY:IO W hB yv Ai I Sp all) (hgs:AN hB gsv 5 BD gs) (hms:AN hB msv 5 A1 ms) (hcs:AN hB csv 4 Av cs) (hG:Ct hB) (hrb:Aa hB rb 0 5 #[.int .i64 d,.int .i64 m,gsv,msv,csv]) (hrmo:Aa hB rmo 0 1 #[.int .i64 mo]) (hbk:BG d m gs ms cs) (hmo:0≤mo∧mo≤99) {ry rmv:Nat}:∀(f:Nat) {h:GH} {X0:Nat→Prop} {pre:List AS} (p:AS) (i:Nat) (iv:Int) (hi:iv=(i:Int)) (hBh:hB.Le h) (hI:I pre X0 h) (hry:h ry=some (true,.cells #[yv] 138 (0,0))) (nry:¬X0 ry) (hrmv:h rmv=some (true,.cells #[.func (.func 149) #[] #[.pointer (some ⟨rb,0,none⟩),.pointer (some ⟨ry,0,none⟩),.pointer (some ⟨rmv,0,none⟩),.pointer (some ⟨rmo,0,none⟩)]] 181 (0,0))) (nrmv:¬X0 rmv) (hfi:i+f=ms.length) (hp:Be p) (hw:CP all pre (Aq (A8 d gs.length ms cs) ms mo f i p)),Ab W 149 #[.agg (Ai p),.int .i64 iv,.pointer (some ⟨rb,0,none⟩),.pointer (some ⟨ry,0,none⟩),.pointer (some ⟨rmv,0,none⟩),.pointer (some ⟨rmo,0,none⟩)] h (Fu hB I Sp pre X0 h (Aq (A8 d gs.length ms cs) ms mo f i p)):=by
 intro f
 induction f using Nat.strongRecOn with
 | ind f ih=>
  intro h X0 pre p i iv hi hBh hI hry nry hrmv nrmv hfi hp hw;exact Qm yv hP hY hgs hms hcs hG hrb hrmo hbk hmo f ih p i iv hi hBh hI hry nry hrmv nrmv hfi hp hw
theorem Qn {W:Wk Tryz.prog} {h:GH} {hB:GH} {I:List AS→(Nat→Prop)→GH→Prop} {Sp:GH→Prop} {all:List AS} {d m:Int} {gs:List Good} {gsv:Value} {ms:List AB} {msv:Value} {cs:List AK} {csv:Value} {rb rmo:Nat} {mo:Int} (yv:Value) (hP:Gn hB I) (hY:IO W hB yv Ai I Sp all) (hgs:AN hB gsv 5 BD gs) (hms:AN hB msv 5 A1 ms) (hcs:AN hB csv 4 Av cs) (hG:Ct hB) (hrb:Aa hB rb 0 5 #[.int .i64 d,.int .i64 m,gsv,msv,csv]) (hrmo:Aa hB rmo 0 1 #[.int .i64 mo]) (hbk:BG d m gs ms cs) (hmo:0≤mo∧mo≤99) (f:Nat) {ry rmv rgd:Nat} (ih:∀f',f'<f→∀{h:GH} {X0:Nat→Prop} {pre:List AS} (p:AS) (i:Nat) (iv:Int) (hi:iv=(i:Int)) (hBh:hB.Le h) (hI:I pre X0 h) (hry:h ry=some (true,.cells #[yv] 138 (0,0))) (nry:¬X0 ry) (hrmv:h rmv=some (true,.cells #[.func (.func 149) #[] #[.pointer (some ⟨rb,0,none⟩),.pointer (some ⟨ry,0,none⟩),.pointer (some ⟨rmv,0,none⟩),.pointer (some ⟨rmo,0,none⟩)]] 181 (0,0))) (nrmv:¬X0 rmv) (hrgd:h rgd=some (true,.cells #[.func (.func 148) #[] #[.pointer (some ⟨rb,0,none⟩),.pointer (some ⟨rmv,0,none⟩),.pointer (some ⟨rgd,0,none⟩)]] 181 (0,0))) (nrgd:¬X0 rgd) (hfi:i+f'=gs.length) (hp:Be p) (hw:CP all pre (BJ (A8 d gs.length ms cs) gs ms mo f' i p)),Ab W 148 #[.agg (Ai p),.int .i64 iv,.pointer (some ⟨rb,0,none⟩),.pointer (some ⟨rmv,0,none⟩),.pointer (some ⟨rgd,0,none⟩)] h (Fu hB I Sp pre X0 h (BJ (A8 d gs.length ms cs) gs ms mo f' i p))) {X0:Nat→Prop} {pre:List AS} (p:AS) (i:Nat) (iv:Int) (hi:iv=(i:Int)) (hBh:hB.Le h) (hI:I pre X0 h) (hry:h ry=some (true,.cells #[yv] 138 (0,0))) (nry:¬X0 ry) (hrmv:h rmv=some (true,.cells #[.func (.func 149) #[] #[.pointer (some ⟨rb,0,none⟩),.pointer (some ⟨ry,0,none⟩),.pointer (some ⟨rmv,0,none⟩),.pointer (some ⟨rmo,0,none⟩)]] 181 (0,0))) (nrmv:¬X0 rmv) (hrgd:h rgd=some (true,.cells #[.func (.func 148) #[] #[.pointer (some ⟨rb,0,none⟩),.pointer (some ⟨rmv,0,none⟩),.pointer (some ⟨rgd,0,none⟩)]] 181 (0,0))) (nrgd:¬X0 rgd) (hfi:i+f=gs.length) (hp:Be p) (hw:CP all pre (BJ (A8 d gs.length ms cs) gs ms mo f i p)):Ab W 148 #[.agg (Ai p),.int .i64 iv,.pointer (some ⟨rb,0,none⟩),.pointer (some ⟨rmv,0,none⟩),.pointer (some ⟨rgd,0,none⟩)] h (fun v h'=>Fu hB I Sp pre X0 h (BJ (A8 d gs.length ms cs) gs ms mo f i p) v h'):=by
 subst hi;have br:=Fs.start hI hBh;have hgl:=hbk.glen;have hml:=hbk.mlen;have hdy:=hbk.days;have hkind:=hbk.kind;have hcg:=hbk.cgood;have hfw:=hbk.few i;have hgw:=hbk.gfew i;have az:=hgs.len;have a0:=hms.len;have a1:=hcs.len;refine AO Tryz.func148 Z (Nb Z) (Sq (Rg (Pl Z (Ap (v:=.agg (Ai p)) (c:=Ai p) Z Z fun r4 _ am ac bs _=>have a2:ry≠r4:=Cg hry am;have a3:rmv≠r4:=Cg hrmv am;have a4:rgd≠r4:=Cg hrgd am;As (.bool false) Z Z (Nl (Sq (Sq (Rg (Mv (.int .i64 (i:Int)) Z Z (Fa Fx.fld104_0 Z Z (Fa Fx.fld26_2 Z Z (have aa:=Fs.le hP br ac;have an:=hrb.le aa.base;Ld gsv Z Z (Bq (o:=2) Fx.ty22 an Z) (Pl Z (AY Fx.sl22 (hgs.le aa.base) Z (Pl Z (Bg (a:=(i:Int)) (b:=(gs.length:Int)) Z Z (Nl ?_)))))))))))))))));refine AZ (p:=(i:Int)=(gs.length:Int)) Z (fun a5=>?_) (fun a5=>?_)
 ·obtain rfl:f=0:=(by omega);refine Sq (Rg (have ao:=ac.keep hrmv Z;Ld (.func (.func 149) #[] #[.pointer (some ⟨rb,0,none⟩),.pointer (some ⟨ry,0,none⟩),.pointer (some ⟨rmv,0,none⟩),.pointer (some ⟨rmo,0,none⟩)]) Z Z (Rd.one Fx.ty181 ao Z) (Ld (.agg (Ai p)) Z Z (AR Fx.ty119 (Bx bs Z)) (Pl Z (Ev (vs:=#[.agg (Ai p),.int .i64 0,.pointer (some ⟨rb,0,none⟩),.pointer (some ⟨ry,0,none⟩),.pointer (some ⟨rmv,0,none⟩),.pointer (some ⟨rmo,0,none⟩)]) Z Tryz.func149 Fx.call149 (by simp only [List.map_toArray,List.map_cons,List.map_nil,AV] <;> rfl) ((PT (X0:=_) yv hP hY hgs hms hcs hG hrb hrmo hbk hmo ms.length p 0 0 Z aa.base aa.inv (ac.keep hry Z) nry ao nrmv (by omega) hp hw).mono fun _ _ ap=>?_))))));have aq:=Fs.pass aa ap;obtain ⟨ar,_,rfl,_⟩:=aa.call ap;exact As (.bool ar) Z Z (Nl (Rt (⟨.inr Z,Ac Z (v:=.bool ar) Z ((by have e:BJ (A8 d gs.length ms cs) gs ms mo 0 i p=Aq (A8 d gs.length ms cs) ms mo ms.length 0 p:=(by rfl);rw [e];exact aq))⟩)))
 ·obtain ⟨f',rfl⟩:∃f',f=f'+1:=⟨f-1,by omega⟩;refine Sk (Sq (Sq (Rg (Fa Fx.fld104_0 Z Z (Fa Fx.fld26_2 Z Z (Ld gsv Z Z (Bq (o:=2) Fx.ty22 an Z) (Mv (.int .i64 (i:Int)) Z Z ?_)))))));have a6:(0:Int)≤(i:Int):=by omega
  have a7:(i:Int)<((gs.length:Nat):Int):=by omega
  refine Pl Z (Az Fx.esz22 hgs Z Z a6 a7 fun bw au a8=>have a9:Aa _ bw au 5 (BD (gs.getD i Good.z)):=Aa.getD Good.z a8;Fa Fx.fld99_3 Z Z (Fa Fx.fld31_0 Z Z (Ld (.int .i64 ((gs.getD i Good.z).low)) Z Z (Bq (o:=3) Fx.ty3 (a9.le aa.base) Z) (As (.int .i64 ((gs.getD i Good.z).low)) Z Z (Nl (Bk (Ao (fun nn σ' ds' h'=>∃(k:Nat) (pc:AS) (X:Nat→Prop),nn=((gs.getD i Good.z).high-(gs.getD i Good.z).low+1-(k:Int)).toNat∧((k:Int)≤(gs.getD i Good.z).high-(gs.getD i Good.z).low+1)∧(Be pc)∧(∀n,pc.setFirst i n=p.setFirst i n)∧ds'=[]∧Fs hB I X0 h (pre++(Bl (gs.getD i Good.z).low k).flatMap (fun n=>BJ (A8 d gs.length ms cs) gs ms mo f' (i+1) (p.setFirst i n))) X h'∧σ' 1=.int .i64 (i:Int)∧σ' 2=.pointer (some ⟨rb,0,none⟩)∧σ' 4=.pointer (some ⟨rgd,0,none⟩)∧σ' 5=.pointer (some ⟨r4,0,none⟩)∧σ' 8=.int .i64 ((gs.getD i Good.z).low+(k:Int))∧h' ry=some (true,.cells #[yv] 138 (0,0))∧¬X ry∧h' rmv=some (true,.cells #[.func (.func 149) #[] #[.pointer (some ⟨rb,0,none⟩),.pointer (some ⟨ry,0,none⟩),.pointer (some ⟨rmv,0,none⟩),.pointer (some ⟨rmo,0,none⟩)]] 181 (0,0))∧¬X rmv∧h' rgd=some (true,.cells #[.func (.func 148) #[] #[.pointer (some ⟨rb,0,none⟩),.pointer (some ⟨rmv,0,none⟩),.pointer (some ⟨rgd,0,none⟩)]] 181 (0,0))∧¬X rgd∧h' r4=some (true,.cells (Ai pc) 119 (0,0))∧¬X r4) ⟨0,p,X0,Z,(by omega),(by exact hp),(by intros;rfl),Z,(by have e:pre++(Bl (gs.getD i Good.z).low 0).flatMap (fun n=>BJ (A8 d gs.length ms cs) gs ms mo f' (i+1) (p.setFirst i n))=pre:=(by simp [Bl]);rw [e];exact aa),Z,Z,Z,Z,(Et (b:=(.int .i64 ((gs.getD i Good.z).low):Value)) Z (by congr 1;omega)),(ac.keep hry Z),nry,(ac.keep hrmv Z),nrmv,(ac.keep hrgd Z),nrgd,bs,(hP.off br.inv am)⟩ (fun nn _ _ _ ba=>?_))))))));obtain ⟨k,pc,_,rfl,hk,hpk,hpc,bx,ax,ay,bt,bu,bb,bc,bz,bd,b0,be,b1,bf,b2,bg⟩:=ba;subst bx;refine Sq (Sq (Rg (Mv (.int .i64 ((gs.getD i Good.z).low+(k:Int))) Z bc (Fa Fx.fld104_0 Z bt (Fa Fx.fld26_2 Z Z (Ld gsv Z Z (Bq (o:=2) Fx.ty22 (hrb.le ax.base) Z) (Mv (.int .i64 (i:Int)) Z ay ?_)))))));have bh:(0:Int)≤(i:Int):=by omega
  have bi:(i:Int)<((gs.length:Nat):Int):=by omega
  refine Pl Z (Az Fx.esz22 hgs Z Z bh bi fun b3 av bj=>have bk:Aa _ b3 av 5 (BD (gs.getD i Good.z)):=Aa.getD Good.z bj;Fa Fx.fld99_3 Z Z (Fa Fx.fld31_1 Z Z (Ld (.int .i64 ((gs.getD i Good.z).high)) Z Z (Bq (o:=4) Fx.ty3 (bk.le ax.base) Z) (Pl Z (DC (a:=(gs.getD i Good.z).low+(k:Int)) (b:=(gs.getD i Good.z).high) Z Z (Nl (AZ (p:=((gs.getD i Good.z).low+(k:Int))≤((gs.getD i Good.z).high)) Z (fun bl=>?_) (fun bl=>?_))))))))
  ·refine Sk (Sq (Bk (Sq (Rg (Mv (.int .i64 (i:Int)) Z ay (Mv (.int .i64 ((gs.getD i Good.z).low+(k:Int))) Z bc (Fa Fx.fld119_0 Z bb ?_)))))));have bm:(0:Int)≤(i:Int):=by omega
   have bn:(i:Int)<((3:Nat):Int):=by omega
   refine Pl Z (Cb Fx.asz115 Z Z bm bn (Pl Z (AL (v:=.int .i64 ((gs.getD i Good.z).low+(k:Int))) (c':=Ai (pc.setFirst i ((gs.getD i Good.z).low+(k:Int)))) Fx.ty3 Z Z b2 Z Z (by show _≤15;omega) (KD (i:=i) (by omega)) fun _ aj af=>Nl (Sq (Rg (have ag:=(af _ a4).trans b1;Ld (.func (.func 148) #[] #[.pointer (some ⟨rb,0,none⟩),.pointer (some ⟨rmv,0,none⟩),.pointer (some ⟨rgd,0,none⟩)]) Z bu (Rd.one Fx.ty181 ag Z) (Ld (.agg (Ai (pc.setFirst i ((gs.getD i Good.z).low+(k:Int))))) Z bb (AR Fx.ty119 (Bx aj Z)) (Mv (.int .i64 (i:Int)) Z ay (Ad (i:Int) 1 Z Z Z (by omega) (have ah:=Fs.store hP ax am (Ln hBh am) bg af;have ak:=(af _ a2).trans bz;have al:=(af _ a3).trans b0;Pl Z (Ev (vs:=#[.agg (Ai (pc.setFirst i ((gs.getD i Good.z).low+(k:Int)))),.int .i64 ((i:Int)+1),.pointer (some ⟨rb,0,none⟩),.pointer (some ⟨rmv,0,none⟩),.pointer (some ⟨rgd,0,none⟩)]) Z Tryz.func148 Fx.call148 (by simp only [List.map_toArray,List.map_cons,List.map_nil,AV] <;> rfl) ((ih f' (by omega) (pc.setFirst i ((gs.getD i Good.z).low+(k:Int))) (i+1) ((i:Int)+1) (by omega) ah.base ah.inv ak bd al be ag bf (by omega) (by exact hpk.setFirst (by omega)) (by exact NO hpc hw Z (by omega))).mono fun _ _ aw=>?_))))))))))));have bv:=Fs.pass ah aw;obtain ⟨ad,b4,rfl,ab,ai,bo,bp⟩:=ah.call aw;refine Pl Z (C4 (b:=ad) Z (Nl (CR (t:= !ad) Z (fun ae=>?_) (fun ae=>?_))))
   ·have hc98_y:ad=false:=by simpa using ae
    have hc98_:ad=false:=by simpa using ae
    exact Sq (Rg (As (.bool false) Z Z (Nl (Rt (⟨.inr Z,Ac Z (v:=.bool false) Z (Fu.stopped Z (bp hc98_y))⟩)))))
   ·have hc98_y:ad=true:=by simpa using ae
    have bq:=bo hc98_y;have hc98_:ad=true:=by simpa using ae
    exact Sk (Rg (Mv (.int .i64 ((gs.getD i Good.z).low+(k:Int))) Z bc (Ad ((gs.getD i Good.z).low+(k:Int)) 1 Z Z Z (by omega) (As (.int .i64 (((gs.getD i Good.z).low+(k:Int))+1)) Z Z (Nl (⟨_,by omega,k+1,pc.setFirst i ((gs.getD i Good.z).low+(k:Int)),b4,Z,(by omega),(by exact hpk.setFirst (by omega)),(by exact S6 hpc),Z,(by have e:pre++(Bl (gs.getD i Good.z).low (k+1)).flatMap (fun n=>BJ (A8 d gs.length ms cs) gs ms mo f' (i+1) (p.setFirst i n))=(pre++(Bl (gs.getD i Good.z).low k).flatMap (fun n=>BJ (A8 d gs.length ms cs) gs ms mo f' (i+1) (p.setFirst i n)))++(BJ (A8 d gs.length ms cs) gs ms mo f' (i+1) (pc.setFirst i ((gs.getD i Good.z).low+(k:Int)))):=(by exact P3 hpc Z);rw [e];exact bq),ay,bt,bu,bb,(Et (b:=(.int .i64 (((gs.getD i Good.z).low+(k:Int))+1):Value)) Z (by congr 1;omega)),(ai.box ak bd Z),(L0 ab ak bd),(ai.box al be Z),(L0 ab al be),(ai.box ag bf Z),(L0 ab ag bf),(ai.box aj bg Z),(L0 ab aj bg)⟩))))))
  ·exact Xt (Sq (Rg (As (.bool true) Z Z (Nl (Rt (⟨.inr Z,Ac Z (v:=.bool true) Z (Fs.done (by have e:pre++(BJ (A8 d gs.length ms cs) gs ms mo (f'+1) i p)=pre++(Bl (gs.getD i Good.z).low k).flatMap (fun n=>BJ (A8 d gs.length ms cs) gs ms mo f' (i+1) (p.setFirst i n)):=(by (rw [Cm,CP.roundEnd (k:=k) ‹_› (by omega)]));rw [e];exact ax))⟩))))))
theorem PU {W:Wk Tryz.prog} {hB:GH} {I:List AS→(Nat→Prop)→GH→Prop} {Sp:GH→Prop} {all:List AS} {d m:Int} {gs:List Good} {gsv:Value} {ms:List AB} {msv:Value} {cs:List AK} {csv:Value} {rb rmo:Nat} {mo:Int} (yv:Value) (hP:Gn hB I) (hY:IO W hB yv Ai I Sp all) (hgs:AN hB gsv 5 BD gs) (hms:AN hB msv 5 A1 ms) (hcs:AN hB csv 4 Av cs) (hG:Ct hB) (hrb:Aa hB rb 0 5 #[.int .i64 d,.int .i64 m,gsv,msv,csv]) (hrmo:Aa hB rmo 0 1 #[.int .i64 mo]) (hbk:BG d m gs ms cs) (hmo:0≤mo∧mo≤99) {ry rmv rgd:Nat}:∀(f:Nat) {h:GH} {X0:Nat→Prop} {pre:List AS} (p:AS) (i:Nat) (iv:Int) (hi:iv=(i:Int)) (hBh:hB.Le h) (hI:I pre X0 h) (hry:h ry=some (true,.cells #[yv] 138 (0,0))) (nry:¬X0 ry) (hrmv:h rmv=some (true,.cells #[.func (.func 149) #[] #[.pointer (some ⟨rb,0,none⟩),.pointer (some ⟨ry,0,none⟩),.pointer (some ⟨rmv,0,none⟩),.pointer (some ⟨rmo,0,none⟩)]] 181 (0,0))) (nrmv:¬X0 rmv) (hrgd:h rgd=some (true,.cells #[.func (.func 148) #[] #[.pointer (some ⟨rb,0,none⟩),.pointer (some ⟨rmv,0,none⟩),.pointer (some ⟨rgd,0,none⟩)]] 181 (0,0))) (nrgd:¬X0 rgd) (hfi:i+f=gs.length) (hp:Be p) (hw:CP all pre (BJ (A8 d gs.length ms cs) gs ms mo f i p)),Ab W 148 #[.agg (Ai p),.int .i64 iv,.pointer (some ⟨rb,0,none⟩),.pointer (some ⟨rmv,0,none⟩),.pointer (some ⟨rgd,0,none⟩)] h (Fu hB I Sp pre X0 h (BJ (A8 d gs.length ms cs) gs ms mo f i p)):=by
 intro f
 induction f using Nat.strongRecOn with
 | ind f ih=>
  intro h X0 pre p i iv hi hBh hI hry nry hrmv nrmv hrgd nrgd hfi hp hw;exact Qn yv hP hY hgs hms hcs hG hrb hrmo hbk hmo f ih p i iv hi hBh hI hry nry hrmv nrmv hrgd nrgd hfi hp hw
end Go.Ns
