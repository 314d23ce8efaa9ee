/- Rules and walks, part 3 of 7. No conditions. -/
import Derived.Carry
import Derived.Conc.LeavingOf
import Derived.LaidMore
import Derived.OpenShut
import Derived.Test.YteobolclmgpkcaaGreatDoorPOB
set_option linter.unusedVariables false
set_option linter.unusedSimpArgs false
set_option linter.unnecessarySimpa false
set_option linter.unusedSectionVars false
namespace Go.Ns
open Go.Conc
section
variable {P:Program} {E:Gq P} {O:Nat->Value} {ds:List Deferred} {h:GH} {T:(Nat->Value)->List Deferred->GH->Prop}
variable {dst:Option Nat} {ty:TypeId} {pos:String} {af:Array Edge} {gd:Option (Nat×Bool)}
def M5(P:Program)(e:TypeId):Option Nat:=(P.info? e).map (·.bytes)
theorem U5(z:Value)(n:Nat):(Array.range n).map (λi=>(#[z]:Array Value)[i%(#[z]:Array Value).size]!)=Array.replicate n z:=by
 apply Array.ext
 ·simp
 ·intro i h1 h2;simp [Nat.mod_one]
theorem Hy{t:TypeId}{l c:Operand}{N by_:Nat}{z:Value}{e:TypeId}(hs:DW P t=some (1,#[z],e))(hby:M5 P e=some by_)(hl:AQ O l=.int .i64 N)(hc:AQ O c=.int .i64 N)(hb:by_*N<=281474976710656)(hN2:N<=16777216)
  (k:∀r h',h r=none->h.Le h'->h' r=some (true,.cells (Array.replicate N z) e (0,0))->(∀b,b≠r->h' b=h b)->T (putS O dst (.slice (some ⟨r,0,none⟩) N N)) ds h'):Bb E ⟨dst,.makeSlice t l c,ty,pos,af,gd⟩ O ds h T:=by
 unfold Bb execOp;refine F3 ?_;unfold DW at hs;unfold Instr.makeSlice;rw [hl,hc];cases hu:P.underlying t with
 | none=>rw [hu] at hs;cases hs
 | some d=>
  rw [hu] at hs;cases d <;> first | (cases hs;done) | skip
  rename_i e'
  simp only at hs;cases ht:Cm P e' with
  | none=>rw [ht] at hs;cases hs
  | some x=>
   cases hz:B4 P e' with
   | none=>rw [ht,hz] at hs;cases hs
   | some z'=>
    rw [ht,hz] at hs;simp only [Option.some.injEq,Prod.mk.injEq] at hs;obtain ⟨hx2,rfl,rfl⟩:=hs;refine AF _ _ (An hu ?_);refine AF _ _ (Av ?_);refine AF _ _ (Av ?_);unfold M5 at hby;unfold B4 at hz;cases hi:P.info? e' with
    | none=>rw [hi] at hz;cases hz
    | some i=>
    rw [hi] at hz hby;simp only [Option.map_some,Option.some.injEq] at hby;simp only [Option.map_eq_some_iff] at hz;obtain ⟨v,hv,hvz⟩:=hz;refine AF _ _ (Cs hi ?_);have hw:IntKind.i64.wrap (N:Int)=N:=IntWalk.i64_in _ aA;simp only [hw,hby];have hb':((by_:Int)*(N:Int))<=281474976710656:=by rw [<-Int.natCast_mul];exact Int.ofNat_le.2 hb
    rw [if_neg (by simp;omega)];simp only [Int.toNat_natCast];have hask:∀(m:Nat)(Q:Unit->GH->Prop),Q () h->(askRoom m).gh P h Q:=λm Q q=>by
     unfold askRoom;split
     ·exact ⟨rfl,q⟩
     ·exact q
    refine AF _ _ (hask _ _ ?_);refine AF _ _ (Gu (by rw [ht];rfl) ?_);dsimp only;rw [hx2,Nat.mul_one];by_cases hN:N=0
    ·subst hN;rw [if_pos rfl];refine AF _ _ (Av ?_);rw [show (Array.range 0).map (λi=>(#[]:Array Value)[i%(#[]:Array Value).size]!)=Array.replicate 0 z from aD];refine AF _ _ ?_;unfold newRow;refine AF _ _ (λr hr=>?_);exact k r _ hr (GH.Le.new hr _ _) (GH.set_same _ _ _ _) λb hb=>GH.set_ne _ _ _ hb
    rw [if_neg hN];unfold zeroValue;refine AF _ _ (AF _ _ (AF _ _ (Cs hi ?_)));rw [hv];refine Av ?_;refine AF _ _ (Av ?_);rw [hvz,U5];refine AF _ _ ?_;unfold newRow;refine AF _ _ (λr hr=>?_);exact k r _ hr (GH.Le.new hr _ _) (GH.set_same _ _ _ _) λb hb=>GH.set_ne _ _ _ hb
theorem Kk{V:Type}{enc:V->Array Value}{x:V}{z:Value}(he:enc x=#[z]):∀N:Nat,Dg enc (List.replicate N x)=List.replicate N z
 | 0=>rfl
 | N+1=>by
  have:=Kk he N
  unfold Dg at this ⊢;rw [List.replicate_succ,List.flatMap_cons,this,he];rfl
theorem AM.made{V:Type}{h h':GH}{r N:Nat}{t:TypeId}{enc:V->Array Value}{x:V}{z:Value}(hr:h r=none)(hb:h' r=some (true,.cells (Array.replicate N z) t (0,0)))(hN:N<=16777216)(he:enc x=#[z]) :
  AM h h' (.slice (some ⟨r,0,none⟩) N N) t 1 enc (List.replicate N x):=
 .inr ⟨r,N,_,by rw [List.length_replicate],hr,hb,aD,aD,by rw [List.length_replicate];omega,by rw [Kk he,List.length_replicate,Nat.mul_one];simp,λy hy=>by rw [(List.mem_replicate.1 hy).2,he];rfl⟩
end
def EP(nj:Nat)(k:Int):Int:=if¬(0<=k/\k<=(nj:Int)-1) then 6 else 0
def EQ(nj:Nat)(l:List Int)(k:Nat):Int:=if¬EP nj (l.getD k 0)=0 then EP nj (l.getD k 0) else if (l.take k).any (λx=>decide (l.getD k 0=x))=true then 5 else 0
def AV(nj:Nat)(l:List Int):Int:=C5 (EQ nj l) 0 l.length
def Gb(bag kinds:Int)(ps:List ByteArray)(ws:List AB)(js:List AK)(ns:List AJ)(l:List Int):Int:=
 if¬BV bag kinds ps ws js ns=0 then BV bag kinds ps ws js ns else AV js.length l
theorem Ov{nj:Nat}{k:Int}(h:EP nj k=0):0<=k/\k<nj:=by
 unfold EP at h;split at h
 ·cases h
 ·omega
theorem E1{nj:Nat}{l:List Int}(h:AV nj l=0)(k:Nat)(hk:k<l.length):0<=l.getD k 0/\l.getD k 0<nj:=by
 have h1:=DZ h k (Nat.zero_le _) aA;unfold EQ at h1;split at h1
 ·rename_i a;exact absurd h1 a
 ·rename_i a;exact Ov (Decidable.not_not.1 a)
def D8(out ps:List Int):Nat->List Int
 | 0=>out
 | i+1=>(D8 out ps i).set i ((D8 out ps i).getD i 0+ps.getD i 0)
def Be(kinds:Int)(js:List AK)(l:List Int):Nat->List Int
 | 0=>List.replicate kinds.toNat 0
 | q+1=>D8 (Be kinds js l q) (js.getD (l.getD q 0).toNat AK.z).parts (js.getD (l.getD q 0).toNat AK.z).parts.length
def CK(kinds:Int)(js:List AK)(l:List Int):List Int:=Be kinds js l l.length
theorem M6(out ps:List Int):∀i,(D8 out ps i).length=out.length
 | 0=>rfl
 | i+1=>by rw [D8,List.length_set,M6 out ps i]
theorem RJ(out ps:List Int)(hl:ps.length=out.length):∀i,i<=ps.length->∀j,(D8 out ps i).getD j 0=if j<i then out.getD j 0+ps.getD j 0 else out.getD j 0
 | 0,_,j=>by rw [if_neg aA];rfl
 | i+1,h,j=>by
  have e:=RJ out ps hl i aA;have hn:=M6 out ps i;unfold D8;rw [List.getD_eq_getElem?_getD,List.getElem?_set];by_cases hij:i=j
  ·subst hij;rw [if_pos rfl,if_pos aA,if_pos aA,Option.getD_some,e i,if_neg aA]
  ·rw [if_neg hij,<-List.getD_eq_getElem?_getD,e j];by_cases h1:j<i
   ·rw [if_pos h1,if_pos aA]
   ·rw [if_neg h1,if_neg aA]
section
variable {bag kinds:Int} {ps:List ByteArray} {ws:List AB} {js:List AK} {ns:List AJ} {l:List Int}
theorem MI(b:Ay bag kinds ps ws js ns){k:Int}(h:0<=k/\k<js.length):JobOK ps.length kinds (js.getD k.toNat AK.z):=Kf (b.job k.toNat aA)
theorem IW(b:Ay bag kinds ps ws js ns):∀q,(Be kinds js l q).length=kinds.toNat
 | 0=>List.length_replicate
 | q+1=>by rw [Be,M6,IW b q]
theorem MJ(b:Ay bag kinds ps ws js ns)(hr:∀k,k<l.length->0<=l.getD k 0/\l.getD k 0<js.length):∀q,q<=l.length->∀j,0<=(Be kinds js l q).getD j 0/\(Be kinds js l q).getD j 0<=5*(q:Int)
 | 0,_,j=>by
  unfold Be;rw [List.getD_eq_getElem?_getD,List.getElem?_replicate];split <;> simp
 | q+1,h,j=>by
  have e:=MJ b hr q aA j;have x:=MI b (hr q aA);have x2:=x.part j;have x3:=x.len;unfold Be;rw [RJ _ _ (by rw [IW b q];omega) _ (Nat.le_refl _)];split <;> omega
theorem WD(b:Ay bag kinds ps ws js ns)(hr:∀k,k<l.length->0<=l.getD k 0/\l.getD k 0<js.length){q:Nat}(hq:q<l.length){i:Nat}(hi:i<(js.getD (l.getD q 0).toNat AK.z).parts.length) :
  (D8 (Be kinds js l q) (js.getD (l.getD q 0).toNat AK.z).parts i).length=(js.getD (l.getD q 0).toNat AK.z).parts.length/\0<=(D8 (Be kinds js l q) (js.getD (l.getD q 0).toNat AK.z).parts i).getD i 0/\(D8 (Be kinds js l q) (js.getD (l.getD q 0).toNat AK.z).parts i).getD i 0<=5*(q:Int)/\
  0<=(js.getD (l.getD q 0).toNat AK.z).parts.getD i 0/\(js.getD (l.getD q 0).toNat AK.z).parts.getD i 0<=5:=by
 have x:=MI b (hr q hq);have e:=MJ b hr q aA i;have x3:=x.len;have hl:=IW (l:=l) b q;refine ⟨by rw [M6,hl];omega,?_⟩;rw [RJ _ _ (by rw [hl];omega) i aA,if_neg aA];exact ⟨e.1,e.2,x.part i⟩
theorem RK(b:Ay bag kinds ps ws js ns):(CK kinds js l).length=kinds.toNat:=IW b _
theorem RL(b:Ay bag kinds ps ws js ns)(hr:∀k,k<l.length->0<=l.getD k 0/\l.getD k 0<js.length)(j:Nat):0<=(CK kinds js l).getD j 0/\(CK kinds js l).getD j 0<=5*(l.length:Int):=MJ b hr _ (Nat.le_refl _) j
theorem WE(xs:List Int){k:Nat}(h:k<xs.length):(xs.take (k+1)).sum=(xs.take k).sum+xs.getD k 0:=by
 rw [List.take_add_one,List.sum_append,List.getD_eq_getElem?_getD,List.getElem?_eq_getElem h];simp
theorem sum_all(xs:List Int){k:Nat}(h:xs.length<=k):(xs.take k).sum=xs.sum:=by rw [List.take_of_length_le h]
theorem WF(h:Gb bag kinds ps ws js ns l=0):Ay bag kinds ps ws js ns/\∀k,k<l.length->0<=l.getD k 0/\l.getD k 0<js.length:=by
 unfold Gb at h;split at h
 ·rename_i a;exact absurd h a
 ·rename_i a;exact ⟨C2 (Decidable.not_not.1 a),E1 h⟩
def TW(bag kinds:Int)(ps:List ByteArray)(ws:List AB)(js:List AK)(ns:List AJ)(l:List Int):List Int:=if¬Gb bag kinds ps ws js ns l=0 then [] else CK kinds js l
def fitsR(bag kinds:Int)(ps:List ByteArray)(ws:List AB)(js:List AK)(ns:List AJ)(l:List Int):Bool:=if¬Gb bag kinds ps ws js ns l=0 then false else decide ((CK kinds js l).sum<=bag)
end
end Go.Ns
namespace Go.Ns
open Go.Conc
section
variable {P:Program} {E:Gq P} {O:Nat->Value} {ds:List Deferred} {h:GH} {T:(Nat->Value)->List Deferred->GH->Prop}
variable {dst:Option Nat} {ty:TypeId} {pos:String} {af:Array Edge} {gd:Option (Nat×Bool)}
theorem MK{t kt vt:TypeId}{x ix:Operand}{r np:Nat}{ws:List AB}{pq:List AC}{q:AC}{a b:Int}{z:Value}(ht:Ml P t=some (kt,vt))(hx:AQ O x=.map (some r))(hk:AQ O ix=FJ (q.w5,a,b))(hm:EU h r np ws pq)
  (hc:∀a:FY,ckP P 4 kt (FJ a)=true)
  (he:∀a b:FY,Pb P 4 kt (FJ a) (FJ b)=some ((a.1.1==b.1.1 && (a.1.2.1==b.1.2.1 && (a.1.2.2.1==b.1.2.2.1 && (a.1.2.2.2.1==b.1.2.2.2.1 && (a.1.2.2.2.2==b.1.2.2.2.2 && true))))) && (a.2.1==b.2.1 && (a.2.2==b.2.2 && true))))
  (hz:(P.info? vt).bind (·.zero)=some z) (hq:q ∈ pq) (ha:0<=a/\a<np) (hb:0<=b/\b<np)
  (k:T (putS O dst (.int .i64 (Ar np ws q a.toNat b.toNat))) ds h):Bb E ⟨dst,.lookup t x ix false,ty,pos,af,gd⟩ O ds h T:=by
 obtain ⟨pm,M,hM,hF⟩:=hm;have e:=hF q hq a.toNat b.toNat aA aA;rw [Int.toNat_of_nonneg ha.1,Int.toNat_of_nonneg hb.1] at e;refine TK (d:=3) (a:=(q.w5,a,b)) ht hx hk hM rfl (hc _) (λb=>by rw [he,FY.eq_iff]) hz ?_;rw [e];exact k
theorem TX{V:Type}{t:TypeId}{x:Operand}{olo ohi:Option Operand}{n:Nat}{enc:V->Array Value}{xs:List V}{v:Value}{hk:GH}(lo hi:Nat)(ht:FA P t=some n)(hs:AO hk v n enc xs)(hx:AQ O x=v)
  (hlo:match olo with | none=>lo=0 | some o=>∃kd,AQ O o=.int kd lo) (hhi:match ohi with | none=>hi=xs.length | some o=>∃kd,AQ O o=.int kd hi) (h1:lo<=hi) (h2:hi<=xs.length)
  (k:∀v',AO hk v' n enc ((xs.take hi).drop lo)->T (putS O dst v') ds h):Bb E ⟨dst,.slice t x olo ohi none,ty,pos,af,gd⟩ O ds h T:=by
 have hs':=hs;obtain ⟨a,cap,rfl,hc,_,_⟩:=hs';exact LM lo hi ht hc hx hlo hhi h1 h2 (k _ (hs.part h1 h2))
end
def U6(F:AC->Int)(l:List AC):Nat->Int
 | 0=>F (l.getD 0 AC.zero)
 | k+1=>min (U6 F l k) (F ((l.drop 1).getD k AC.zero))
def RM(F:AC->Int)(l:List AC):Nat->Int
 | 0=>F (l.getD 0 AC.zero)
 | k+1=>max (RM F l k) (F ((l.drop 1).getD k AC.zero))
def BY(F:AC->Int)(l:List AC):Int:=U6 F l (l.length-1)
def A3(F:AC->Int)(l:List AC):Int:=RM F l (l.length-1)
theorem TY{l:List AC}{k:Nat}(h:k<l.length-1):(l.drop 1).getD k AC.zero ∈ l:=List.mem_of_mem_drop (BL (by rw [List.length_drop];exact h))
def Cf(s v:Int):Int:=if s=0 then v else 0
theorem Hn(v:Int):Cf 0 v=v:=if_pos rfl
theorem Is{s v:Int}(h:¬s=0):Cf s v=0:=if_neg h
end Go.Ns
namespace Go.Ns
open Go.Conc
theorem RN:∀(n m:Nat)(f:Nat->Nat),(∀i,i<m->f i<n)->(∀i j,i<j->j<m->f i≠f j)->m<=n
 | 0,m,f,h,_=>by
  rcases Nat.eq_zero_or_pos m with e | e
  ·omega
  ·exact absurd (h 0 e) (Nat.not_lt_zero _)
 | n+1,m,f,h,d=>by
  rcases Nat.eq_zero_or_pos m with e | e
  ·omega
  ·have x:=RN n (m-1) (λi=>if f i=n then f (m-1) else f i) (λi hi=>by
    have h1:=h i aA;have h2:=h (m-1) aA;have h3:=d i (m-1) hi aA;show (if f i=n then f (m-1) else f i)<n;split <;> omega) (λi j hij hj=>by
    have h1:=d i j hij aA;have h2:=d i (m-1) aA aA;have h3:=d j (m-1) aA aA;show (if f i=n then f (m-1) else f i)≠(if f j=n then f (m-1) else f j);split <;> split <;> omega)
   omega
theorem ID{nj:Nat}{l:List Int}(h:AV nj l=0):l.length<=nj:=by
 refine RN nj l.length (λk=>(l.getD k 0).toNat) (λi hi=>?_) λi j hij hj=>?_
 ·have:=E1 h i hi
  show (l.getD i 0).toNat<nj;omega
 ·have hi:=E1 h i aA;have hj':=E1 h j hj;have h1:=DZ h j (Nat.zero_le _) aA;unfold EQ at h1;split at h1
  ·rename_i a;exact absurd h1 a
  ·split at h1
   ·cases h1
   ·rename_i a b
    show (l.getD i 0).toNat≠(l.getD j 0).toNat;intro e;refine b (List.any_eq_true.2 ⟨l.getD i 0,?_,decide_eq_true aA⟩);rw [List.mem_iff_getElem];refine ⟨i,by rw [List.length_take];omega,?_⟩;rw [List.getElem_take,List.getD_eq_getElem?_getD,List.getElem?_eq_getElem aA];rfl
def Dv(js:List AK)(l:List Int):Nat->Int
 | 0=>0
 | q+1=>(js.getD (l.getD q 0).toNat AK.z).place
def Aw(np:Nat)(ws:List AB)(js:List AK)(p:AC)(l:List Int):Nat->Int
 | 0=>0
 | q+1=>Aw np ws js p l q+(Ar np ws p (Dv js l q).toNat (js.getD (l.getD q 0).toNat AK.z).place.toNat+p.works (l.getD q 0).toNat)
def CV(np:Nat)(ws:List AB)(js:List AK)(p:AC)(l:List Int):Nat->List Int
 | 0=>[]
 | q+1=>CV np ws js p l q++[Aw np ws js p l (q+1)]
def AI(np:Nat)(ws:List AB)(js:List AK)(p:AC)(l:List Int):Int:=Aw np ws js p l l.length+Ar np ws p (Dv js l l.length).toNat 0
theorem FK(np:Nat)(ws:List AB)(js:List AK)(p:AC)(l:List Int):∀q,(CV np ws js p l q).length=q
 | 0=>rfl
 | q+1=>by rw [CV,List.length_append,FK np ws js p l q];rfl
theorem IX(np:Nat)(ws:List AB)(js:List AK)(p:AC)(l:List Int):∀q i,i<q->(CV np ws js p l q).getD i 0=Aw np ws js p l (i+1)
 | 0,i,h=>absurd h (Nat.not_lt_zero _)
 | q+1,i,h=>by
  have hl:=FK np ws js p l q;rw [CV,List.getD_eq_getElem?_getD];by_cases e:i<q
  ·rw [List.getElem?_append_left aA,<-List.getD_eq_getElem?_getD];exact IX np ws js p l q i e
  ·have e2:i=q:=aA
   subst e2;rw [List.getElem?_append_right aA,hl,Nat.sub_self];rfl
section
variable {bag kinds:Int} {ps:List ByteArray} {ws:List AB} {js:List AK} {ns:List AJ} {l:List Int} {p:AC}
theorem Nz{np:Nat}(hp:BF p):(Ar np ws p).ok:=WB (MH hp)
theorem WG(b:Ay bag kinds ps ws js ns)(hr:∀k,k<l.length->0<=l.getD k 0/\l.getD k 0<js.length):∀q,q<=l.length->0<=Dv js l q/\Dv js l q<ps.length
 | 0,_=>by have:=b.plen;show (0:Int)<=0/\(0:Int)<_;omega
 | q+1,h=>by have:=(MI b (hr q aA)).place;show 0<=(js.getD (l.getD q 0).toNat AK.z).place/\(js.getD (l.getD q 0).toNat AK.z).place<ps.length;omega
theorem LP(hp:BF p):∀q,0<=Aw ps.length ws js p l q/\Aw ps.length ws js p l q<=1048606*(q:Int)
 | 0=>⟨Int.le_refl 0,Int.le_refl 0⟩
 | q+1=>by
  have e:=LP hp q;have f:=Nz (np:=ps.length) (ws:=ws) hp (Dv js l q).toNat (js.getD (l.getD q 0).toNat AK.z).place.toNat;have w:=hp.works (l.getD q 0).toNat;unfold Aw;omega
end
end Go.Ns
namespace Go.Ns
open Go.Conc
theorem EU.store{h h':GH}{q r np:Nat}{ws:List AB}{pq:List AC}(x:EU h r np ws pq)(ho:∀b,b≠q->h' b=h b)(n:r≠q):EU h' r np ws pq:=by
 obtain ⟨pm,M,⟨es,clk,hb,hl⟩,hM⟩:=x;exact ⟨pm,M,⟨es,clk,(ho r n).trans hb,hl⟩,hM⟩
def Vm(x:Int×Int):Array Value:=#[.int .i64 x.1,.int .i64 x.2]
section
variable (np:Nat) (ws:List AB) (js:List AK) (pq:List AC) (l:List Int)
def endLo(i:Nat):Int:=BY (λx=>Aw np ws js x l (i+1)) pq
def endHi(i:Nat):Int:=A3 (λx=>Aw np ws js x l (i+1)) pq
def Fh:Nat->List (Int×Int)
 | 0=>[]
 | q+1=>Fh q++[(endLo np ws js pq l q,endHi np ws js pq l q)]
theorem ML:∀q,(Fh np ws js pq l q).length=q
 | 0=>rfl
 | q+1=>by rw [Fh,List.length_append,ML q];rfl
def N0(i:Nat):Bool:=decide (endHi np ws js pq l i<=(js.getD (l.getD i 0).toNat AK.z).due)
def Bw(bag kinds:Int):Bool:=decide ((CK kinds js l).sum<=bag) && (List.range l.length).all (N0 np ws js pq l)
variable {np ws js pq l}
theorem onTime_of{q:Nat}(h:¬(js.getD (l.getD q 0).toNat AK.z).due<A3 (λx=>Aw np ws js x l ((q:Int).toNat+1)) pq):N0 np ws js pq l q=true:=decide_eq_true (Int.not_lt.1 h)
theorem onTime_no{q:Nat}(h:(js.getD (l.getD q 0).toNat AK.z).due<A3 (λx=>Aw np ws js x l ((q:Int).toNat+1)) pq):N0 np ws js pq l q=false:=decide_eq_false (Int.not_le.2 h)
variable {bag kinds:Int}
theorem YM(h:¬(CK kinds js l).sum<=bag):Bw np ws js pq l bag kinds=false:=by unfold Bw;rw [decide_eq_false h];rfl
theorem TZ{k:Nat}(hk:k<l.length)(h:(js.getD (l.getD k 0).toNat AK.z).due<A3 (λx=>Aw np ws js x l ((k:Int).toNat+1)) pq):Bw np ws js pq l bag kinds=false:=by
 unfold Bw;rw [Bool.and_eq_false_iff];refine .inr (Bool.eq_false_iff.2 λe=>?_)
 have:=List.all_eq_true.1 e k (List.mem_range.2 hk)
 rw [onTime_no h] at this;cases this
theorem safe_all{k:Nat}(h:¬¬(CK kinds js l).sum<=bag)(hs:∀j,j<k->N0 np ws js pq l j=true)(hk:l.length<=k):Bw np ws js pq l bag kinds=true:=by
 unfold Bw;rw [decide_eq_true (Decidable.not_not.1 h),Bool.true_and];exact List.all_eq_true.2 λj hj=>hs j (by have:=List.mem_range.1 hj;omega)
end
def CD:Nat->List Int
 | 0=>[]
 | k+1=>CD k++[(k:Int)]
theorem Cj:∀n,(CD n).length=n
 | 0=>rfl
 | n+1=>by rw [CD,List.length_append,Cj n];rfl
def BQ(nj:Nat)(l:List Int)(i:Int):Int:=if¬AV nj l=0 then AV nj l else if¬(0<=i/\i<=(l.length:Int)-1) then 1 else 0
theorem Ow{nj:Nat}{l:List Int}{i:Int}(h:BQ nj l i=0):AV nj l=0/\0<=i/\i<l.length:=by
 unfold BQ at h;split at h
 ·rename_i a;exact absurd h a
 ·rename_i a
  split at h
  ·cases h
  ·exact ⟨Decidable.not_not.1 a,aA⟩
section
variable (bag kinds:Int) (ps:List ByteArray) (ws:List AB) (js:List AK) (ns:List AJ) (l:List Int)
def Fs:List (Int×Int):=if¬AS bag kinds ps ws js ns (AV js.length l)=0 then [] else Fh ps.length ws js (AA ws js ns) l l.length
def Ed:Bool:=if¬AS bag kinds ps ws js ns (AV js.length l)=0 then false else Bw ps.length ws js (AA ws js ns) l bag kinds
def D9(i:Int):Int:=
 if¬AS bag kinds ps ws js ns (BQ js.length l i)=0 then 0 else if (js.getD (l.getD i.toNat 0).toNat AK.z).due<endLo ps.length ws js (AA ws js ns) l i.toNat then 1
 else if endHi ps.length ws js (AA ws js ns) l i.toNat<=(js.getD (l.getD i.toNat 0).toNat AK.z).due then 2 else 0
variable {bag kinds ps ws js ns l} {i:Int}
theorem late_yes(h0:AS bag kinds ps ws js ns (BQ js.length l i)=0)(h:(js.getD (l.getD i.toNat 0).toNat AK.z).due<BY (λx=>Aw ps.length ws js x l (i.toNat+1)) (AA ws js ns)):(1:Int)=D9 bag kinds ps ws js ns l i:=by
 unfold D9;rw [if_neg (λx=>x h0)];exact (if_pos h).symm
theorem late_no(h0:AS bag kinds ps ws js ns (BQ js.length l i)=0)(h:¬(js.getD (l.getD i.toNat 0).toNat AK.z).due<BY (λx=>Aw ps.length ws js x l (i.toNat+1)) (AA ws js ns))
  (h2:A3 (λx=>Aw ps.length ws js x l (i.toNat+1)) (AA ws js ns)<=(js.getD (l.getD i.toNat 0).toNat AK.z).due):(2:Int)=D9 bag kinds ps ws js ns l i:=by
 unfold D9;rw [if_neg (λx=>x h0)];exact ((if_neg h).trans (if_pos h2)).symm
theorem late_open(h0:AS bag kinds ps ws js ns (BQ js.length l i)=0)(h:¬(js.getD (l.getD i.toNat 0).toNat AK.z).due<BY (λx=>Aw ps.length ws js x l (i.toNat+1)) (AA ws js ns))
  (h2:¬A3 (λx=>Aw ps.length ws js x l (i.toNat+1)) (AA ws js ns)<=(js.getD (l.getD i.toNat 0).toNat AK.z).due):(0:Int)=D9 bag kinds ps ws js ns l i:=by
 unfold D9;rw [if_neg (λx=>x h0)];exact ((if_neg h).trans (if_neg h2)).symm
theorem WH(h0:¬AS bag kinds ps ws js ns (BQ js.length l i)=0):(0:Int)=D9 bag kinds ps ws js ns l i:=by unfold D9;rw [if_pos h0]
end
end Go.Ns
namespace Go.Ns
open Go.Conc
def HK(i:Nat)(pq:List AC):Nat->List Int
 | 0=>[]
 | k+1=>HK i pq k++[(pq.getD k AC.zero).works i]
theorem HV(i:Nat)(pq:List AC):∀k,(HK i pq k).length=k
 | 0=>rfl
 | k+1=>by rw [HK,List.length_append,HV i pq k];rfl
theorem RO{i:Nat}{pq:List AC}{k:Nat}(h:0<k):HK i pq k≠[]:=λe=>by
 have:=HV i pq k
 rw [e] at this;simp at this;omega
def N1(bag kinds:Int)(ps:List ByteArray)(ws:List AB)(js:List AK)(ns:List AJ)(i:Int):List Int:=
 if¬AS bag kinds ps ws js ns (EP js.length i)=0 then [] else Ds (C6 (HK i.toNat (AA ws js ns) (AA ws js ns).length))
end Go.Ns
namespace Go.Ns
open Go.Conc
theorem WI{h:GH}{r:Nat}{M:Int->Option Int}(x:C0 h r D0 D0 M):∃y,h r=some y:=by
 obtain ⟨es,clk,hb,_⟩:=x;exact ⟨_,hb⟩
def EA(ns:List AJ)(mask:Int)(k:Nat):List AJ:=((List.range k).filter (Og mask)).map λ(i:Nat)=>ns.getD i AJ.z
section
variable {ns:List AJ} {mask:Int} {k:Nat} {h:GH}
theorem pickN_t(hb:mask.fdiv (2 ^ k)%2=1):EA ns mask (k+1)=EA ns mask k++[ns.getD k AJ.z]:=by
 unfold EA;rw [KY (by unfold Og;rw [decide_eq_true hb]),List.map_append];rfl
theorem pickN_f(hb:¬mask.fdiv (2 ^ k)%2=1):EA ns mask (k+1)=EA ns mask k:=by
 unfold EA;rw [KZ (by unfold Og;rw [decide_eq_false hb])]
theorem Ta(ns:List AJ)(mask:Int)(k:Nat):(EA ns mask k).length<=k:=by
 unfold EA;rw [List.length_map]
 have:=List.length_filter_le (Og mask) (List.range k)
 rwa [List.length_range] at this
theorem WJ(ns:List AJ)(mask:Int)(k q:Nat)(hq:q<(EA ns mask k).length):∃i,i<k/\(EA ns mask k).getD q AJ.z=ns.getD i AJ.z:=by
 have hm:(EA ns mask k).getD q AJ.z ∈ EA ns mask k:=BL hq;unfold EA at hm ⊢;obtain ⟨i,hi,e⟩:=List.mem_map.1 hm;exact ⟨i,List.mem_range.1 (List.mem_filter.1 hi).1,e.symm⟩
theorem At.pick(x:At h ns)(mask:Int)(k:Nat):At h (EA ns mask k):=λq=>by
 by_cases hq:q<(EA ns mask k).length
 ·obtain ⟨i,_,e⟩:=WJ ns mask k q hq;rw [e];exact x i
 ·rw [List.getD_eq_getElem?_getD,List.getElem?_eq_none aA];exact At.nil h 0
theorem At.fine1(x:At h ns)(k:Nat):(CJ (ns.getD k AJ.z)).toList.all (·.oneCell')=true:=by
 show (((ns.getD k AJ.z).wv.oneCell') && (true && (true && true)))=true;rw [(AO.one (x k)).2];rfl
theorem At.fine(x:At h ns):∀y ∈ ns,(CJ y).toList.all (·.oneCell')=true:=λy hy=>by
 obtain ⟨i,hi,e⟩:=List.mem_iff_getElem.1 hy
 have:=x.fine1 i
 rw [List.getD_eq_getElem?_getD,List.getElem?_eq_getElem hi] at this;rw [<-e];exact this
theorem U7{nw:Nat}{ns ns':List AJ}{k i:Nat}(e:ns'.getD k AJ.z=ns.getD i AJ.z):Du nw ns' k=Du nw ns i:=by unfold Du;rw [e]
theorem Ay.pick{bag kinds:Int}{ps:List ByteArray}{ws:List AB}{js:List AK}(b:Ay bag kinds ps ws js ns)(mask:Int):Ay bag kinds ps ws js (EA ns mask ns.length):=
 { b with
  nlen:=Nat.le_trans (Ta ns mask ns.length) b.nlen
  note:=λk hk=>by
   obtain ⟨i,hi,e⟩:=WJ ns mask ns.length k hk;rw [U7 e];exact b.note i hi }
end
section
variable (ws:List AB) (js:List AK) (ns:List AJ)
def F5(x:Bool×List Int)(l:List Int):Bool:=x.1 && (decide ((x.2.length:Int)<l.length) || (decide ((l.length:Int)=x.2.length) && decide (0<Hf l x.2)))
def CI:Nat->Bool×List Int
 | 0=>(false,[])
 | q+1=>if F5 (CI q) (D1 (q:Int) ns.length)=true then CI q else if (AA ws js (EA ns (q:Int) ns.length)).length=0 then (true,D1 (q:Int) ns.length) else CI q
variable {ws js ns} {q:Nat}
theorem It(h:F5 (CI ws js ns q) (D1 (q:Int) ns.length)=true):CI ws js ns (q+1)=CI ws js ns q:=if_pos h
theorem Ox(h:F5 (CI ws js ns q) (D1 (q:Int) ns.length)=false)(h2:((AA ws js (EA ns (q:Int) ns.length)).length:Int)=0):CI ws js ns (q+1)=(true,D1 (q:Int) ns.length):=by
 rw [CI,if_neg (by rw [h];simp),if_pos aA]
theorem Oy(h:F5 (CI ws js ns q) (D1 (q:Int) ns.length)=false)(h2:¬((AA ws js (EA ns (q:Int) ns.length)).length:Int)=0):CI ws js ns (q+1)=CI ws js ns q:=by
 rw [CI,if_neg (by rw [h];simp),if_neg aA]
theorem tWorse_f1{x:Bool×List Int}{l:List Int}(h:x.1=false):F5 x l=false:=by unfold F5;rw [h];rfl
theorem tWorse_f2{x:Bool×List Int}{l:List Int}(h:¬(x.2.length:Int)<l.length)(h2:¬(l.length:Int)=x.2.length):F5 x l=false:=by
 unfold F5;rw [decide_eq_false h,decide_eq_false h2];simp
theorem tWorse_f3{x:Bool×List Int}{l:List Int}(h:¬(x.2.length:Int)<l.length)(h2:¬0<Hf l x.2):F5 x l=false:=by
 unfold F5;rw [decide_eq_false h,decide_eq_false h2];simp
theorem Tb{x:Bool×List Int}{l:List Int}(h:x.1=true)(h1:(x.2.length:Int)<l.length):F5 x l=true:=by
 unfold F5;rw [h,decide_eq_true h1];simp
theorem Tc{x:Bool×List Int}{l:List Int}(h:x.1=true)(h1:(l.length:Int)=x.2.length)(h2:0<Hf l x.2):F5 x l=true:=by
 unfold F5;rw [h,decide_eq_true h1,decide_eq_true h2];simp
theorem pow_16:∀{n:Nat},n<=4->(1:Int)<=(2:Int) ^ n/\(2:Int) ^ n<=16
 | 0,_=>aC
 | 1,_=>aC
 | 2,_=>aC
 | 3,_=>aC
 | 4,_=>aC
theorem RP:∀q,(CI ws js ns q).2.length<=ns.length
 | 0=>Nat.zero_le _
 | q+1=>by
  have e:=RP q;unfold CI;split
  ·exact e
  ·split
   ·exact TQ _ _
   ·exact e
def HL(bag kinds:Int)(ps:List ByteArray)(ws:List AB)(js:List AK)(ns:List AJ):List Int:=
 if¬BV bag kinds ps ws js ns=0 then [] else if (0:Int)<(AA ws js ns).length then [] else (CI ws js ns (2 ^ ns.length)).2
end
section
variable {bag kinds:Int} {ps:List ByteArray} {ws:List AB} {js:List AK} {ns:List AJ} {q:Nat}
theorem WK(h:¬BV bag kinds ps ws js ns=0):HL bag kinds ps ws js ns=[]:=if_pos h
theorem U8(h:(0:Int)<(AA ws js ns).length):HL bag kinds ps ws js ns=[]:=by
 unfold HL;rw [if_pos h];exact ite_self _
theorem WL(h:BV bag kinds ps ws js ns=0)(h1:¬(0:Int)<(AA ws js ns).length)(hq:¬(q:Int)<(2:Int) ^ ((ns.length:Int)).toNat)(hq2:(q:Int)<=(2:Int) ^ ((ns.length:Int)).toNat):HL bag kinds ps ws js ns=(CI ws js ns q).2:=by
 have e:((2 ^ ns.length:Nat):Int)=(2:Int) ^ ((ns.length:Int)).toNat:=by rw [Int.toNat_natCast,Int.natCast_pow];rfl
 rw [<-e] at hq hq2
 have:2 ^ ns.length=q:=aA
 unfold HL;rw [if_neg (λx=>x h),if_neg h1,this]
end
section
variable (ws:List AB) (js:List AK) (ns:List AJ)
abbrev Li(pq:List AC)(i:Nat):Nat->Int:=λk=>(pq.getD k AC.zero).ways i
def WM(pq:List AC)(i:Nat):Int:=Lu (Li pq i) pq.length
def Hz(pq:List AC)(k:Nat):Int×Int:=askTo (WM pq) (pq.length:Int) k
theorem Td{pq:List AC}{k:Nat}(h:WM pq k<(Hz pq k).2):Hz pq (k+1)=((k:Int),WM pq k):=if_pos h
theorem Te{pq:List AC}{k:Nat}(h:¬WM pq k<(Hz pq k).2):Hz pq (k+1)=Hz pq k:=if_neg h
def U9(bag kinds:Int)(ps:List ByteArray)(ws:List AB)(js:List AK)(ns:List AJ):Int:=if¬AS bag kinds ps ws js ns 0=0 then 0 else (Hz (AA ws js ns) ws.length).1
def Pj(bag kinds:Int)(ps:List ByteArray)(ws:List AB)(js:List AK)(ns:List AJ):Int:=if¬AS bag kinds ps ws js ns 0=0 then 0 else (Hz (AA ws js ns) ws.length).2
end
end Go.Ns
namespace Go.Ns
open Go.Conc
def M7(hs:GH)(k0 ln:Nat)(c:Array Value)(t:TypeId)(k:Nat)(v:Value)(h:GH):Prop:=k=k0->∃r,v=.slice (some ⟨r,0,none⟩) ln ln/\hs r=none/\h r=some (true,.cells c t (0,0))
theorem M7.mono(hs:GH)(k0 ln:Nat)(c:Array Value)(t:TypeId):∀k v h1 h2,GH.Le h1 h2->M7 hs k0 ln c t k v h1->M7 hs k0 ln c t k v h2:=λ_ _ _ _ l x e=>by
 obtain ⟨r,q1,q2,q3⟩:=x e;exact ⟨r,q1,q2,l.keep q3 rfl⟩
theorem LQ{P:Program}{E:Gq P}{O:Nat->Value}{ds:List Deferred}{hs hx:GH}{dst:Option Nat}{ty:TypeId}{pos:String}{af:Array Edge}{gd:Option (Nat×Bool)}{t:TypeId}{len n k0 k:Nat}{z cells:Array Value}{e:TypeId}{parts:Array (Nat×Operand)}
  (h0:DW P t=some (n,z,e)) (hl:len*n<=2 ^ 24) (hn:(len*n=0)=False) (hf:Instr.fill (λi=>some (i*n,n)) ((Array.range (len*n)).map (z[·%z.size]!)) (parts.map λ(i,x)=>(i,AQ O x)).toList=some cells) (l:hs.Le hx) :
  Bb E ⟨dst,.buildSlice t len parts,ty,pos,af,gd⟩ O ds hx λσ' ds' h'=>ds'=ds/\∃v,σ'=putS O dst v/\hx.Le h'/\M7 hs k0 len cells e k v h':=
 AW h0 hl hn hf λr h' hr le bx _=>⟨rfl,_,rfl,le,λ_=>⟨r,rfl,GH.Le.nothing l hr,bx⟩⟩
def LfW(hs:GH)(k0 ln:Nat)(c:Array Value)(t:TypeId)(n:Nat)(Fr:GH->Prop)(k:Nat)(v:Value)(h:GH):Prop:=M7 hs k0 ln c t k v h/\(k=n->Fr h)
theorem LfW.mono(hs:GH)(k0 ln:Nat)(c:Array Value)(t:TypeId)(n:Nat){Fr:GH->Prop}(m:∀h1 h2,GH.Le h1 h2->Fr h1->Fr h2):∀k v h1 h2,GH.Le h1 h2->LfW hs k0 ln c t n Fr k v h1->LfW hs k0 ln c t n Fr k v h2:=λ_ _ _ _ l x=>⟨M7.mono _ _ _ _ _ _ _ _ _ l x.1,λe=>m _ _ l (x.2 e)⟩
theorem YN{P:Program}{E:Gq P}{O:Nat->Value}{ds:List Deferred}{hs hx:GH}{dst:Option Nat}{ty:TypeId}{pos:String}{af:Array Edge}{gd:Option (Nat×Bool)}{t:TypeId}{len n k0 N:Nat}{z cells:Array Value}{e:TypeId}{parts:Array (Nat×Operand)}{Fr:GH->Prop}(hk:k0≠N)
  (h0:DW P t=some (n,z,e)) (hl:len*n<=2 ^ 24) (hn:(len*n=0)=False) (hf:Instr.fill (λi=>some (i*n,n)) ((Array.range (len*n)).map (z[·%z.size]!)) (parts.map λ(i,x)=>(i,AQ O x)).toList=some cells) (l:hs.Le hx) :
  Bb E ⟨dst,.buildSlice t len parts,ty,pos,af,gd⟩ O ds hx λσ' ds' h'=>ds'=ds/\∃v,σ'=putS O dst v/\hx.Le h'/\LfW hs k0 len cells e N Fr k0 v h':=
 AW h0 hl hn hf λr h' hr le bx _=>⟨rfl,_,rfl,le,λ_=>⟨r,rfl,GH.Le.nothing l hr,bx⟩,λe=>absurd e hk⟩
theorem tFg{P:Program}{E:Gq P}{l:List Oper}{n:Nat}{fl:Bool}{hs:GH}{ds:List Deferred}{Lw:Nat->Value->GH->Prop}{F:(Nat->Value)->GH->Prop}{π:List Nat}{O:Nat->Value}{h:GH}{m k g d:Nat}{dst:Option Nat}{op:Op}{ty:TypeId}{pos:String}{af:Array Edge}{v:Value}{w:Bool}{og:Oper}
  (hk:Lf m=(.p,k)) (ho:l[k]? =some ⟨dst,op,ty,pos,af,some (g,w)⟩) (h1:l[g]? =some og) (h2:og.dst=some d) (h3:O d=.bool w) (x:∀hx,Lw n undef hx->Um E ⟨dst,op,ty,pos,af,some (g,w)⟩ O ds hx v)
  (y:TD E l n fl hs ds Lw F (dK π) (putS O dst v) h):TD E l n fl hs ds Lw F (dK (m ::π)) O h:=by
 unfold dK;rw [hk];exact ⟨_,true,ho,Hu h1 h2 h3,λe=>(by cases e),λ_=>⟨v,x,y⟩⟩
theorem tWLg{P:Program}{E:Gq P}{l:List Oper}{n:Nat}{hs:GH}{ds:List Deferred}{Lw:Nat->Value->GH->Prop}{F:(Nat->Value)->GH->Prop}{π:List Nat}{O:Nat->Value}{h:GH}{m k g d:Nat}{dst:Option Nat}{op:Op}{ty:TypeId}{pos:String}{af:Array Edge}{w:Bool}{og:Oper}(hk:Lf m=(.w,k))(ho:l[k]? =some ⟨dst,op,ty,pos,af,some (g,w)⟩)(h1:l[g]? =some og)(h2:og.dst=some d)(h3:O d=.bool w)
  (x:Bb E ⟨dst,op,ty,pos,af,some (g,w)⟩ O ds h λσ' ds' h'=>ds'=ds/\∃v,σ'=putS O dst v/\Lw n undef h'/\TD E l n false hs ds Lw F (dK π) (putS O dst v) h'):TD E l n false hs ds Lw F (dK (m ::π)) O h:=by
 unfold dK;rw [hk];exact ⟨_,true,ho,Hu h1 h2 h3,λe=>(by cases e),λ_ hx hg=>by rw [hg.2 rfl];exact x⟩
def Ty(h:GH)(t:TypeId)(v:Value):Prop:=∀b,Cg v=some b->∃p c f,h b=some (p,.cells c t f)
def Bu(h:GH)(t:TypeId)(v:Value)(xs:List Int):Prop:=AO h v 1 eI xs/\Ty h t v
theorem Bu.le{h h':GH}{t:TypeId}{v:Value}{xs:List Int}(x:Bu h t v xs)(l:h.Le h'):Bu h' t v xs:=⟨x.1.le l,λb hb=>by
 obtain ⟨p,c,f,q⟩:=x.2 b hb;exact ⟨p,c,f,l.keep q rfl⟩⟩
theorem Bu.nil(h:GH)(t:TypeId):Bu h t (.slice none 0 0) []:=⟨AO.nil _ _ _,λb hb=>by cases hb⟩
theorem Bu.own{h0 h:GH}{t:TypeId}{v:Value}{xs:List Int}(o:AM h0 h v t 1 eI xs):Bu h t v xs:=⟨o.sl,λb hb=>by
 rcases o with ⟨rfl,_⟩ | ⟨b1,cap,c,rfl,_,h2,_⟩
 ·cases hb
 ·simp only [Cg,Option.some.injEq] at hb;subst hb;exact ⟨_,_,_,h2⟩⟩
theorem Bu.same{h h':GH}{t:TypeId}{w:Value}{xs:List Int}(x:Bu h t w xs)(key:∀b,Cg w=some b->h' b=h b):Bu h' t w xs:=by
 refine ⟨?_,λb hb=>by rw [key b hb];exact x.2 b hb⟩;obtain ⟨a,cap,hv,hc,hm,he⟩:=x.1;refine ⟨a,cap,hv,hc,hm,λi hi=>?_⟩;obtain ⟨b,off,h1,h2⟩:=he i hi;exact ⟨b,off,h1,h2.same (key b (by rw [hv,h1];rfl))⟩
theorem Bu.grown{V:Type}{h h' h0:GH}{v v':Value}{t t':TypeId}{n:Nat}{enc:V->Array Value}{ys:List V}(g:GR h h' v v')(o:AM h0 h v t' n enc ys)(ne:t'≠t){w:Value}{xs:List Int}(x:Bu h t w xs):Bu h' t w xs:=
 x.same λb hb=>by
  obtain ⟨p,c,f,q⟩:=x.2 b hb;rw [q];refine g.1 b _ q λe=>?_;rcases o with ⟨rfl,_⟩ | ⟨b1,cap,c1,rfl,_,h2,_⟩
  ·cases e
  ·simp only [Cg,Option.some.injEq] at e;subst e;rw [q] at h2;cases h2;exact ne rfl
theorem Bu.keepX{X:Nat->Prop}{h h':GH}{t:TypeId}{w:Value}{xs:List Int}(x:Bu h t w xs)(k:B2 X h h')(n:∀b,Cg w=some b->¬X b):Bu h' t w xs:=
 x.same λb hb=>by
  obtain ⟨p,c,f,q⟩:=x.2 b hb;rw [q];exact k.box q (n b hb) rfl
theorem Bu.store{h h':GH}{t t':TypeId}{w:Value}{xs:List Int}{r:Nat}{p:Bool}{c:Array Value}{f:Nat×Nat}(x:Bu h t w xs)(hr:h r=some (p,.cells c t' f))(ne:t'≠t)(ho:∀b,b≠r->h' b=h b):Bu h' t w xs:=
 x.same λb hb=>ho b λe=>by
  obtain ⟨p2,c2,f2,q⟩:=x.2 b hb;rw [e,hr] at q;cases q;exact ne rfl
def Bq(h:GH)(t:TypeId)(l:List Sl):Prop:=∀k,Bu h t (l.getD k Sl.z).1 (l.getD k Sl.z).2
theorem Bq.le{h h':GH}{t:TypeId}{l:List Sl}(x:Bq h t l)(e:h.Le h'):Bq h' t l:=λk=>(x k).le e
theorem Bq.nil(h:GH)(t:TypeId):Bq h t []:=λk=>by
 rw [Bc aD];exact Bu.nil _ _
theorem Gc{V:Type}(z:V)(a b:List V)(k:Nat):(a++b).getD k z=if k<a.length then a.getD k z else b.getD (k-a.length) z:=by
 simp only [List.getD_eq_getElem?_getD,List.getElem?_append];split <;> rfl
theorem Bq.app{h:GH}{t:TypeId}{l l':List Sl}(a:Bq h t l)(b:Bq h t l'):Bq h t (l++l'):=λk=>by
 rw [Gc];split
 ·exact a k
 ·exact b _
theorem Bq.one{h:GH}{t:TypeId}{x:Sl}(a:Bu h t x.1 x.2):Bq h t [x]:=λk=>by
 cases k with
 | zero=>exact a
 | succ k=>rw [Bc aD];exact Bu.nil _ _
theorem Bq.fine{h:GH}{t:TypeId}{l:List Sl}(a:Bq h t l):∀y ∈ l,(GM y).toList.all (·.oneCell')=true:=λy hy=>by
 obtain ⟨i,hi,e⟩:=List.mem_iff_getElem.1 hy;have z:=a i;rw [List.getD_eq_getElem?_getD,List.getElem?_eq_getElem hi] at z;have z2:Bu h t l[i].1 l[i].2:=z;rw [<-e];show ((l[i].1.oneCell') && true)=true;rw [(AO.one z2.1).2];rfl
theorem JP(a b:List Sl):Ap (a++b)=Ap a++Ap b:=by simp [Ap]
section
variable {V:Type} {hB:GH} {I:List V->(Nat->Prop)->GH->Prop} {S:GH->Prop} {X0 X X1:Nat->Prop} {h hc h':GH} {pre l:List V} {v v':Value}
def Jo(hB:GH)(X0 X:Nat->Prop)(h:GH)(v:Value):Prop:=∀b,Cg v=some b->¬X b/\(X0 b\/h b=none)/\hB b=none
theorem Ev.old(y:Ev hB I X0 h pre X hc){b:Nat}(e:hc b=none):X0 b\/h b=none:=by
 by_cases q:X0 b
 ·exact .inl q
 ·refine .inr ?_;cases hb:h b with
  | none=>rfl
  | some x=>
   obtain ⟨o',h1,_⟩:=y.keep b x.1 x.2 hb q;rw [e] at h1;cases h1
theorem Ev.fresh(P:Gl hB I)(y:Ev hB I X0 h pre X hc)(o:∀b,Cg v=some b->hc b=none):Jo hB X0 X h v:=λb hb=>⟨P.off y.inv (o b hb),y.old (o b hb),y.base.nothing (o b hb)⟩
theorem Jo.grown(f:Jo hB X0 X h v)(P:Gl hB I)(y:Ev hB I X0 h pre X hc)(g:GR hc h' v v'):Jo hB X0 X h v':=λb hb=>by
 rcases g.2 with e | ⟨⟨r,e1,e2⟩,_⟩
 ·exact f b (e▸hb)
 ·rw [e1] at hb;cases hb;exact ⟨P.off y.inv e2,y.old e2,y.base.nothing e2⟩
theorem Ev.app(P:Gl hB I)(y:Ev hB I X0 h pre X hc)(g:GR hc h' v v')(f:Jo hB X0 X h v):Ev hB I X0 h pre X h':=by
 have lB:hB.Le h':=λb p o hb=>by
  obtain ⟨o1,h1,h2⟩:=y.base b p o hb;exact ⟨o1,g.1 b _ h1 λe=>(by rw [(f b e).2.2] at hb;cases hb),h2⟩
 refine ⟨P.stable _ _ hc h' y.inv (λb hb=>?_) lB,y.sub,λb p o hb hn=>?_,lB⟩
 ·obtain ⟨p,o,h1,_⟩:=P.dom _ _ _ b y.inv hb;rw [h1];exact g.1 b _ h1 λe=>(f b e).1 hb
 ·obtain ⟨o1,h1,h2⟩:=y.keep b p o hb hn;exact ⟨o1,g.1 b _ h1 λe=>(f b e).2.1.elim hn λq=>(by rw [q] at hb;cases hb),h2⟩
theorem Ev.callL(y:Ev hB I X0 h pre X hc)(f:Jo hB X0 X h v){u:Value}(r:E5 hB I S pre (λb=>X b\/Cg v=some b) hc l u h') :
  ∃ok X',u=.bool ok/\(∀b,X' b->(X b\/Cg v=some b)\/hc b=none)/\B2 (λb=>X b\/Cg v=some b) hc h'/\(ok=true->Ev hB I X0 h (pre++l) X' h')/\(ok=false->∀l',E5 hB I S pre X0 h l' (.bool false) h'):=by
 obtain ⟨ok,X',hv,hs,hk,hl,h1,h2⟩:=r;have s:∀b,(X b\/Cg v=some b)->X0 b\/h b=none:=λb q=>q.elim (y.sub b) λe=>(f b e).2.1;have kk:B2 X0 h h':=y.keep.trans s hk;have ss:=subX s y.keep hs;exact ⟨ok,X',hv,hs,hk,λe=>⟨h1 e,ss,kk,hl⟩,λe l'=>⟨false,X',rfl,ss,kk,hl,(λx=>by cases x),λ_=>h2 e⟩⟩
end
structure RQ{P:Program}(W:Wk P)(hB:GH)(yv:Value)(t:TypeId)(I:List (List Int)->(Nat->Prop)->GH->Prop)(S:GH->Prop)(all:List (List Int)):Prop where
 prom:Gl hB I
 one:yv.cells=#[yv]
 call:∀pre p post X h v,all=pre++p ::post->I pre X h->hB.Le h->Bu h t v p->(∀b,Cg v=some b->¬X b/\hB b=none)->B0 W yv #[v] h (E5 hB I S pre (λb=>X b\/Cg v=some b) h [p])
section
variable {P:Program} {E:Gq P} {O:Nat->Value} {ds:List Deferred}
theorem Tf{t0:TypeId}{all:List (List Int)}{hB hc:GH}{J:List (List Int)->(Nat->Prop)->GH->Prop}{Stop:Code->GH->Prop}{Y0:Nat->Prop}{par:Tmp}{f:Operand}{assign body:Code}{Q:Post}
  (hrd:E.rd=none) (hpar:Nat.blt par E.N=true) (hJ:Gl hB J) (hB0:hB.Le hc) (j0:J [] Y0 hc)
  (hS:∀c (h h':GH) l lo,Stop c h->h l=some (true,.loop lo)->(∀b,b≠l->h' b=h b)->Stop c h')
  (src:∀(yv:Value)(I:List (List Int)->(Nat->Prop)->GH->Prop)(Sp:GH->Prop)(X:Nat->Prop)(h:GH),RQ E.wk hB yv t0 I Sp all->hB.Le h->I [] X h->B0 E.wk (AQ O f) #[yv] h λ_ h'=>YEnd hB I Sp all X h h')
  (round:∀(l d:Nat)(lo:Loop)(pre:List (List Int))(p:List Int)(post:List (List Int))(Y:Nat->Prop)(h:GH)(v:Value),all=pre++p ::post->J pre Y h->hB.Le h->hB l=none->¬Y l->h l=some (true,.loop lo)->Bu h t0 v p->(∀b,Cg v=some b->¬Y b/\hB b=none)->
   Tr ⟨E.wk,E.fn,some l,E.N⟩ assign (upd O par v) [] h λe σ' ds' h1=>e=.normal/\h1 l=some (true,.loop lo)/\∀h2,h2 l=some (true,.loop { lo with state:=.busy })->(∀b,b≠l->h2 b=h1 b)->
    Tr ⟨E.wk,E.fn,some l,E.N⟩ body σ' ds' h2 (V1 hB J Stop (pre++[p]) (λb=>Y b\/Cg v=some b) h l lo))
  (fin:∀(d l:Nat)(h':GH),hB.Le h'->hB d=none->hB l=none->hc d=none->h' d=some (true,.deferred (some []))->
   (∀Y,J all Y h'->(∀b,Y b->b≠d)->Q .normal O ({ target:=.collected d,args:=#[] } ::ds) h')/\
   (∀c,Stop c h'->match c with
    | .exit id=>Q (.exit id) O ({ target:=.collected d,args:=#[] } ::ds) h'
    | .ret=>Q .ret O ({ target:=.collected d,args:=#[] } ::ds) h'
    | _=>False)):Tr E (.rangeFunc f #[par] assign body) O ds hc Q:=by
 refine Mn hrd λt d l hs hd hl hne=>?_;have hl':hB l=none:=hB0.nothing hl;have hd':hB d=none:=hB0.nothing hd;let lo:Loop:={ state:=.ready,pending:=none,fn:=E.fn,tmps:=t,params:=#[par],assign,body,defers:=d };have nYl:¬Y0 l:=hJ.off j0 hl;have nYd:¬Y0 d:=hJ.off j0 hd;have hL1:((hc.set d true (.deferred (some []))).set l true (.loop lo)) l=some (true,.loop lo):=GH.set_same _ _ _ _;have hL2:((hc.set d true (.deferred (some []))).set l true (.loop lo)) d=some (true,.deferred (some [])):=by rw [GH.set_ne _ _ _ (Ne.symm hne)];exact GH.set_same _ _ _ _
 have hL3:∀b,b≠l->b≠d->((hc.set d true (.deferred (some []))).set l true (.loop lo)) b=hc b:=λb h1 h2=>by rw [GH.set_ne _ _ _ h1,GH.set_ne _ _ _ h2]
 have hLB:hB.Le ((hc.set d true (.deferred (some []))).set l true (.loop lo)):=(hB0.trans (GH.Le.new hd _ _)).trans (GH.Le.new (by rw [GH.set_ne _ _ _ hne];exact hl) _ _);have hI0:Of J l d lo [] (λb=>Y0 b\/b=l\/b=d) ((hc.set d true (.deferred (some []))).set l true (.loop lo)):=by
  refine ⟨Y0,hJ.stable _ _ hc _ j0 (λb hb=>hL3 b (λe=>nYl (e▸hb)) (λe=>nYd (e▸hb))) hLB,λb=>Iff.rfl,nYl,nYd,hL1,hL2⟩
 have prom:Gl hB (Of J l d lo):=by
  refine ⟨?_,?_⟩
  ·rintro pre X h b ⟨Y,j,hX,_,_,h1,h2⟩ hb;rcases (hX b).1 hb with h3 | rfl | rfl
   ·exact hJ.dom _ _ _ _ j h3
   ·exact ⟨_,_,h1,rfl⟩
   ·exact ⟨_,_,h2,rfl⟩
  ·rintro pre X h h' ⟨Y,j,hX,n1,n2,h1,h2⟩ same lB;refine ⟨Y,hJ.stable _ _ h h' j (λb hb=>same b ((hX b).2 (.inl hb))) lB,hX,n1,n2,?_,?_⟩
   ·rw [same l ((hX l).2 (.inr (.inl rfl)))];exact h1
   ·rw [same d ((hX d).2 (.inr (.inr rfl)))];exact h2
 have yk:RQ E.wk hB (.func (.yield l) #[] #[]) t0 (Of J l d lo) (TO Stop l d lo) all:=by
  refine ⟨prom,rfl,?_⟩;rintro pre p post X h v hall ⟨Y,j,hX,n1,n2,h1,h2⟩ lB hsv hvX;have nvl:Cg v≠some l:=λe=>by obtain ⟨_,_,_,q⟩:=hsv.2 l e;rw [h1] at q;cases q
  have nvd:Cg v≠some d:=λe=>by obtain ⟨_,_,_,q⟩:=hsv.2 d e;rw [h2] at q;cases q
  refine QD h1 rfl ?_;have ef:(lo.params.zip #[v]).foldl (λtmps x=>tmps.setIfInBounds x.1 x.2) lo.tmps=t.setIfInBounds par v:=by simp [lo]
  rw [ef];show Ba E.wk l E.fn (t.setIfInBounds par v) assign body h _;have hs':=hs.put hpar v;refine Ob (N:=E.N) hs'.1 ?_;have e0:(λi=>(t.setIfInBounds par v).getD i undef)=upd O par v:=funext hs'.2;rw [e0];refine LI ?_ (round l d lo pre p post Y h v hall j lB hl' n1 h1 hsv λb hb=>⟨λq=>(hvX b hb).1 ((hX b).2 (.inl q)),(hvX b hb).2⟩);rintro e σ' ds' ha ⟨rfl,ha1,hb⟩;refine ⟨rfl,lo,ha1,rfl,?_⟩;refine LI ?_ (hb _ (GH.set_same _ _ _ _) λb hb=>GH.set_ne _ _ _ hb);rintro e σ2 ds2 h3 ⟨g1,Y',g2,g3,g4,g5⟩;have hd3:h3 d=some (true,.deferred (some [])):=g3.box h2 (λq=>q.elim (λq=>q.elim n2 nvd) (λe=>hne e.symm)) rfl;have nl:¬Y' l:=λq=>(g2 l q).elim (λq=>q.elim n1 nvl) λe=>by rw [h1] at e;cases e
  have nd:¬Y' d:=λq=>(g2 d q).elim (λq=>q.elim n2 nvd) λe=>by rw [h2] at e;cases e
  have key:∀(lo2:Loop)(ok:Bool),(if ok then J (pre++[p]) Y' (h3.set l true (.loop lo2))/\lo2=lo else TO Stop l d lo (h3.set l true (.loop lo2)))->E5 hB (Of J l d lo) (TO Stop l d lo) pre (λb=>X b\/Cg v=some b) h [p] (.bool ok) (h3.set l true (.loop lo2)):=by
   intro lo2 ok hok;refine ⟨ok,λb=>Y' b\/b=l\/b=d,rfl,?_,?_,?_,?_,?_⟩
   ·rintro b (hb | rfl | rfl)
    ·exact (g2 b hb).imp (λq=>q.imp (λq=>(hX b).2 (.inl q)) id) id
    ·exact .inl (.inl ((hX _).2 (.inr (.inl rfl))))
    ·exact .inl (.inl ((hX _).2 (.inr (.inr rfl))))
   ·intro b q o hb hn;have nb:b≠l:=λe=>hn (.inl ((hX b).2 (.inr (.inl e))));rw [GH.set_ne _ _ _ nb];exact g3 b q o hb λq=>q.elim (λz=>z.elim (λz=>hn (.inl ((hX b).2 (.inl z)))) λz=>hn (.inr z)) nb
   ·exact g4.upd hl' λb hb=>GH.set_ne _ _ _ hb
   ·rintro rfl;simp only [if_true] at hok;obtain ⟨hj,rfl⟩:=hok;exact ⟨Y',hj,λb=>Iff.rfl,nl,nd,GH.set_same _ _ _ _,by rw [GH.set_ne _ _ _ (Ne.symm hne)];exact hd3⟩
   ·rintro rfl;simpa using hok
  have js:∀(lo2:Loop),J (pre++[p]) Y' h3->J (pre++[p]) Y' (h3.set l true (.loop lo2)):=λlo2 hj=>hJ.store hj nl (λb hb=>GH.set_ne _ _ _ hb) (g4.upd hl' λb hb=>GH.set_ne _ _ _ hb);have ss:∀c (lo2:Loop),Stop c h3->Stop c (h3.set l true (.loop lo2)):=λc lo2 hc=>hS c h3 _ l _ hc g1 λb hb=>GH.set_ne _ _ _ hb;refine ⟨_,g1,?_⟩;cases e with
  | normal=>exact key _ true (by simp only [if_true];exact ⟨js _ g5,rfl⟩)
  | exit id=>exact key _ false (by simp only [Bool.false_eq_true,if_false];exact ⟨_,ss _ _ g5,GH.set_same _ _ _ _,by rw [GH.set_ne _ _ _ (Ne.symm hne)];exact hd3⟩)
  | ret=>exact key _ false (by simp only [Bool.false_eq_true,if_false];exact ⟨_,ss _ _ g5,GH.set_same _ _ _ _,by rw [GH.set_ne _ _ _ (Ne.symm hne)];exact hd3⟩)
  | goto _=>exact g5.elim
  | panic _=>exact g5.elim
  | outgrown=>exact g5.elim
 refine (src _ _ _ _ _ yk hLB hI0).mono ?_;rintro v h' ⟨X',hs',hk,hl2,hor⟩;rcases hor with ⟨Y,j,hX,n1,n2,h1,h2⟩ | ⟨c,hst,h1,h2⟩
 ·refine ⟨lo,h1,rfl,?_⟩;show Q .normal O _ _;have hB':=hl2.upd hl' (λb hb=>GH.set_ne h' true (.loop { lo with state:=.exhausted }) hb);refine (fin d l _ hB' hd' hl' hd (by rw [GH.set_ne _ _ _ (Ne.symm hne)];exact h2)).1 Y (hJ.store j n1 (λb hb=>GH.set_ne _ _ _ hb) hB') λb hb e=>n2 (e▸hb)
 ·refine ⟨_,h1,rfl,?_⟩;have hB':=hl2.upd hl' (λb hb=>GH.set_ne h' true (.loop { { lo with state:=.done,pending:=some c } with state:=.exhausted }) hb)
  have:=(fin d l _ hB' hd' hl' hd (by rw [GH.set_ne _ _ _ (Ne.symm hne)];exact h2)).2 c (hS c h' _ l _ hst h1 λb hb=>GH.set_ne _ _ _ hb)
  cases c with
  | exit id=>exact this
  | ret=>exact this
  | _=>exact this.elim
end
def Fi(l:List Int)(k:Int):Bool:=l.any (λx=>decide (k=x))
def BG(jobs:List Int):Nat->List Int->List (List Int)
 | 0,l=>[l]
 | f+1,l=>l ::jobs.flatMap λk=>if Fi l k=true then [] else BG jobs f (l++[k])
def CT(jobs:List Int):Nat->List Int->Int->List (List Int)
 | 0,_,_=>[]
 | f+1,l,k=>if Fi l k=true then [] else BG jobs f (l++[k])
theorem EH(jobs:List Int)(f:Nat)(l:List Int):BG jobs f l=l ::jobs.flatMap (CT jobs f l):=by
 cases f with
 | zero=>simp [BG,CT]
 | succ f=>rfl
def Bm(jobs:List Int):List (List Int):=BG jobs jobs.length []
def MM(jobs l:List Int):Nat:=(jobs.filter λk=> !Fi l k).length
theorem WN(l:List Int)(k j:Int):Fi (l++[k]) j=(Fi l j || decide (j=k)):=by simp [Fi]
theorem Oz{jobs l:List Int}{k:Int}(hk:k ∈ jobs)(h:Fi l k=false):MM jobs (l++[k])<MM jobs l:=by
 unfold MM;have key:∀js:List Int,(js.filter λj=> !Fi (l++[k]) j).length<=(js.filter λj=> !Fi l j).length/\(k ∈ js->(js.filter λj=> !Fi (l++[k]) j).length<(js.filter λj=> !Fi l j).length):=by
  intro js
  induction js with
  | nil=>exact ⟨Nat.le_refl _,λe=>by cases e⟩
  | cons j js ih=>
   obtain ⟨ih1,ih2⟩:=ih;rw [List.filter_cons,List.filter_cons,WN];by_cases e:j=k
   ·subst e;simp only [h,Bool.false_or,decide_true,Bool.not_true,Bool.false_eq_true,if_false,Bool.not_false,if_true,List.length_cons];exact ⟨aA,λ_=>aA⟩
   ·rw [decide_eq_false e,Bool.or_false];split
    ·simp only [List.length_cons];exact ⟨aA,λq=>by have:=ih2 ((List.mem_cons.1 q).resolve_left λz=>e z.symm);omega⟩
    ·exact ⟨ih1,λq=>ih2 ((List.mem_cons.1 q).resolve_left λz=>e z.symm)⟩
 exact (key jobs).2 hk
theorem YO{jobs:List Int}{i:Nat}{F:Int->List (List Int)}(hi:i<jobs.length):(jobs.take (i+1)).flatMap F=(jobs.take i).flatMap F++F (jobs.getD i 0):=by
 rw [B7 0 hi,List.flatMap_append];simp
theorem Cd.job{all pre:List (List Int)}{jobs:List Int}{f i:Nat}{l:List Int}(w:Cd all pre (BG jobs f l))(hi:i<jobs.length):Cd all (pre++[l]++(jobs.take i).flatMap (CT jobs f l)) (CT jobs f l (jobs.getD i 0)):=by
 rw [EH] at w;have w2:Cd all pre ([l]++((jobs.take i).flatMap (CT jobs f l)++(CT jobs f l (jobs.getD i 0)++(jobs.drop (i+1)).flatMap (CT jobs f l)))):=by
  rw [<-List.append_assoc (List.flatMap _ _),<-YO hi,<-List.flatMap_append,List.take_append_drop];exact w
 exact (w2.right.right).left
theorem Cd.head{all pre:List (List Int)}{jobs:List Int}{f:Nat}{l:List Int}(w:Cd all pre (BG jobs f l)):Cd all pre [l]:=by
 rw [EH] at w;exact Cd.left (a:=[l]) w
section
variable {jobs l:List Int} {f f' i:Nat} {k:Int} {all pre:List (List Int)}
theorem YP(hk:k ∈ jobs)(h:Fi l k=false)(hu:MM jobs l<=f):∃f',f=f'+1:=⟨f-1,by have:=Oz hk h;omega⟩
theorem M8(hf:f=f'+1)(h:Fi l k=false):CT jobs f l k=BG jobs f' (l++[k]):=by
 subst hf;exact if_neg (by rw [h];simp)
theorem Sx(h:Fi l k=true):CT jobs f l k=[]:=by
 cases f with
 | zero=>rfl
 | succ f=>exact if_pos h
theorem Sy(hi:i<jobs.length)(h:Fi l (jobs.getD i 0)=true):pre++[l]++(jobs.take (i+1)).flatMap (CT jobs f l)=pre++[l]++(jobs.take i).flatMap (CT jobs f l):=by
 rw [YO hi,Sx h,List.append_nil]
theorem VA(hi:i<jobs.length)(hf:f=f'+1)(h:Fi l (jobs.getD i 0)=false):pre++[l]++(jobs.take (i+1)).flatMap (CT jobs f l)=(pre++[l]++(jobs.take i).flatMap (CT jobs f l))++BG jobs f' (l++[jobs.getD i 0]):=by
 rw [YO hi,M8 hf h,<-List.append_assoc]
theorem roundsEnd(hi:jobs.length<=i):pre++BG jobs f l=pre++[l]++(jobs.take i).flatMap (CT jobs f l):=by
 rw [List.take_of_length_le hi,EH];simp
theorem Cd.go(w:Cd all pre (BG jobs f l))(hi:i<jobs.length)(hf:f=f'+1)(h:Fi l (jobs.getD i 0)=false):Cd all (pre++[l]++(jobs.take i).flatMap (CT jobs f l)) (BG jobs f' (l++[jobs.getD i 0])):=by
 have z:=w.job hi
 rwa [M8 hf h] at z
end
end Go.Ns
namespace Go.Ns
open Go.Conc
theorem Hk.mem{h:GH}{l:List Sl}(a:Hk h l){x:Sl}(hx:x ∈ l):AO h x.1 1 eI x.2:=by
 obtain ⟨i,hi,e⟩:=List.mem_iff_getElem.1 hx;have z:=a i;rw [List.getD_eq_getElem?_getD,List.getElem?_eq_getElem hi] at z;have z2:AO h l[i].1 1 eI l[i].2:=z;rw [<-e];exact z2
theorem Bq.all{h:GH}{t:TypeId}{l:List Sl}(a:Bq h t l):Hk h l:=λk=>(a k).1
theorem Bq.drop1{h:GH}{t:TypeId}{l:List Sl}(a:Bq h t l):Bq h t (l.drop 1):=λk=>by
 rw [List.getD_eq_getElem?_getD,List.getElem?_drop,<-List.getD_eq_getElem?_getD];exact a (1+k)
theorem YQ{l:List Sl}{k:Nat}(h:k<l.length-1):(l.drop 1).getD k Sl.z ∈ l:=List.mem_of_mem_drop (BL (by rw [List.length_drop];exact h))
section
variable (G:List Int->Int) (l:List (List Int))
def CH:Nat->List Int×Int
 | 0=>(l.getD 0 [],G (l.getD 0 []))
 | k+1=>if G ((l.drop 1).getD k [])<(CH k).2 then ((l.drop 1).getD k [],G ((l.drop 1).getD k [])) else CH k
def CZ:List Int:=(CH G l (l.length-1)).1
end
section
variable {G:List Int->Int} {l:List Sl} {k:Nat}
theorem CE(l:List Sl):(Ap l).length=l.length:=List.length_map _
theorem O0(hk:k<l.length-1):((Ap l).drop 1).getD k []=((l.drop 1).getD k Sl.z).2:=by
 have e:(Ap l).drop 1=Ap (l.drop 1):=by unfold Ap;rw [List.map_drop]
 rw [e,CC (by rw [List.length_drop];exact hk)]
theorem M9(hk:k<l.length-1)(h:G ((l.drop 1).getD k Sl.z).2<(CH G (Ap l) k).2):CH G (Ap l) (k+1)=(((l.drop 1).getD k Sl.z).2,G ((l.drop 1).getD k Sl.z).2):=by
 rw [CH,O0 hk,if_pos h]
theorem NA(hk:k<l.length-1)(h:¬G ((l.drop 1).getD k Sl.z).2<(CH G (Ap l) k).2):CH G (Ap l) (k+1)=CH G (Ap l) k:=by
 rw [CH,O0 hk,if_neg h]
theorem WO(hk:k=l.length-1):CZ G (Ap l)=(CH G (Ap l) k).1:=by unfold CZ;rw [CE,hk]
end
theorem O1{G:List Int->Int}{l:List (List Int)}:∀k,k<l.length->(CH G l k).1 ∈ l
 | 0,h=>BL h
 | k+1,h=>by
  unfold CH;split
  ·exact List.mem_of_mem_drop (BL (by rw [List.length_drop];omega))
  ·exact O1 k aA
theorem YR{G:List Int->Int}{l:List (List Int)}(h:0<l.length):CZ G l ∈ l:=O1 _ aA
theorem RR:∀(n k:Nat),k<n->(CD n).getD k 0=(k:Int)
 | 0,k,h=>absurd h (Nat.not_lt_zero _)
 | n+1,k,h=>by
  have hl:=Cj n;rw [CD,List.getD_eq_getElem?_getD];by_cases e:k<n
  ·rw [List.getElem?_append_left aA,<-List.getD_eq_getElem?_getD];exact RR n k e
  ·have e2:k=n:=aA
   subst e2;rw [List.getElem?_append_right aA,hl,Nat.sub_self];rfl
theorem Jp{n:Nat}{x:Int}(h:x ∈ CD n):0<=x/\x<n:=by
 obtain ⟨i,hi,e⟩:=List.mem_iff_getElem.1 h;have hl:=Cj n
 have:=RR n i aA
 rw [List.getD_eq_getElem?_getD,List.getElem?_eq_getElem hi,Option.getD_some,e] at this;omega
theorem Km{jobs:List Int}:∀(f:Nat)(l:List Int),(∀x ∈ l,x ∈ jobs)->∀r ∈ BG jobs f l,(∀x ∈ r,x ∈ jobs)/\r.length<=l.length+f
 | 0,l,h,r,hr=>by
  rw [BG,List.mem_singleton] at hr;subst hr;exact ⟨h,Nat.le_refl _⟩
 | f+1,l,h,r,hr=>by
  rw [BG,List.mem_cons] at hr;rcases hr with rfl | hr
  ·exact ⟨h,aA⟩
  ·obtain ⟨k,hk,hr⟩:=List.mem_flatMap.1 hr;split at hr
   ·cases hr
   ·have:=Km f (l++[k]) (λx hx=>by
     rcases List.mem_append.1 hx with hx | hx
     ·exact h x hx
     ·rw [List.mem_singleton.1 hx];exact hk) r hr
    refine ⟨this.1,?_⟩;have e:=this.2;rw [List.length_append,List.length_singleton] at e;omega
theorem VB{jobs r:List Int}(h:r ∈ Bm jobs):(∀x ∈ r,x ∈ jobs)/\r.length<=jobs.length:=by
 have:=Km jobs.length [] (λx hx=>by cases hx) r h
 simpa using this
def VC(nj:Nat)(l:List Int):Prop:=(∀k,k<l.length->0<=l.getD k 0/\l.getD k 0<nj)/\l.length<=4
theorem Kn{n:Nat}{jobs r:List Int}(hj:∀x ∈ jobs,0<=x/\x<(n:Int))(hl:jobs.length<=4)(h:r ∈ Bm jobs):VC n r:=by
 obtain ⟨h1,h2⟩:=VB h;exact ⟨λk hk=>hj _ (h1 _ (BL hk)),aA⟩
theorem Ko{jobs:List Int}(hj:jobs.length<=4):∀(f:Nat)(l:List Int),f<=4->(BG jobs f l).length<=5 ^ f*1
 | 0,l,_=>Nat.le_refl _
 | f+1,l,hf=>by
  have key:∀js:List Int,(js.flatMap λk=>if Fi l k=true then [] else BG jobs f (l++[k])).length<=js.length*5 ^ f:=by
   intro js
   induction js with
   | nil=>simp
   | cons j js ih=>
    rw [List.flatMap_cons,List.length_append,List.length_cons,Nat.add_mul,Nat.one_mul,Nat.add_comm];refine Nat.add_le_add ih ?_;split
    ·exact Nat.zero_le _
    ·have:=Ko hj f (l++[j]) aA;omega
  rw [BG,List.length_cons];have h1:=key jobs;have h2:jobs.length*5 ^ f<=4*5 ^ f:=Nat.mul_le_mul_right _ hj;have h3:1<=5 ^ f:=Nat.one_le_pow _ _ aC;rw [Nat.pow_succ];omega
theorem H0{jobs:List Int}(hj:jobs.length<=4):(Bm jobs).length<=625:=by
 have h:=Ko hj jobs.length [] hj;have h2:5 ^ jobs.length<=5 ^ 4:=Nat.pow_le_pow_right aC hj;unfold Bm;omega
end Go.Ns
namespace Go.Ns
open Go.Conc
section
variable {P:Program} {M:Type} {F:Nu P M} {i:Option (Cx M)} {O:Nat->Value} {ds:List Deferred} {h:GH} {Q:QW M}
theorem trI_td{id:Nat}{l:List Oper}(n:Nat)(fl:Bool)(π:List Nat)(hm:P.follows .mixedOrders=true)
  (ok:QJ l (l.take n) 0 [] (λcls=>QK P F.N l n cls fl (dK π))=true) (x:TD (F.env i) l n fl h ds (λ_ _ _=>True) (λσ' h'=>Gm F l.toArray (l.drop n) i σ' ds h' Q) (dK π) O h):PR F (.region id l.toArray true) i O ds h Q:=by
 obtain ⟨cls,h1⟩:=IL ok;intro b k cs L t hb hr hl hs hq;exact AAO (E:=F.env i) n cls fl (dK π) hm (λ_ _ _ _ _ y=>y) trivial h1 x hb hr hs λσ' h' f t' ht'=>f n b k cs L t' (λj=>aD) hb hr hl ht' hq
def Jq(P:Program):Frame:={ (default:Frame) with fn:=P.funcs.size,defers:=[],mode:=.panicking [goexitEntry] }
theorem quit_bot:QuitsIn P 1 (G (Jq P) []):=.inr ⟨rfl,{ G (Jq P) [] with status:=.finished },λw=>by
 show unwind P false (Jq P) [] none w=_;have hcat:(Jq P).catches P=false:=by
  unfold Frame.catches
  have:P.funcs[(Jq P).fn]? =none:=Array.getElem?_eq_none (Nat.le_refl _)
  rw [this];rfl
 have hd:(Jq P).defers=[]:=rfl;have hmd:(Jq P).mode=.panicking [goexitEntry]:=rfl;unfold unwind;simp only [hd,hmd,hcat]
 rfl,rfl⟩
theorem WP{fn:Func}{f:FuncId}{args:Array Value}{t:Array Value}{ops:Array Oper}(hf:P.funcs[f]? =some fn)(hres:fn.results=#[]):QuitsIn P 4 (G (Cp (Frame.enter P f args .deferred) t [] [.inRegion ops []]) [Jq P]):=by
 refine .inr ⟨rfl,G (Cp (Frame.enter P f args .deferred) t [] []) [Jq P],λw=>by rw [A9];simp [stepG.exec,Cp,G],?_⟩;refine .inr ⟨rfl,G (E4 (Frame.enter P f args .deferred) t [] []) [Jq P],λw=>by rw [A9];simp [stepG.exec,Cp,E4,G,Frame.enter],?_⟩;refine .inr ⟨rfl,G (Jq P) [],λw=>?_,quit_bot⟩;show unwind P false (E4 (Frame.enter P f args .deferred) t [] []) [Jq P] none w=_;have hfn:(E4 (Frame.enter P f args .deferred) t [] []).fn=f:=rfl;have hk:(E4 (Frame.enter P f args .deferred) t [] []).kind=.deferred:=rfl;have hmd:(E4 (Frame.enter P f args .deferred) t [] []).mode=.returning:=rfl;have hd:(E4 (Frame.enter P f args .deferred) t [] []).defers=[]:=rfl;have r1:∀t,(results fn t).runT P w #[]=(.ok (.tuple #[]) w,#[]):=λt=>by
  unfold results;rw [hres];simp only [Array.mapM_empty];rfl
 unfold unwind;simp only [hd,hmd,hfn,hf,r1,GStep.after,doReturn,hk,seen_none];rfl
def Jr(F:Nu P M)(R:Code)(args:Array Value)(i:Option (Cx M))(O:Nat->Value)(h:GH):Prop:=∀t,Bf t F.N O->(F.wk i).K (G (Cp (Frame.enter P F.fn args .deferred) t [] [.code R]) [Jq P]) h
theorem N2{fn:Func}{c R:Code}{s:Cx M}{ars cap args:Array Value}(hm:F.main=false)(hrd:F.rd=none)(ha:ars++cap=args)(hf:P.funcs[F.fn]? =some fn)(hc:AN fn=true)(hb:fn.body=some (.seq c R))(hN:F.N=fn.ntmps)(hsz:args.size<=fn.ntmps)(hs:¬s.isDone)
  (x:PR F c (some s) (λi=>args.getD i undef) [] h λi e O ds h=>e=.normal/\ds=[]/\Jr F R args i O h):Fg P F.Rep F.W.K s false (born P { target:=.fn (.func F.fn) cap,args:=ars }) h:=by
 have hwk:∀s,(F.wk (some s)).K=Eb P false (I5 P F.Rep F.W.K s false):=λs=>by show Eb P F.main (I5 P F.Rep F.W.K s F.main)=_;rw [hm]
 rw [HO hs];refine Me _ _ _ _ rfl λw f=>⟨G (Frame.enter P F.fn args .deferred) [Jq P],w,#[],h,?_,Bv.refl f,?_⟩
 ·subst ha;have hi:(invoke (.fn (.func F.fn) cap) ars).runT P w #[]=(.ok (.enter F.fn (ars++cap)) w,#[]):=Uz hf hc w;show callDeferred P (Jq P) [] none { target:=.fn (.func F.fn) cap,args:=ars } w=_;unfold callDeferred;rw [if_neg aD];simp only [hi,seen_none];rfl
 have e0:Frame.enter P F.fn args .deferred=Cp (Frame.enter P F.fn args .deferred) (args++Array.replicate (fn.ntmps-args.size) undef) [] [.code (.seq c R)]:=by simp [Frame.enter,Cp,hf,hb]
 rw [e0,<-hwk s];refine Wk.go (Cp (Frame.enter P F.fn args .deferred) (args++Array.replicate (fn.ntmps-args.size) undef) [] (.code c ::.code R ::[])) (λw=>by rw [A9];simp [stepG.exec,Cp,G]) ?_;refine x (Frame.enter P F.fn args .deferred) [.code R] [Jq P] (λ_ _ _ _ _=>False) _ rfl hrd.symm (λi=>⟨λ_ _ _ q=>q.elim,λ_ _ _ _ q=>q.elim,λ_ _ _ _ _ _ q=>q.elim⟩) ⟨by rw [hN];simp;omega,λi=>?_⟩ ?_
 ·by_cases hi:i<args.size
  ·simp [Array.getD_eq_getD_getElem?,Array.getElem?_append_left hi]
  ·simp only [Array.getD_eq_getD_getElem?];rw [Array.getElem?_append_right aA,Array.getElem?_eq_none (show args.size<=i by omega),Array.getElem?_replicate];split <;> rfl
 ·rintro i e O ds h' ⟨rfl,rfl,z⟩ t' ht';exact z t' ht'
theorem last_send{fn:Func}{id:Nat}{o1 o2:Oper}{args:Array Value}{c:Nat}{m:M}{v z:Value}{hm:GH}{h1:GH}(hmn:F.main=false)(hrd:F.rd=none)(hf:P.funcs[F.fn]? =some fn)(hres:fn.results=#[])
  (hg1:o1.guard=none) (hd1:C9 o1.dst F.N=true) (hg2:o2.guard=none) (hdf1:DD o1.op=false) (hdf:DD o2.op=false) (hd2:C9 o2.dst F.N=true)
  (x:Bb (F.env (some (.send c m .done))) o1 O [] h λσ' ds' h'=>ds'=[]/\(∀w,(execOp (AQ σ') o2).runT P w #[]=(.ok (.comm #[scase c v z] true .send) w,#[]))/\GH.Split h' h1 hm/\F.Rep c m v hm) :
  Jr F (.region id [o1,o2].toArray false) args (some (.send c m .done)) O h:=by
 intro t hs;refine Wk.go (Cp (Frame.enter P F.fn args .deferred) t [] (.inRegion [o1,o2].toArray [0,1] ::[])) (λw=>by rw [A9];simp [stepG.exec,Cp,G,List.range_eq_range',Array.range];rfl) ?_;refine LJ (E:=F.env (some (.send c m .done))) (o:=o1) (rest:=[1]) rfl (by simp [Region.wanted,hg1]) (.inr hdf1) hd1 hs x ?_;rintro σ' ds' h' ⟨rfl,hr,hsp,hrep⟩ t' ht';refine Eb.stop ⟨_,[Jq P],v,z,hm,h1,rfl,⟨λw fw=>?_,hsp,hrep,4,?_⟩⟩
 ·rw [hmn];exact Ux ht' rfl (by simp [Region.wanted,hg2]) (.inr hdf) (hr w)
 ·rw [DE (ops:=[o1,o2].toArray) (i:=1) (o:=o2) rfl];exact WP hf hres
theorem run_close{dst:Option Nat}{x:Operand}{tys:Array TypeId}{ty:TypeId}{pos:String}{af:Array Edge}{gd:Option (Nat×Bool)}{ch s r:Nat}{w:World}(hx:AQ O x=.chan (some ch))(hw:w.heap[ch]? =some (.chan 0 #[] false s r false)) :
  (execOp (AQ O) ⟨dst,.call ⟨.builtin .close,#[x],tys⟩,ty,pos,af,gd⟩).runT P w #[]=(.ok (.value (.tuple #[])) { w with heap:=w.heap.setIfInBounds ch (.chan 0 #[] true s r false) },#[⟨.obj ch,false,true⟩,⟨.obj ch,true,true⟩]):=by
 have q:execOp (AQ O) ⟨dst,.call ⟨.builtin .close,#[x],tys⟩,ty,pos,af,gd⟩=builtin .close tys ty (#[x].map fun | .const _=>true | _=>false) (#[x].map (AQ O)):=by
  show (resolve (AQ O) _ ty).bind _=_;unfold resolve;rfl
 have e:(#[x].map (AQ O))=#[Value.chan (some ch)]:=by simp [hx]
 rw [q,e];show Sem.runT P (.getObj ch λo=>_) w #[]=_;unfold Sem.runT;rw [hw];show Sem.runT P (.setObj ch (.chan 0 #[] true s r false) _) w _=_;unfold Sem.runT;rw [hw];rfl
theorem RS{fn:Func}{id:Nat}{o1:Oper}{dst:Option Nat}{xo:Operand}{tys:Array TypeId}{ty:TypeId}{pos:String}{af:Array Edge}{args:Array Value}{c:Nat}(hmn:F.main=false)(hf:P.funcs[F.fn]? =some fn)(hres:fn.results=#[])
  (hg1:o1.guard=none) (hd1:C9 o1.dst F.N=true) (hdf1:DD o1.op=false)
  (x:Bb (F.env (some (.close c .done))) o1 O [] h λσ' ds' _=>ds'=[]/\AQ σ' xo=.chan (some c)) :
  Jr F (.region id [o1,⟨dst,.call ⟨.builtin .close,#[xo],tys⟩,ty,pos,af,none⟩].toArray false) args (some (.close c .done)) O h:=by
 intro t hs;refine Wk.go (Cp (Frame.enter P F.fn args .deferred) t [] (.inRegion [o1,⟨dst,.call ⟨.builtin .close,#[xo],tys⟩,ty,pos,af,none⟩].toArray [0,1] ::[])) (λw=>by rw [A9];simp [stepG.exec,Cp,G,List.range_eq_range',Array.range];rfl) ?_;refine LJ (E:=F.env (some (.close c .done))) (o:=o1) (rest:=[1]) rfl (by simp [Region.wanted,hg1]) (.inr hdf1) hd1 hs x ?_;rintro σ' ds' h' ⟨rfl,hx⟩ t' ht';refine Eb.stop ⟨_,[Jq P],Cp (Frame.enter P F.fn args .deferred) (Xn t' dst (.tuple #[])) [] [.inRegion [o1,⟨dst,.call ⟨.builtin .close,#[xo],tys⟩,ty,pos,af,none⟩].toArray []],[Jq P],rfl,⟨λw s r fw hw=>?_,rfl,4,WP hf hres⟩⟩;rw [hmn,QX ht' (ops:=[o1,⟨dst,.call ⟨.builtin .close,#[xo],tys⟩,ty,pos,af,none⟩].toArray) (n:=1) (o:=⟨dst,.call ⟨.builtin .close,#[xo],tys⟩,ty,pos,af,none⟩) rfl (by simp [Region.wanted]) (.inr rfl)];simp only [stepG.apply,run_close hx hw,if_true];have hk:((Cp (Frame.enter P F.fn args .deferred) t' [] [.inRegion [o1,⟨dst,.call ⟨.builtin .close,#[xo],tys⟩,ty,pos,af,none⟩].toArray [1]]).kind==CallKind.early)=false:=rfl;rw [DE (ops:=[o1,⟨dst,.call ⟨.builtin .close,#[xo],tys⟩,ty,pos,af,none⟩].toArray) (i:=1) rfl];simp only [hk,Bool.false_eq_true,if_false];show GStep.go _ _ (seen P _ _++ #[])=_;rw [YA];rfl
end
end Go.Ns
namespace Go.Ns
open Go.Conc
theorem Bq.at{h:GH}{t:TypeId}{l:List Sl}(a:Bq h t l){x:Sl}(hx:x ∈ l):Bu h t x.1 x.2:=by
 obtain ⟨i,hi,e⟩:=List.mem_iff_getElem.1 hx;have z:=a i;rw [List.getD_eq_getElem?_getD,List.getElem?_eq_getElem hi] at z;have z2:Bu h t l[i].1 l[i].2:=z;rw [<-e];exact z2
theorem Bq.of{h:GH}{t:TypeId}{l:List Sl}(a:∀x ∈ l,Bu h t x.1 x.2):Bq h t l:=λk=>by
 by_cases hk:k<l.length
 ·exact a _ (BL hk)
 ·rw [Bc aA];exact Bu.nil _ _
theorem Bq.grown{V:Type}{h h' h0:GH}{v v':Value}{t t':TypeId}{n:Nat}{enc:V->Array Value}{ys:List V}(g:GR h h' v v')(o:AM h0 h v t' n enc ys)(ne:t'≠t){l:List Sl}(x:Bq h t l):Bq h' t l:=λk=>(x k).grown g o ne
theorem Bq.store{h h':GH}{t t':TypeId}{l:List Sl}{r:Nat}{p:Bool}{c:Array Value}{f:Nat×Nat}(x:Bq h t l)(hr:h r=some (p,.cells c t' f))(ne:t'≠t)(ho:∀b,b≠r->h' b=h b):Bq h' t l:=λk=>(x k).store hr ne ho
theorem Bu.storeL{h h':GH}{t:TypeId}{w:Value}{xs:List Int}{r:Nat}{p:Bool}{lo:Loop}(x:Bu h t w xs)(hr:h r=some (p,.loop lo))(ho:∀b,b≠r->h' b=h b):Bu h' t w xs:=
 x.same λb hb=>ho b λe=>by
  obtain ⟨p2,c2,f2,q⟩:=x.2 b hb;rw [e,hr] at q;cases q
def Tg(hB:GH)(r:Nat)(T t t0:TypeId)(F:List Int->Bool)(pre:List (List Int))(Y:Nat->Prop)(h:GH):Prop:=
 ∃w l',h r=some (true,.cells #[w] T (0,0))/\AM hB h w t 1 GM l'/\BH w r/\hB r=none/\Ap l'=pre.filter F/\Bq h t0 l'/\∀b,Y b↔b=r\/Cg w=some b\/∃x ∈ l',Cg x.1=some b
section
variable {hB h h' ha hb:GH} {r:Nat} {T t t0:TypeId} {F:List Int->Bool} {pre:List (List Int)} {p:List Int} {w w' v:Value} {Y:Nat->Prop} {l':List Sl}
theorem RT(hB:GH)(r:Nat)(T t t0:TypeId)(F:List Int->Bool):Gl hB (Tg hB r T t t0 F):=by
 refine ⟨?_,?_⟩
 ·rintro pre Y h b ⟨w,l',h1,h2,h3,h0,h5,h6,h4⟩ hb;rcases (h4 b).1 hb with rfl | h7 | ⟨x,hx,h7⟩
  ·exact ⟨_,_,h1,rfl⟩
  ·obtain ⟨c,hc⟩:=h2.cellsAt b h7;exact ⟨_,_,hc,rfl⟩
  ·obtain ⟨q,c,f,hc⟩:=(h6.at hx).2 b h7;exact ⟨_,_,hc,rfl⟩
 ·rintro pre Y h h' ⟨w,l',h1,h2,h3,h0,h5,h6,h4⟩ same lB;refine ⟨w,l',by rw [same r ((h4 r).2 (.inl rfl))];exact h1,h2.keep λb o hb ho=>by rw [same b ((h4 b).2 (.inr (.inl hb)))];exact ho,h3,h0,h5,.of λx hx=>(h6.at hx).same λb hb=>same b ((h4 b).2 (.inr (.inr ⟨x,hx,hb⟩))),h4⟩
theorem O2(x:h r=some (true,.cells #[.slice none 0 0] T (0,0)))(h0:hB r=none):Tg hB r T t t0 F [] (λb=>b=r) h:=
 ⟨_,[],x,AM.nil _ _ _ _ _,BH.nil,h0,rfl,Bq.nil _ _,λ_=>⟨.inl,λq=>q.elim id λe=>e.elim (λe=>by cases e) λ⟨_,e,_⟩=>by cases e⟩⟩
theorem Th(hY:∀b,Y b↔b=r\/Cg w=some b\/∃x ∈ l',Cg x.1=some b)(g:GR ha hb w w')(hn:∀q,ha q=none->h q=none)(x:h' r=some (true,.cells #[w'] T (0,0)))(o:AM hB h' w' t 1 GM (l'++[(v,p)]))(f:BH w' r)(h0:hB r=none)
  (hl:Ap l'=pre.filter F) (hp:F p=true) (ta:Bq h' t0 (l'++[(v,p)])):∃Y',(∀b,Y' b->(Y b\/Cg v=some b)\/h b=none)/\Tg hB r T t t0 F (pre++[p]) Y' h':=by
 refine ⟨λb=>b=r\/Cg w'=some b\/∃x ∈ l'++[(v,p)],Cg x.1=some b,?_,w',_,x,o,f,h0,?_,ta,λ_=>Iff.rfl⟩
 ·rintro b (rfl | hb | ⟨y,hy,hb⟩)
  ·exact .inl (.inl ((hY _).2 (.inl rfl)))
  ·rcases g.2 with e | ⟨⟨q,e1,e2⟩,_⟩
   ·exact .inl (.inl ((hY _).2 (.inr (.inl (by rw [<-e];exact hb)))))
   ·rw [e1] at hb;cases hb;exact .inr (hn _ e2)
  ·rcases List.mem_append.1 hy with hy | hy
   ·exact .inl (.inl ((hY _).2 (.inr (.inr ⟨y,hy,hb⟩))))
   ·rw [List.mem_singleton.1 hy] at hb;exact .inl (.inr hb)
 ·rw [JP,hl,List.filter_append];simp [Ap,hp]
theorem YS(hY:∀b,Y b↔b=r\/Cg w=some b\/∃x ∈ l',Cg x.1=some b)(x:h' r=some (true,.cells #[w] T (0,0)))(o:AM hB h' w t 1 GM l')(f:BH w r)(h0:hB r=none)(hl:Ap l'=pre.filter F)(hp:F p=false)(ta:Bq h' t0 l') :
  ∃Y',(∀b,Y' b->(Y b\/Cg v=some b)\/h b=none)/\Tg hB r T t t0 F (pre++[p]) Y' h':=
 ⟨Y,λ_ q=>.inl (.inl q),w,l',x,o,f,h0,by rw [hl,List.filter_append];simp [hp],ta,hY⟩
end
def tVal:Dt->Value
 | .job i=>.int .i64 i
 | .res i b=>.agg #[.int .i64 i,.bool b]
 | .tick=>.bool true
def tOK(n:Nat):Dt->Prop
 | .job i=>i<n
 | .res i _=>i<n
 | .tick=>True
def PS(n:Nat):Nat->Dt->Value->GH->Prop:=λ_ m v hm=>v=tVal m/\tOK n m/\hm=λ_=>none
theorem GH.split_none(h:GH):GH.Split h h (λ_=>none) where
 left:=λb p o hb=>⟨p,hb,id⟩
 right:=λb p o hb=>by cases hb
 one:=λ_ _ _ _ hb=>by cases hb
 two:=λ_ _ _ hb _=>by cases hb
section
variable {cj co cd n k:Nat} {ok:Nat->Bool}
theorem feed_some(h:k<n):some (Hl cj (n-k) k)=some (.send cj (.job k) (Hl cj (n-(k+1)) (k+1))):=by
 rw [show n-k=(n-(k+1))+1 by omega];rfl
theorem feed_end(h:n<=k):some (Hl cj (n-k) k)=some (.close cj .done):=by rw [show n-k=0 by omega];rfl
theorem WQ:∀m k,¬(Hl cj m k).isDone
 | 0,_=>id
 | _+1,_=>id
theorem WR:∀m,¬(Fo cj co cd ok m).isDone
 | 0=>id
 | _+1=>id
theorem workF_not{m:Nat}:∀o,¬(V8 co cd ok (Fo cj co cd ok m) o).isDone
 | none=>id
 | some (.job _)=>id
 | some (.res _ _)=>id
 | some .tick=>id
theorem Ti:∀t,¬(ET co cd t).isDone
 | 0=>id
 | _+1=>id
theorem YT{t:Nat}:∀o,¬(Nv (ET co cd t) o).isDone
 | none=>id
 | some (.job _)=>id
 | some (.res _ _)=>id
 | some .tick=>Ti t
theorem WT:∀m R,¬(Fp co ok m R).isDone
 | 0,_=>id
 | _+1,_=>id
theorem ite_not{c:Prop}[Decidable c]{a b:Cx Dt}(ha:¬a.isDone)(hb:¬b.isDone):¬(if c then a else b).isDone:=by split <;> assumption
theorem mainF_not{m:Nat}{R:List Nat}:∀o,¬(Ir ok R (Fp co ok m) o).isDone
 | none=>ite_not id id
 | some (.job _)=>id
 | some .tick=>id
 | some (.res _ _)=>ite_not (WT _ _) id
theorem WU:∀m,¬(IT cj co cd n ok m).isDone
 | 0=>id
 | _+1=>id
theorem YU(h:k<3):some (ET co cd (3-k))=some (.recv cd (Nv (ET co cd (3-(k+1))))):=by
 rw [show 3-k=(3-(k+1))+1 by omega];rfl
theorem close_end(h:3<=k):some (ET co cd (3-k))=some (.close co .done):=by rw [show 3-k=0 by omega];rfl
theorem crew_some(h:k<3):some (IT cj co cd n ok (3-k))=some (.spawn (Fo cj co cd ok (n+1)) (IT cj co cd n ok (3-(k+1)))):=by
 rw [show 3-k=(3-(k+1))+1 by omega];rfl
theorem crew_end(h:3<=k):some (IT cj co cd n ok (3-k))=some (.spawn (ET co cd 3) (Fp co ok (n+1) (List.range n))):=by rw [show 3-k=0 by omega];rfl
end
def VD(n:Nat)(ok:Nat->Bool)(R:List Nat):List Bool:=(List.range n).map λi=>if i ∈ R then false else ok i
theorem isL_len(n:Nat)(ok:Nat->Bool)(R:List Nat):(VD n ok R).length=n:=by unfold VD;rw [List.length_map,List.length_range]
theorem isL_start(n:Nat)(ok:Nat->Bool):VD n ok (List.range n)=List.replicate n false:=by
 unfold VD;refine List.ext_getElem aD λi h1 h2=>?_
 have:i<n:=by simpa using h1
 simp [this]
theorem isL_put{n i:Nat}{ok:Nat->Bool}{R:List Nat}(hR:R.Nodup):(VD n ok R).set i (ok i)=VD n ok (R.erase i):=by
 unfold VD;refine List.ext_getElem aD λj h1 h2=>?_;rw [List.getElem_set];simp only [List.getElem_map,List.getElem_range,List.Nodup.mem_erase_iff hR];by_cases e:i=j
 ·subst e;simp
 ·rw [if_neg e]
  have:j≠i:=λq=>e q.symm
  simp [this]
theorem isL_end{n:Nat}{ok:Nat->Bool}{k:Nat}(hk:k<n):(VD n ok []).getD k false=ok k:=by
 unfold VD;rw [List.getD_eq_getElem?_getD,List.getElem?_map,List.getElem?_range hk];simp
def Js(fl:List Sl)(ok:Nat->Bool):Nat->List Sl
 | 0=>[]
 | k+1=>if ok k=true then Js fl ok k++[fl.getD k Sl.z] else Js fl ok k
theorem selS_t{fl:List Sl}{ok:Nat->Bool}{k:Nat}(h:ok k=true):Js fl ok (k+1)=Js fl ok k++[fl.getD k Sl.z]:=if_pos h
theorem selS_f{fl:List Sl}{ok:Nat->Bool}{k:Nat}(h:ok k=false):Js fl ok (k+1)=Js fl ok k:=if_neg (by rw [h];simp)
theorem WV(fl:List Sl)(ok:Nat->Bool):∀k,(Js fl ok k).length<=k
 | 0=>Nat.le_refl _
 | k+1=>by
  have:=WV fl ok k
  unfold Js;split
  ·rw [List.length_append,List.length_singleton];omega
  ·omega
theorem RU{fl:List Sl}{G:List Int->Bool}:∀k,k<=fl.length->Ap (Js fl (λi=>G (fl.getD i Sl.z).2) k)=((Ap fl).take k).filter G
 | 0,_=>rfl
 | k+1,h=>by
  have ih:=RU (fl:=fl) (G:=G) k aA;have e:(Ap fl).take (k+1)=(Ap fl).take k++[(fl.getD k Sl.z).2]:=by rw [B7 [] (by rw [CL];omega),CC (l:=fl) aA]
  unfold Js;rw [e,List.filter_append];by_cases q:G (fl.getD k Sl.z).2=true
  ·rw [if_pos q,JP,ih,List.filter_cons_of_pos q];rfl
  ·rw [if_neg q,ih,List.filter_cons_of_neg q,List.filter_nil,List.append_nil]
end Go.Ns
namespace Go.Ns
open Go.Conc
section
variable {P:Program} {M:Type} {F:Nu P M} {i i':Option (Cx M)} {O:Nat->Value} {ds:List Deferred} {h:GH} {Q:QW M}
theorem trI_ix{c:Code}(e:i=i')(x:PR F c i' O ds h Q):PR F c i O ds h Q:=e▸x
theorem Jt{ops:Array Oper}{l:List Oper}(e:i=i')(x:Gm F ops l i' O ds h Q):Gm F ops l i O ds h Q:=e▸x
theorem tr_of_trI{c:Code}{Q:Post}(x:PR F c none O ds h λi e O ds h=>i=none/\Q e O ds h):Tr ⟨F.W,F.fn,F.rd,F.N⟩ c O ds h Q:=by
 intro b k cs L t hb hr hl hs hc;refine x b k cs (λi=>match i with | none=>L | some _=>λ_ _ _ _=>False) t hb hr (λi=>?_) hs λi e σ' ds' h' q t' ht'=>?_
 ·cases i with
  | none=>exact hl
  | some s=>exact ⟨λ_ _ _ x=>x.elim,λ_ _ _ _ x=>x.elim,λ_ _ _ _ _ _ x=>x.elim⟩
 ·obtain ⟨rfl,q⟩:=q;exact hc e σ' ds' h' q t' ht'
theorem trI_end{c:Code}{Q:Post}(x:Tr (F.env none) c O ds h Q):PR F c none O ds h λi e O ds h=>i=none/\Q e O ds h:=
 JO (LI (λ_ _ _ _ q=>⟨rfl,q⟩) x)
variable {dst:Option Nat} {ty:TypeId} {pos:String} {af:Array Edge} {gd:Option (Nat×Bool)}
theorem RV{a x:Operand}{c:Nat}{v:Value}(ha:AQ O a=.chan (some c))(hx:AQ O x=v)(w:World):(execOp (AQ O) ⟨dst,.send a x,ty,pos,af,gd⟩).runT P w #[]=(.ok (.comm #[scase c v (.tuple #[])] true .send) w,#[]):=by
 subst hx;show (Result.ok (Next.comm #[{ chan:=AQ O a,send:=some (AQ O x),zero:=.tuple #[] }] true .send) w,#[])=_;rw [ha];rfl
theorem run_recv{a:Operand}{c:Nat}{t e:TypeId}{d:ChanDir}{ok:Bool}{z:Value}{inf:TypeInfo}(ht:P.underlying t=some (.chan d e))(hi:P.info? e=some inf)(hz:inf.zero=some z)(ha:AQ O a=.chan (some c))(w:World) :
  (execOp (AQ O) ⟨dst,.recv t a ok,ty,pos,af,gd⟩).runT P w #[]=(.ok (.comm #[rcase c z] true (.recv ok)) w,#[]):=by
 have h1:(zeroValue e).run P w=.ok z w:=by
  unfold zeroValue typeInfo;simp only [Sem.run_bind,program,hi];simp [Sem.run,hi,hz]
 have h2:(underlying t).run P w=.ok (.chan d e) w:=run_underlying ht w;rw [Sem.runT_eq];unfold execOp;simp [h1,h2,ha,rcase]
theorem N3{a:Operand}{c:Nat}{t e:TypeId}{d:ChanDir}{ok:Bool}{z:Value}(ht:P.underlying t=some (.chan d e))(hz:(P.info? e).map (·.zero)=some (some z))(ha:AQ O a=.chan (some c))(w:World) :
  (execOp (AQ O) ⟨dst,.recv t a ok,ty,pos,af,gd⟩).runT P w #[]=(.ok (.comm #[rcase c z] true (.recv ok)) w,#[]):=by
 obtain ⟨inf,hi,h2⟩:=Option.map_eq_some_iff.1 hz;exact run_recv ht hi h2 ha w
theorem YV{x:Operand}{f:Fn}{cap:Array Value}{tys:Array TypeId}(hx:AQ O x=.func f #[] cap)(w:World):(execOp (AQ O) ⟨dst,.go ⟨.value x,#[],tys⟩,ty,pos,af,gd⟩).runT P w #[]=(.ok (.spawn { target:=.fn f cap,args:=#[] }) w,#[]):=by
 have e:resolve (AQ O) ⟨.value x,#[],tys⟩ ty=(pure { target:=.fn f cap,args:=#[] }:Sem Deferred):=by
  unfold resolve;simp only [hx,Deferred.ofValue];simp
 unfold execOp;simp only [e];rfl
variable {E:Gq P} {T:(Nat->Value)->List Deferred->GH->Prop}
theorem Kp{t e:TypeId}{d:ChanDir}{n:Operand}(ht:P.underlying t=some (.chan d e))(hi0:(P.info? e).isSome=true)(hn:AQ O n=.int .i64 0)
  (k:∀r h',h r=none->h.Le h'->h' r=some (true,.chan 0 #[] false 0 0 false)->(∀b,b≠r->h' b=h b)->T (putS O dst (.chan (some r))) ds h'):Bb E ⟨dst,.makeChan t n,ty,pos,af,gd⟩ O ds h T:=by
 unfold Bb execOp;refine F3 ?_;unfold Instr.makeChan;rw [hn];refine AF _ _ (Av ?_);refine AF _ _ (An ht ?_);simp only [];obtain ⟨inf,hi⟩:=Option.isSome_iff_exists.1 hi0;refine AF _ _ (Cs hi ?_);rw [if_neg (by simp [IntKind.max];decide)];refine AF _ _ ?_;exact λr hr=>k r _ hr (GH.Le.new hr _ _) (GH.set_same _ _ _ _) λb hb=>GH.set_ne _ _ _ hb
end
section
variable {P:Program} {F:Nu P Dt} {i i':Option (Cx Dt)} {O:Nat->Value} {ds:List Deferred} {h:GH} {Q:QW Dt} {ops:Array Oper} {o:Oper} {l:List Oper} {n:Nat} {cj co cd c m k:Nat} {ok:Nat->Bool} {R:List Nat} {z:Value}
theorem Jr.ix{X:Code}{args:Array Value}(e:i=i')(x:Jr F X args i' O h):Jr F X args i O h:=e▸x
theorem H1:Gm F ops l (some .never) O ds h Q:=λ_ _ _ _ _ _ _ _ _ _ _ _=>Eb.stop rfl
theorem GH.join_none(h:GH):h.join (λ_=>none)=h:=by
 funext b;unfold GH.join;cases h b <;> rfl
theorem WW{s:Dt}{nx:Cx Dt}(hR:F.Rep=PS n)(hg:o.guard=none)(hdf:DD o.op=false)(hd:C9 o.dst F.N=true)(hr:∀w,(execOp (AQ O) o).runT P w #[]=(.ok (.comm #[scase c (tVal s) z] true .send) w,#[]))(hs:tOK n s)(hnx:¬nx.isDone)
  (x:Gm F ops l (some nx) (putS O o.dst undef) ds h Q):Gm F ops (o ::l) (some (.send c s nx)) O ds h Q:=
 trLI_send hg hdf hd hr (GH.split_none h) (by rw [hR];exact ⟨rfl,hs,rfl⟩) hnx x
theorem N4{f:Option Dt->Cx Dt}{r:Bool}(hR:F.Rep=PS n)(hg:o.guard=none)(hdf:DD o.op=false)(hd:C9 o.dst F.N=true)(hr:∀w,(execOp (AQ O) o).runT P w #[]=(.ok (.comm #[rcase c z] true (.recv r)) w,#[]))(hnx:∀o,¬(f o).isDone)
  (x:∀s,tOK n s->Gm F ops l (some (f (some s))) (putS O o.dst (recvd r (tVal s) true)) ds h Q) (y:Gm F ops l (some (f none)) (putS O o.dst (recvd r z false)) ds h Q):Gm F ops (o ::l) (some (.recv c f)) O ds h Q:=
 trLI_recv hg hdf hd hr hnx (λs v hm hrep _=>by
  rw [hR] at hrep;obtain ⟨rfl,h2,rfl⟩:=hrep;rw [GH.join_none];exact x s h2) y
theorem WX(hR:F.Rep=PS n)(hg:o.guard=none)(hdf:DD o.op=false)(hd:C9 o.dst F.N=true)(hr:∀w,(execOp (AQ O) o).runT P w #[]=(.ok (.comm #[rcase cj z] true (.recv true)) w,#[]))
  (x:∀i,i<n->Gm F ops l (some (.send co (.res i (ok i)) (Fo cj co cd ok m))) (putS O o.dst (.tuple #[.int .i64 i,.bool true])) ds h Q) (y:Gm F ops l (some (.send cd .tick .done)) (putS O o.dst (.tuple #[z,.bool false])) ds h Q) :
  Gm F ops (o ::l) (some (Fo cj co cd ok (m+1))) O ds h Q:=
 N4 (f:=V8 co cd ok (Fo cj co cd ok m)) hR hg hdf hd hr workF_not (λs hs=>by
  cases s with
  | job i=>exact x i hs
  | res i b=>exact H1
  | tick=>exact H1) y
theorem WY(hR:F.Rep=PS n)(hg:o.guard=none)(hdf:DD o.op=false)(hd:C9 o.dst F.N=true)(hr:∀w,(execOp (AQ O) o).runT P w #[]=(.ok (.comm #[rcase cd z] true (.recv false)) w,#[]))(hk:k<3)
  (x:Gm F ops l (some (ET co cd (3-(k+1)))) (putS O o.dst (.bool true)) ds h Q):Gm F ops (o ::l) (some (ET co cd (3-k))) O ds h Q:=
 Jt (YU hk) (N4 (f:=Nv (ET co cd (3-(k+1)))) hR hg hdf hd hr YT (λs _=>by
  cases s with
  | job i=>exact H1
  | res i b=>exact H1
  | tick=>exact x) H1)
theorem trLI_main(hR:F.Rep=PS n)(hg:o.guard=none)(hdf:DD o.op=false)(hd:C9 o.dst F.N=true)(hr:∀w,(execOp (AQ O) o).runT P w #[]=(.ok (.comm #[rcase co z] true (.recv true)) w,#[]))
  (x:∀i,i<n->i ∈ R->Gm F ops l (some (Fp co ok m (R.erase i))) (putS O o.dst (.tuple #[.agg #[.int .i64 i,.bool (ok i)],.bool true])) ds h Q) (y:R=[]->Gm F ops l (some .stop) (putS O o.dst (.tuple #[z,.bool false])) ds h Q) :
  Gm F ops (o ::l) (some (Fp co ok (m+1) R)) O ds h Q:=
 N4 (f:=Ir ok R (Fp co ok m)) hR hg hdf hd hr mainF_not (λs hs=>by
  cases s with
  | job i=>exact H1
  | tick=>exact H1
  | res i b=>
   by_cases e:i ∈ R/\b=ok i
   ·obtain ⟨e1,rfl⟩:=e;exact Jt (show some (Ir ok R (Fp co ok m) (some (.res i (ok i))))=some (Fp co ok m (R.erase i)) by unfold Ir;simp [e1]) (x i hs e1)
   ·exact Jt (show some (Ir ok R (Fp co ok m) (some (.res i b)))=some .never by show some (if i ∈ R/\b=ok i then _ else _)=_;rw [if_neg e]) H1) (by
  by_cases e:R=[]
  ·exact Jt (show some (Ir ok R (Fp co ok m) none)=some .stop by unfold Ir;rw [if_pos e]) (y e)
  ·exact Jt (show some (Ir ok R (Fp co ok m) none)=some .never by unfold Ir;rw [if_neg e]) H1)
end
theorem Ci.flags{h h':GH}{js:List AK}(s:h.Same h')(x:Ci h js):Ci h' js:=λk=>(x k).flags s
theorem At.flags{h h':GH}{ns:List AJ}(s:h.Same h')(x:At h ns):At h' ns:=λk=>(x k).flags s
theorem Hk.flags{h h':GH}{l:List Sl}(s:h.Same h')(a:Hk h l):Hk h' l:=λk=>(a k).flags s
theorem EU.flags{h h':GH}{r np:Nat}{ws:List AB}{pq:List AC}(s:h.Same h')(x:EU h r np ws pq):EU h' r np ws pq:=by
 obtain ⟨pm,M,⟨es,clk,hb,hl⟩,hM⟩:=x;obtain ⟨p',hb'⟩:=s _ _ _ hb;exact ⟨p',M,⟨es,clk,hb',hl⟩,hM⟩
theorem tr_lays5{P:Program}{E:Gq P}{id:Nat}{a0 a1 a2 a3 a4:Oper}{rest:List Oper}{d0 d1 d2 d3:Nat}{O:Nat->Value}{ds:List Deferred}{h:GH}{Q:Post}(o0 o1 o2 o3:Obj)(o4:Nat->Obj)(v0 v1 v2 v3:Nat->Value)(hm:P.follows .mixedOrders=true)
  (ok:GO E.N (a0 ::a1 ::a2 ::a3 ::a4 ::rest) 5 [[],[],[],[],[0,2,3]]=true)
  (g0:a0.guard=none) (g1:a1.guard=none) (g2:a2.guard=none) (g3:a3.guard=none) (g4:a4.guard=none) (e0:a0.dst=some d0) (e1:a1.dst=some d1) (e2:a2.dst=some d2) (e3:a3.dst=some d3)
  (l0:∀σ' h',Bb E a0 σ' ds h' λσ'' ds'' h''=>ds''=ds/\∃r,σ''=putS σ' a0.dst (v0 r)/\h' r=none/\h'.Le h''/\h'' r=some (true,o0)) (l1:∀σ' h',Bb E a1 σ' ds h' λσ'' ds'' h''=>ds''=ds/\∃r,σ''=putS σ' a1.dst (v1 r)/\h' r=none/\h'.Le h''/\h'' r=some (true,o1))
  (l2:∀σ' h',Bb E a2 σ' ds h' λσ'' ds'' h''=>ds''=ds/\∃r,σ''=putS σ' a2.dst (v2 r)/\h' r=none/\h'.Le h''/\h'' r=some (true,o2)) (l3:∀σ' h',Bb E a3 σ' ds h' λσ'' ds'' h''=>ds''=ds/\∃r,σ''=putS σ' a3.dst (v3 r)/\h' r=none/\h'.Le h''/\h'' r=some (true,o3))
  (l4:∀r0 r2 σ' h',σ' d0=v0 r0->σ' d2=v2 r2->h' r2=some (true,o2)->Bb E a4 σ' ds h' λσ'' ds'' h''=>ds''=ds/\σ''=σ'/\h'' r2=some (true,o4 r0)/\∀b,b≠r2->h'' b=h' b)
  (fin:∀(r0 r1 r2 r3:Nat) σ' h',h.Le h'->(h r0=none/\h' r0=some (true,o0)/\σ' d0=v0 r0)->(h r1=none/\h' r1=some (true,o1)/\σ' d1=v1 r1)->(h r2=none/\h' r2=some (true,o4 r0)/\σ' d2=v2 r2)->(h r3=none/\h' r3=some (true,o3)/\σ' d3=v3 r3)->
   (r0≠r1/\r0≠r2/\r0≠r3/\r1≠r2/\r1≠r3/\r2≠r3)->(∀t,(De (a0 ::a1 ::a2 ::a3 ::a4 ::rest) 5).contains t=false->σ' t=O t)->DQ E (a0 ::a1 ::a2 ::a3 ::a4 ::rest).toArray rest σ' ds h' Q):Tr E (.region id (a0 ::a1 ::a2 ::a3 ::a4 ::rest).toArray true) O ds h Q:=by
 let l:=a0 ::a1 ::a2 ::a3 ::a4 ::rest;let obj:Nat->Obj:=λi=>match i with | 0=>o0 | 1=>o1 | 2=>o2 | _=>o3
 let val:Nat->Nat->Value:=λi=>match i with | 0=>v0 | 1=>v1 | 2=>v2 | _=>v3
 have lay:∀i o,i<4->l[i]? =some o->∀σ' h',Bb E o σ' ds h' λσ'' ds'' h''=>ds''=ds/\∃r,σ''=putS σ' o.dst (val i r)/\h' r=none/\h'.Le h''/\h'' r=some (true,obj i):=by
  intro i o hi ho σ' h';rcases i with _ | _ | _ | _ | i
  ·cases ho;exact l0 σ' h'
  ·cases ho;exact l1 σ' h'
  ·cases ho;exact l2 σ' h'
  ·cases ho;exact l3 σ' h'
  ·omega
 have nd:(De l 5).Nodup:=by
  have:=ok
  unfold GO at this;simp only [Bool.and_eq_true] at this;exact of_decide_eq_true this.1.2
 refine Vw 5 [[],[],[],[],[0,2,3]] (λD σ' h'=>h.Le h'/\(D 4=true->D 0=true/\D 2=true)/\∃rs:Nat->Nat,(∀i,i<4->D i=true->h (rs i)=none/\h' (rs i)=some (true,if i=2/\D 4=true then o4 (rs 0) else obj i)/\∀o d,l[i]? =some o->o.dst=some d->σ' d=val i (rs i))/\
  (∀i j,i<4->j<4->D i=true->D j=true->i≠j->rs i≠rs j)/\∀t,(De l 5).contains t=false->σ' t=O t) hm ok ⟨GH.Le.refl _,(λe=>by cases e),λ_=>0,(λ_ _ q=>by cases q),(λ_ _ _ _ q=>by cases q),λ_ _=>rfl⟩ ?_ ?_
 ·rintro D σ' h' i o ⟨l1',hD4,rs,h1,h2,h3⟩ hi hD ho hcl _;have hgd:o.guard=none:=by
   rcases i with _ | _ | _ | _ | _ | i
   ·cases ho;exact g0
   ·cases ho;exact g1
   ·cases ho;exact g2
   ·cases ho;exact g3
   ·cases ho;exact g4
   ·omega
  refine ⟨λ_=>?_,λq=>absurd (by unfold DX;rw [hgd];trivial) q⟩;by_cases hi4:i=4
  ·subst hi4;have c0:D 0=true:=hcl 0 aD;have c2:D 2=true:=hcl 2 aD;cases ho;obtain ⟨q1,q2,q3⟩:=h1 0 aC c0;obtain ⟨p1,p2,p3⟩:=h1 2 aC c2;rw [if_neg (λe=>by rw [hD] at e;cases e.2)] at p2;refine (l4 (rs 0) (rs 2) σ' h' (q3 a0 d0 rfl e0) (p3 a2 d2 rfl e2) p2).mono λσ'' ds'' h'' q=>?_;obtain ⟨rfl,rfl,k1,k2⟩:=q;refine ⟨rfl,λb p x hb=>?_,λ_=>⟨by rw [Bs aC];exact c0,by rw [Bs aC];exact c2⟩,rs,λj hj hDj=>?_,λa b ha hb hDa hDb hab=>?_,h3⟩
   ·rw [k2 b λe=>by subst e;rw [p1] at hb;cases hb];exact l1' b p x hb
   ·rw [Bs aA] at hDj;obtain ⟨u1,u2,u3⟩:=h1 j hj hDj;refine ⟨u1,?_,u3⟩;by_cases ej:j=2
    ·subst ej;rw [if_pos ⟨rfl,if_pos rfl⟩];exact k1
    ·rw [if_neg (λe=>ej e.1),k2 _ (h2 j 2 hj aC hDj c2 ej)];rw [if_neg (λe=>ej e.1)] at u2;exact u2
   ·rw [Bs aA] at hDa hDb;exact h2 a b ha hb hDa hDb hab
  ·have hi':i<4:=aA
   refine (lay i o hi' ho σ' h').mono λσ'' ds'' h'' q=>?_;obtain ⟨rfl,r,rfl,hr,l2',hr2⟩:=q;have h4e:Hd D i 4=D 4:=Bs (λe=>hi4 e.symm);have hne:∀j,j<4->D j=true->rs j≠r:=λj hj hDj e=>by
    have:=(h1 j hj hDj).2.1
    rw [e,hr] at this;cases this
   refine ⟨rfl,l1'.trans l2',λe=>?_,λj=>if j=i then r else rs j,λj hj hDj=>?_,λa b ha hb hDa hDb hab=>?_,λt ht=>?_⟩
   ·rw [h4e] at e;obtain ⟨c0,c2⟩:=hD4 e;exact ⟨by rw [Bs (λq=>by subst q;rw [hD] at c0;cases c0)];exact c0,by rw [Bs (λq=>by subst q;rw [hD] at c2;cases c2)];exact c2⟩
   ·by_cases e:j=i
    ·subst e;dsimp only;rw [if_pos rfl];refine ⟨l1'.nothing hr,?_,λo' d ho' hd=>?_⟩
     ·rw [if_neg (λe=>by have e2:=e.2;rw [h4e] at e2;have e3:=(hD4 e2).2;rw [<-e.1,hD] at e3;cases e3)];exact hr2
     ·obtain rfl:o'=o:=Option.some.inj (ho'.symm.trans ho);rw [hd];exact upd_same _ _ _
    ·dsimp only;rw [if_neg e];rw [Bs e] at hDj;obtain ⟨q1,q2,q3⟩:=h1 j hj hDj;refine ⟨q1,?_,λo' d ho' hd=>by rw [C4 λd' hd'=>ED nd hi (aA:j<5) (λq=>e q.symm) ho ho' hd' hd];exact q3 o' d ho' hd⟩;rw [h4e];by_cases hc:j=2/\D 4=true
     ·rw [if_pos hc] at q2 ⊢;rw [if_neg (λq=>by have c0:=(hD4 hc.2).1;rw [q,hD] at c0;cases c0)];exact l2'.keep q2 rfl
     ·rw [if_neg hc] at q2 ⊢;exact l2'.keep q2 rfl
   ·show (if a=i then r else rs a)≠(if b=i then r else rs b);by_cases ea:a=i
    ·by_cases eb:b=i
     ·exact absurd (ea.trans eb.symm) hab
     ·rw [if_pos ea,if_neg eb];rw [Bs eb] at hDb;exact (hne b hb hDb).symm
    ·rw [Bs ea] at hDa;by_cases eb:b=i
     ·rw [if_neg ea,if_pos eb];exact hne a ha hDa
     ·rw [if_neg ea,if_neg eb];rw [Bs eb] at hDb;exact h2 a b ha hb hDa hDb hab
   ·rw [C4 (Hs hi ho ht)];exact h3 t ht
 ·rintro D σ' h' ⟨l1',hD4,rs,h1,h2,h3⟩ hall;have A:∀i,i<5->D i=true:=hall;have f0:=h1 0 aC (A 0 aC);have f1:=h1 1 aC (A 1 aC);have f2:=h1 2 aC (A 2 aC);have f3:=h1 3 aC (A 3 aC);rw [if_neg (λe=>by have:=e.1;omega)] at f0;rw [if_neg (λe=>by have:=e.1;omega)] at f1;rw [if_pos ⟨rfl,A 4 aC⟩] at f2;rw [if_neg (λe=>by have:=e.1;omega)] at f3;have ne:=λi j (hi:i<4) (hj:j<4)=>h2 i j hi hj (A i aA) (A j aA);exact fin (rs 0) (rs 1) (rs 2) (rs 3) σ' h' l1' ⟨f0.1,f0.2.1,f0.2.2 a0 d0 rfl e0⟩ ⟨f1.1,f1.2.1,f1.2.2 a1 d1 rfl e1⟩ ⟨f2.1,f2.2.1,f2.2.2 a2 d2 rfl e2⟩ ⟨f3.1,f3.2.1,f3.2.2 a3 d3 rfl e3⟩
   ⟨ne 0 1 aC aC aC,ne 0 2 aC aC aC,ne 0 3 aC aC aC,ne 1 2 aC aC aC,ne 1 3 aC aC aC,ne 2 3 aC aC aC⟩ h3
section
variable {h h' h0:GH} {r:Nat}
theorem GH.cut_ne{b:Nat}(e:b≠r):h.cut r b=h b:=if_neg e
theorem GH.Le.cut(l:h0.Le h)(n:h0 r=none):h0.Le (h.cut r):=λb p o hb=>by
 rw [GH.cut_ne λe=>by subst e;rw [n] at hb;cases hb];exact l b p o hb
theorem AM.cut{V:Type}{v:Value}{t:TypeId}{n:Nat}{enc:V->Array Value}{xs:List V}(x:AM h0 h v t n enc xs)(f:BH v r):AM h0 (h.cut r) v t n enc xs:=
 x.keep λb o hb ho=>by rw [GH.cut_ne λe=>by subst e;exact f hb];exact ho
theorem AM.del'{V:Type}{v:Value}{t:TypeId}{n:Nat}{enc:V->Array Value}{xs:List V}(x:AM h0 h v t n enc xs)(f:BH v r):AM h0 (h.del r) v t n enc xs:=
 x.keep λb o hb ho=>by rw [GH.del_ne λe=>by subst e;exact f hb];exact ho
theorem Bu.keep3{X:Nat->Prop}{t0 T t:TypeId}{n l:Nat}{w v:Value}{p q:Bool}{c:Array Value}{f:Nat×Nat}{lo:Loop}{ys:List Sl}{hB:GH}{ys':List Int}(x:Bu h t0 v ys')(k:B2 X h h')(hX:∀b,X b->(b=r\/Cg w=some b)\/b=l)(hr:h r=some (p,.cells c T f))(ow:AM hB h w t n GM ys)(hl:h l=some (q,.loop lo))(n1:T≠t0)(n2:t≠t0):Bu h' t0 v ys':=
 x.keepX k λb hb q2=>by
  obtain ⟨p2,c2,f2,e⟩:=x.2 b hb;rcases hX b q2 with (rfl | q3) | rfl
  ·rw [hr] at e;cases e;exact n1 rfl
  ·rcases ow with ⟨rfl,_⟩ | ⟨b1,cap,c1,rfl,_,h2,_⟩
   ·cases q3
   ·simp only [Cg,Option.some.injEq] at q3;subst q3;rw [h2] at e;cases e;exact n2 rfl
  ·rw [hl] at e;cases e
theorem B2.mono{X Y:Nat->Prop}(k:B2 X h h')(s:∀b,X b->Y b):B2 Y h h':=λb p o hb hn=>k b p o hb λx=>hn (s b x)
end
theorem rounds_ok{n:Nat}{fl:List Sl}(h:Ap fl=Bm (CD n))(hn:n<=4)(i:Nat):VC n (fl.getD i Sl.z).2:=by
 by_cases hi:i<fl.length
 ·refine Kn (λx hx=>Jp hx) (by rw [Cj];exact hn) (r:=(fl.getD i Sl.z).2) ?_;rw [<-h,<-CC hi];exact BL (by rw [CL];exact hi)
 ·rw [Bc aA];exact ⟨λk hk=>absurd hk (Nat.not_lt_zero _),Nat.zero_le _⟩
theorem Bu.storeD{h h':GH}{t:TypeId}{v:Value}{xs:List Int}{r:Nat}{p:Bool}{q:Option (List Deferred)}(x:Bu h t v xs)(hr:h r=some (p,.deferred q))(ho:∀b,b≠r->h' b=h b):Bu h' t v xs:=
 x.same λb hb=>ho b λe=>by
  obtain ⟨p2,c2,f2,z⟩:=x.2 b hb;rw [e,hr] at z;cases z
theorem Bq.storeD{h h':GH}{t:TypeId}{l:List Sl}{r:Nat}{p:Bool}{q:Option (List Deferred)}(x:Bq h t l)(hr:h r=some (p,.deferred q))(ho:∀b,b≠r->h' b=h b):Bq h' t l:=λk=>
 (x k).same λb hb=>ho b λe=>by
  obtain ⟨p2,c2,f2,z⟩:=(x k).2 b hb;rw [e,hr] at z;cases z
theorem selS_all{fl:List Sl}{G:List Int->Bool}{all:List (List Int)}{k:Nat}(h:Ap fl=all)(h1:k<=fl.length)(h2:fl.length<=k):Ap (Js fl (λi=>G (fl.getD i Sl.z).2) k)=all.filter G:=by
 rw [RU k h1,List.take_of_length_le (by rw [CL];exact h2),h]
theorem Bq.sel{h:GH}{t:TypeId}{fl:List Sl}{ok:Nat->Bool}{k:Nat}(a:Bq h t fl):Bq h t (Js fl ok k):=by
 induction k with
 | zero=>exact Bq.nil h t
 | succ k ih=>
  unfold Js;split
  ·exact Bq.app ih (Bq.one (a k))
  ·exact ih
end Go.Ns
namespace Go.Ns
theorem Kq{P:Program}{O:Nat->Value}{h:GH}{fn:Func}{R:Value->GH->Prop}{a u s:Tmp}{t:TypeId}{b off:Nat}{v v' v2:Value}(hr:fn.results=#[.tmp u,.cell a t,.tmp s])(hv:O u=v)(ha:O a=.pointer (some ⟨b,off,none⟩))(hv':Rd P h t b off v')(hv2:O s=v2)(x:R (.tuple #[v,v',v2]) h):Gr P fn O R [] h:=by
 unfold Gr;rw [hr];subst hv;subst hv2;exact ⟨b,off,v',ha,hv',x⟩
section
variable (np:Nat) (ws:List AB) (js:List AK) (pq:List AC) (bag kinds:Int)
def G4:List (List Int):=(Bm (CD js.length)).filter (λq=>Bw np ws js pq q bag kinds)
end
def Ju(g:List (List Int))(x:List Int):List (List Int):=if 0<g.length/\(g.getD 0 []).length<x.length then [] else g
def Jv(g:List (List Int))(x:List Int):List (List Int):=if g.length=0\/x.length=(g.getD 0 []).length then g++[x] else g
def FL(g:List (List Int))(x:List Int):List (List Int):=Jv (Ju g x) x
def Jw(l:List (List Int)):Nat->List (List Int)
 | 0=>[]
 | k+1=>FL (Jw l k) (l.getD k [])
def HW(g:List Sl)(x:Sl):List Sl:=if 0<g.length/\(g.getD 0 Sl.z).2.length<x.2.length then [] else g
def IY(g:List Sl)(x:Sl):List Sl:=if g.length=0\/x.2.length=(g.getD 0 Sl.z).2.length then g++[x] else g
def DK(g:List Sl)(x:Sl):List Sl:=IY (HW g x) x
def BI(l:List Sl):Nat->List Sl
 | 0=>[]
 | k+1=>DK (BI l k) (l.getD k Sl.z)
section
variable {l g:List Sl} {x:Sl} {k:Nat}
theorem RW(h0:0<g.length)(h1:(g.getD 0 Sl.z).2.length<x.2.length):DK g x=[x]:=by
 unfold DK HW;rw [if_pos ⟨h0,h1⟩];rfl
theorem RX(h0:0<g.length)(h1:x.2.length=(g.getD 0 Sl.z).2.length):DK g x=g++[x]:=by
 unfold DK HW;rw [if_neg (λe=>by have:=e.2;omega)];unfold IY;rw [if_pos (.inr h1)]
theorem RY(h0:0<g.length)(h1:x.2.length<(g.getD 0 Sl.z).2.length):DK g x=g:=by
 unfold DK HW;rw [if_neg (λe=>by have:=e.2;omega)];unfold IY;rw [if_neg];rintro (e | e) <;> omega
theorem RZ(h0:g.length=0):DK g x=g++[x]:=by
 unfold DK HW;rw [if_neg (λe=>by have:=e.1;omega)];unfold IY;rw [if_pos (.inl h0)]
theorem goodS_a(h0:0<(BI l k).length)(h1:((BI l k).getD 0 Sl.z).2.length<(l.getD k Sl.z).2.length):BI l (k+1)=[l.getD k Sl.z]:=RW h0 h1
theorem goodS_b(h0:0<(BI l k).length)(h1:(l.getD k Sl.z).2.length=((BI l k).getD 0 Sl.z).2.length):BI l (k+1)=BI l k++[l.getD k Sl.z]:=RX h0 h1
theorem goodS_c(h0:0<(BI l k).length)(h1:¬((BI l k).getD 0 Sl.z).2.length<(l.getD k Sl.z).2.length)(h2:¬(l.getD k Sl.z).2.length=((BI l k).getD 0 Sl.z).2.length):BI l (k+1)=BI l k:=RY h0 aA
theorem goodS_d(h0:(BI l k).length=0):BI l (k+1)=BI l k++[l.getD k Sl.z]:=RZ h0
theorem goodS_t(h1:¬(0<(BI l k).length/\((BI l k).getD 0 Sl.z).2.length<(l.getD k Sl.z).2.length))(h2:(BI l k).length=0\/(l.getD k Sl.z).2.length=((BI l k).getD 0 Sl.z).2.length):BI l (k+1)=BI l k++[l.getD k Sl.z]:=by
 by_cases h0:(BI l k).length=0
 ·exact goodS_d h0
 ·exact goodS_b aA aA
theorem goodS_f(h1:¬(0<(BI l k).length/\((BI l k).getD 0 Sl.z).2.length<(l.getD k Sl.z).2.length))(h2:¬((BI l k).length=0\/(l.getD k Sl.z).2.length=((BI l k).getD 0 Sl.z).2.length)):BI l (k+1)=BI l k:=goodS_c aA aA aA
theorem IZ(g:List Sl)(x:Sl):DK g x=[x]\/DK g x=g++[x]\/(DK g x=g/\0<g.length):=by
 by_cases h0:g.length=0
 ·exact .inr (.inl (RZ h0))
 ·by_cases h1:(g.getD 0 Sl.z).2.length<x.2.length
  ·exact .inl (RW aA h1)
  ·by_cases h2:x.2.length=(g.getD 0 Sl.z).2.length
   ·exact .inr (.inl (RX aA h2))
   ·exact .inr (.inr ⟨RY aA aA,aA⟩)
theorem goodS_pos:∀k,0<k->0<(BI l k).length
 | k+1,_=>by
  show 0<(DK (BI l k) (l.getD k Sl.z)).length;rcases IZ (BI l k) (l.getD k Sl.z) with e | e | ⟨e,h⟩ <;> rw [e]
  ·exact Nat.zero_lt_one
  ·rw [List.length_append];exact Nat.succ_pos _
  ·exact h
theorem Tj:∀k,(BI l k).length<=k
 | 0=>Nat.le_refl _
 | k+1=>by
  have ih:=Tj k;show (DK (BI l k) (l.getD k Sl.z)).length<=_;rcases IZ (BI l k) (l.getD k Sl.z) with e | e | ⟨e,_⟩ <;> rw [e]
  ·simp
  ·rw [List.length_append,List.length_singleton];omega
  ·omega
theorem N5:∀k,k<=l.length->∀y ∈ BI l k,y ∈ l
 | 0,_,y,hy=>by cases hy
 | k+1,hk,y,hy=>by
  have ih:=N5 k aA;have hx:l.getD k Sl.z ∈ l:=BL aA;change y ∈ DK (BI l k) (l.getD k Sl.z) at hy;rcases IZ (BI l k) (l.getD k Sl.z) with e | e | ⟨e,_⟩ <;> rw [e] at hy
  ·rw [List.mem_singleton.1 hy];exact hx
  ·rcases List.mem_append.1 hy with hy | hy
   ·exact ih y hy
   ·rw [List.mem_singleton.1 hy];exact hx
  ·exact ih y hy
theorem O3:∀k,k<=l.length->Ap (BI l k)=Jw (Ap l) k
 | 0,_=>rfl
 | k+1,hk=>by
  have ih:=O3 k aA;have hg:∀g:List Sl,(g.getD 0 Sl.z).2=(Ap g).getD 0 []:=λg=>by cases g <;> rfl
  show Ap (DK (BI l k) (l.getD k Sl.z))=FL (Jw (Ap l) k) ((Ap l).getD k []);rw [<-ih,CC aA];have hc:Ap (HW (BI l k) (l.getD k Sl.z))=Ju (Ap (BI l k)) (l.getD k Sl.z).2:=by
   unfold HW Ju;rw [hg,CL];split <;> rfl
  have ha:∀g:List Sl,Ap (IY g (l.getD k Sl.z))=Jv (Ap g) (l.getD k Sl.z).2:=λg=>by
   unfold IY Jv;rw [hg,CL];split
   ·rw [JP];rfl
   ·rfl
  show Ap (IY (HW (BI l k) (l.getD k Sl.z)) (l.getD k Sl.z))=Jv (Ju (Ap (BI l k)) _) _;rw [ha,hc]
end
theorem Bq.good{h:GH}{t:TypeId}{l:List Sl}{k:Nat}(a:Bq h t l)(hk:k<=l.length):Bq h t (BI l k):=.of λx hx=>a.at (N5 k hk x hx)
section
variable {np:Nat} {ws:List AB} {js:List AK} {pq:List AC} {bag kinds:Int} {fs:List Sl}
theorem safe_ok(h:Ap fs=G4 np ws js pq bag kinds)(hn:js.length<=4):∀x ∈ fs,VC js.length x.2:=λx hx=>by
 have:x.2 ∈ Ap fs:=List.mem_map_of_mem hx
 rw [h] at this;exact Kn (λy hy=>Jp hy) (by rw [Cj];exact hn) (List.mem_filter.1 this).1
theorem WZ(h:Ap fs=G4 np ws js pq bag kinds)(hn:js.length<=4)(i:Nat):VC js.length (fs.getD i Sl.z).2:=by
 by_cases hi:i<fs.length
 ·exact safe_ok h hn _ (BL hi)
 ·rw [Bc aA];exact ⟨λk hk=>absurd hk (Nat.not_lt_zero _),Nat.zero_le _⟩
theorem Wa(hb:0<=bag):Bw np ws js pq [] bag kinds=true:=by
 unfold Bw;have e:(CK kinds js []).sum=0:=by
  show (List.replicate kinds.toNat (0:Int)).sum=0;generalize kinds.toNat=n
  induction n with
  | zero=>rfl
  | succ n ih=>rw [List.replicate_succ,List.sum_cons,ih];rfl
 rw [e,decide_eq_true hb];rfl
theorem Ra(hb:0<=bag):0<(G4 np ws js pq bag kinds).length:=by
 refine List.length_pos_of_mem (a:=[]) (List.mem_filter.2 ⟨?_,Wa hb⟩);unfold Bm;rw [EH];exact List.mem_cons_self
theorem Rb(hn:js.length<=4):(G4 np ws js pq bag kinds).length<=625:=
 Nat.le_trans (List.length_filter_le _ _) (H0 (by rw [Cj];exact hn))
theorem Tk{G:List Int->Int}:∀(l:List (List Int)),0<l.length->∀k,k<=l.length-1->(CH G l k).1 ∈ l
 | l,h,0,_=>BL h
 | l,h,k+1,hk=>by
  unfold CH;split
  ·exact List.mem_of_mem_drop (BL (by rw [List.length_drop];omega))
  ·exact Tk l h k aA
theorem NB{n:Nat}{G:List Int->Int}{l:List Sl}(h:∀x ∈ l,VC n x.2)(hl:0<l.length):VC n (CZ G (Ap l)):=by
 have:=Tk (G:=G) (Ap l) (by rw [CL];exact hl) ((Ap l).length-1) (Nat.le_refl _)
 obtain ⟨x,hx,e⟩:=List.mem_map.1 this;unfold CZ;rw [<-e];exact h x hx
end
section
variable (bag kinds:Int) (ps:List ByteArray) (ws:List AB) (js:List AK) (ns:List AJ)
def YW:List Int:=CZ (λl=>A3 (λx=>AI ps.length ws js x l) (AA ws js ns)) (Jw (G4 ps.length ws js (AA ws js ns) bag kinds) (G4 ps.length ws js (AA ws js ns) bag kinds).length)
def BX:List Int:=if¬AS bag kinds ps ws js ns 0=0 then [] else YW bag kinds ps ws js ns
end
section
variable {bag kinds:Int} {ps:List ByteArray} {ws:List AB} {js:List AK} {ns:List AJ} {fs:List Sl} {k:Nat}
theorem best_end(h:Ap fs=G4 ps.length ws js (AA ws js ns) bag kinds)(h1:k<=fs.length)(h2:fs.length<=k):YW bag kinds ps ws js ns=CZ (λl=>A3 (λx=>AI ps.length ws js x l) (AA ws js ns)) (Ap (BI fs k)):=by
 unfold YW;rw [O3 k h1,h,<-h,CL,show fs.length=k by omega]
theorem Wb(h0:¬¬AS bag kinds ps ws js ns 0=0)(h:Ap fs=G4 ps.length ws js (AA ws js ns) bag kinds)(h1:k<=fs.length)(h2:fs.length<=k):BX bag kinds ps ws js ns=CZ (λl=>A3 (λx=>AI ps.length ws js x l) (AA ws js ns)) (Ap (BI fs k)):=(if_neg h0).trans (best_end h h1 h2)
end
def Rc(c:Fj)(l:List Int):Nat->Fj
 | 0=>c
 | i+1=>(Rc c l i).set (l.getD i 0).toNat true
def GL(ls:List (List Int)):Nat->Fj
 | 0=>Fj.none
 | k+1=>Rc (GL ls k) (ls.getD k []) (ls.getD k []).length
def DH(c:Fj):Nat->List Int
 | 0=>[]
 | q+1=>if c q=true then DH c q else DH c q++[(q:Int)]
theorem Wc{c:Fj}{q:Nat}(h:c q=true):DH c (q+1)=DH c q:=if_pos h
theorem Wd{c:Fj}{q:Nat}(h:c q=false):DH c (q+1)=DH c q++[(q:Int)]:=if_neg (by rw [h];simp)
theorem MN(c:Fj):∀q,(DH c q).length<=q
 | 0=>Nat.le_refl _
 | q+1=>by
  have:=MN c q
  unfold DH;split
  ·omega
  ·rw [List.length_append,List.length_singleton];omega
section
variable (bag kinds:Int) (ps:List ByteArray) (ws:List AB) (js:List AK) (ns:List AJ)
def EV:List Int:=if¬AS bag kinds ps ws js ns 0=0 then [] else DH (GL (G4 ps.length ws js (AA ws js ns) bag kinds) (G4 ps.length ws js (AA ws js ns) bag kinds).length) js.length
end
section
variable {bag kinds:Int} {ps:List ByteArray} {ws:List AB} {js:List AK} {ns:List AJ} {fs:List Sl} {k q:Nat}
theorem inTo_next{i:Nat}(hk:k<fs.length)(h1:i<=(fs.getD k Sl.z).2.length)(h2:(fs.getD k Sl.z).2.length<=i):GL (Ap fs) (k+1)=Rc (GL (Ap fs) k) (fs.getD k Sl.z).2 i:=by
 unfold GL;rw [CC hk,show (fs.getD k Sl.z).2.length=i by omega];cases k <;> rfl
theorem neverR_ok(h0:¬¬AS bag kinds ps ws js ns 0=0)(h:Ap fs=G4 ps.length ws js (AA ws js ns) bag kinds)(h1:k<=fs.length)(h2:fs.length<=k)(h3:q<=js.length)(h4:js.length<=q):EV bag kinds ps ws js ns=DH (GL (Ap fs) k) q:=
 (if_neg h0).trans (by rw [<-h,CL,show fs.length=k by omega,show js.length=q by omega])
end
end Go.Ns
namespace Go.Ns
theorem Kr{nj:Nat}{l:List Int}(h:AV nj l=0):l.Nodup:=by
 rw [List.nodup_iff_pairwise_ne];rw [List.pairwise_iff_getElem];intro i j hi hj hij e;have h1:=DZ h j (Nat.zero_le _) aA;unfold EQ at h1;split at h1
 ·rename_i a;exact a h1
 ·split at h1
  ·cases h1
  ·rename_i a
   refine a (List.any_eq_true.2 ⟨l[i],List.mem_take_iff_getElem.2 ⟨i,aA,rfl⟩,?_⟩);rw [List.getD_eq_getElem?_getD,List.getElem?_eq_getElem hj];exact decide_eq_true e.symm
theorem O4{jobs:List Int}(nd:jobs.Nodup):∀(rest done:List Int),jobs=done++rest->jobs ∈ BG jobs rest.length done
 | [],done,e=>by rw [e,List.append_nil];exact List.mem_singleton.2 rfl
 | k ::rest,done,e=>by
  have ih:=O4 nd rest (done++[k]) (by rw [e];simp);show jobs ∈ done ::jobs.flatMap _;refine List.mem_cons_of_mem _ (List.mem_flatMap.2 ⟨k,by rw [e];simp,?_⟩);have hn:Fi done k=false:=by
   cases hh:Fi done k with
   | false=>rfl
   | true=>
    exfalso;obtain ⟨x,hx,hk⟩:=List.any_eq_true.1 hh;have hk':k=x:=of_decide_eq_true hk;rw [e,List.nodup_append] at nd;exact nd.2.2 x hx k List.mem_cons_self hk'.symm
  rw [if_neg (by rw [hn];simp)];exact ih
def fullR(jobs:List Int)(n:Nat):List (List Int):=(Bm jobs).filter λq=>decide (q.length=n)
theorem Tl{l:List Int}(nd:l.Nodup):0<(fullR (C6 l) l.length).length:=by
 have hs:(C6 l).Nodup:=by rw [JN];exact (List.mergeSort_perm l _).nodup_iff.2 nd
 have:=O4 hs (C6 l) [] rfl
 exact List.length_pos_of_mem (List.mem_filter.2 ⟨this,decide_eq_true (Dl l)⟩)
section
variable (bag kinds:Int) (ps:List ByteArray) (ws:List AB) (js:List AK) (ns:List AJ) (l:List Int)
def swiftL:List Int:=CZ (λl=>A3 (λx=>AI ps.length ws js x l) (AA ws js ns)) (fullR (C6 l) l.length)
def BN:List Int:=if¬AS bag kinds ps ws js ns (AV js.length l)=0 then [] else swiftL ps ws js ns l
end
section
variable {bag kinds:Int} {ps:List ByteArray} {ws:List AB} {js:List AK} {ns:List AJ} {l:List Int} {fl:List Sl} {nj:Nat}
theorem Tm(h0:¬¬AS bag kinds ps ws js ns (AV js.length l)=0)(h:Ap fl=fullR (C6 l) l.length):BN bag kinds ps ws js ns l=CZ (λl=>A3 (λx=>AI ps.length ws js x l) (AA ws js ns)) (Ap fl):=(if_neg h0).trans (by unfold swiftL;rw [h])
theorem full_ok(h:Ap fl=fullR (C6 l) l.length)(hr:∀k,k<l.length->0<=l.getD k 0/\l.getD k 0<nj)(h4:l.length<=4):∀x ∈ fl,VC nj x.2:=λx hx=>by
 have:x.2 ∈ Ap fl:=List.mem_map_of_mem hx
 rw [h] at this;refine Kn (λy hy=>?_) (by rw [Dl];exact h4) (List.mem_filter.1 this).1;rw [JN,List.mem_mergeSort] at hy;obtain ⟨i,hi,e⟩:=List.mem_iff_getElem.1 hy
 have:=hr i hi
 rw [List.getD_eq_getElem?_getD,List.getElem?_eq_getElem hi,Option.getD_some,e] at this;exact this
end
end Go.Ns
namespace Go.Ns
def PV(h:GH)(t:TypeId)(f:Nat->Value)(L:Nat->List Int)(k:Nat):Prop:=∀i,i<k->Bu h t (f i) (L i)
section
variable {h h' h0:GH} {t t':TypeId} {f:Nat->Value} {L:Nat->List Int} {k r:Nat} {w v v':Value} {p:Bool} {c:Array Value} {g:Nat×Nat}
theorem PV.zero:PV h t f L 0:=λ_ hi=>absurd hi (Nat.not_lt_zero _)
theorem PV.le(x:PV h t f L k)(l:h.Le h'):PV h' t f L k:=λi hi=>(x i hi).le l
theorem PV.store(x:PV h t f L k)(hr:h r=some (p,.cells c t' g))(ne:t'≠t)(ho:∀b,b≠r->h' b=h b):PV h' t f L k:=λi hi=>(x i hi).store hr ne ho
theorem PV.next(x:PV h t f L k)(y:Bu h t w (L k)):PV h t (λi=>if i=k then w else f i) L (k+1):=λi hi=>by
 show Bu h t (if i=k then w else f i) (L i);by_cases e:i=k
 ·rw [if_pos e,e];exact y
 ·rw [if_neg e];exact x i aA
end
def AK.re(j:AK)(v:Value):AK:={ j with pv:=v }
def AJ.re(j:AJ)(v:Value):AJ:={ j with wv:=v }
def Ia(js:List AK)(f:Nat->Value)(k:Nat):List AK:=(List.range js.length).map λi=>if i<k then (js.getD i AK.z).re (f i) else js.getD i AK.z
def JK(ns:List AJ)(f:Nat->Value)(k:Nat):List AJ:=(List.range ns.length).map λi=>if i<k then (ns.getD i AJ.z).re (f i) else ns.getD i AJ.z
section
variable {V:Type} {z:V} {l:List V} {F:Nat->V->V} {k:Nat}
def reL(z:V)(l:List V)(F:Nat->V->V)(k:Nat):List V:=(List.range l.length).map λi=>if i<k then F i (l.getD i z) else l.getD i z
theorem LR:(reL z l F k).length=l.length:=by unfold reL;rw [List.length_map,List.length_range]
theorem Iu{i:Nat}(hi:i<l.length):(reL z l F k).getD i z=if i<k then F i (l.getD i z) else l.getD i z:=by
 unfold reL;rw [List.getD_eq_getElem?_getD,List.getElem?_map,List.getElem?_range hi];rfl
theorem VE{i:Nat}(hi:i<(reL z l F k).length):(reL z l F k)[i]=if i<k then F i (l.getD i z) else l.getD i z:=by
 have e:=Iu (z:=z) (F:=F) (k:=k) (show i<l.length by rw [<-LR (z:=z) (F:=F) (k:=k)];exact hi);rw [List.getD_eq_getElem?_getD,List.getElem?_eq_getElem hi] at e;exact e
theorem reL_0:reL z l F 0=l:=by
 refine List.ext_getElem LR λi h1 h2=>?_;rw [VE,if_neg (Nat.not_lt_zero _),List.getD_eq_getElem?_getD,List.getElem?_eq_getElem h2];rfl
theorem reL_put{G:Nat->V->V}(hk:k<l.length)(hG:∀i,i<k->∀x,G i x=F i x):(reL z l F k).set k (G k ((reL z l F k).getD k z))=reL z l G (k+1):=by
 rw [Iu hk,if_neg (Nat.lt_irrefl _)];refine List.ext_getElem (by rw [List.length_set,LR,LR]) λi h1 h2=>?_;rw [List.getElem_set,VE];by_cases e:k=i
 ·subst e;rw [if_pos rfl,VE,if_pos aA]
 ·rw [if_neg e,VE];by_cases e2:i<k
  ·rw [if_pos e2,if_pos aA,hG i e2]
  ·rw [if_neg e2,if_neg aA]
end
section
variable {h:GH} {t:TypeId} {f:Nat->Value} {js:List AK} {ns:List AJ} {k:Nat} {w:Value}
theorem Re:Ia js f k=reL AK.z js (λi j=>j.re (f i)) k:=rfl
theorem Rf:JK ns f k=reL AJ.z ns (λi j=>j.re (f i)) k:=rfl
theorem Pm(js:List AK)(f:Nat->Value)(k:Nat):(Ia js f k).length=js.length:=by rw [Re];exact LR
theorem Pn(ns:List AJ)(f:Nat->Value)(k:Nat):(JK ns f k).length=ns.length:=by rw [Rf];exact LR
theorem reJ_0:Ia js f 0=js:=by rw [Re];exact reL_0
theorem reN_0:JK ns f 0=ns:=by rw [Rf];exact reL_0
theorem reJ_put(hk:k<js.length):(Ia js f k).set k (((Ia js f k).getD k AK.z).re w)=Ia js (λi=>if i=k then w else f i) (k+1):=by
 have:=reL_put (z:=AK.z) (l:=js) (F:=λi j=>j.re (f i)) (G:=λi j=>j.re (if i=k then w else f i)) hk (λi hi x=>by rw [if_neg aA])
 rw [if_pos rfl] at this;exact this
theorem reN_put(hk:k<ns.length):(JK ns f k).set k (((JK ns f k).getD k AJ.z).re w)=JK ns (λi=>if i=k then w else f i) (k+1):=by
 have:=reL_put (z:=AJ.z) (l:=ns) (F:=λi j=>j.re (f i)) (G:=λi j=>j.re (if i=k then w else f i)) hk (λi hi x=>by rw [if_neg aA])
 rw [if_pos rfl] at this;exact this
theorem Tn(js:List AK)(f:Nat->Value)(k i:Nat):((Ia js f k).getD i AK.z).parts=(js.getD i AK.z).parts:=by
 by_cases hi:i<js.length
 ·rw [Re,Iu hi];split <;> rfl
 ·rw [Bc (by rw [Pm];omega),Bc aA]
theorem We(ns:List AJ)(f:Nat->Value)(k i:Nat):((JK ns f k).getD i AJ.z).ways=(ns.getD i AJ.z).ways:=by
 by_cases hi:i<ns.length
 ·rw [Rf,Iu hi];split <;> rfl
 ·rw [Bc (by rw [Pn];omega),Bc aA]
theorem Ci.re(x:Ci h js)(y:PV h t f (λi=>(js.getD i AK.z).parts) k):Ci h (Ia js f k):=λi=>by
 by_cases hi:i<js.length
 ·rw [Re,Iu hi];by_cases e:i<k
  ·rw [if_pos e];exact (y i e).1
  ·rw [if_neg e];exact x i
 ·rw [Bc (by rw [Pm];omega)];exact AO.nil _ _ _
theorem At.re(x:At h ns)(y:PV h t f (λi=>(ns.getD i AJ.z).ways) k):At h (JK ns f k):=λi=>by
 by_cases hi:i<ns.length
 ·rw [Rf,Iu hi];by_cases e:i<k
  ·rw [if_pos e];exact (y i e).1
  ·rw [if_neg e];exact x i
 ·rw [Bc (by rw [Pn];omega)];exact AO.nil _ _ _
def DI(h:GH)(t:TypeId)(js:List AK):Prop:=∀k,Bu h t (js.getD k AK.z).pv (js.getD k AK.z).parts
def EW(h:GH)(t:TypeId)(ns:List AJ):Prop:=∀k,Bu h t (ns.getD k AJ.z).wv (ns.getD k AJ.z).ways
theorem DI.jobs(x:DI h t js):Ci h js:=λk=>(x k).1
theorem EW.notes(x:EW h t ns):At h ns:=λk=>(x k).1
theorem DI.le{h':GH}(x:DI h t js)(l:h.Le h'):DI h' t js:=λk=>(x k).le l
theorem EW.le{h':GH}(x:EW h t ns)(l:h.Le h'):EW h' t ns:=λk=>(x k).le l
theorem DI.store{h':GH}{t':TypeId}{r:Nat}{p:Bool}{c:Array Value}{g:Nat×Nat}(x:DI h t js)(hr:h r=some (p,.cells c t' g))(ne:t'≠t)(ho:∀b,b≠r->h' b=h b):DI h' t js:=λk=>(x k).store hr ne ho
theorem EW.store{h':GH}{t':TypeId}{r:Nat}{p:Bool}{c:Array Value}{g:Nat×Nat}(x:EW h t ns)(hr:h r=some (p,.cells c t' g))(ne:t'≠t)(ho:∀b,b≠r->h' b=h b):EW h' t ns:=λk=>(x k).store hr ne ho
theorem DI.of(y:PV h t f (λi=>(js.getD i AK.z).parts) k)(hk:js.length<=k):DI h t (Ia js f k):=λi=>by
 by_cases hi:i<js.length
 ·rw [Re,Iu hi,if_pos aA];exact y i aA
 ·rw [Bc (by rw [Pm];omega)];exact Bu.nil _ _
theorem EW.of(y:PV h t f (λi=>(ns.getD i AJ.z).ways) k)(hk:ns.length<=k):EW h t (JK ns f k):=λi=>by
 by_cases hi:i<ns.length
 ·rw [Rf,Iu hi,if_pos aA];exact y i aA
 ·rw [Bc (by rw [Pn];omega)];exact Bu.nil _ _
theorem Ci.fine1(x:Ci h js)(k:Nat):(Cu (js.getD k AK.z)).toList.all (·.oneCell')=true:=by
 show (true && (true && (true && (true && (((js.getD k AK.z).pv.oneCell') && true)))))=true;rw [(AO.one (x k)).2];rfl
theorem Ci.fine(x:Ci h js):∀y ∈ js,(Cu y).toList.all (·.oneCell')=true:=λy hy=>by
 obtain ⟨i,hi,e⟩:=List.mem_iff_getElem.1 hy
 have:=x.fine1 i
 rw [List.getD_eq_getElem?_getD,List.getElem?_eq_getElem hi] at this;rw [<-e];exact this
theorem At.snoc{x:AJ}(a:At h ns)(b:AO h x.wv 1 eI x.ways):At h (ns++[x]):=λk=>by
 rw [Gc];split
 ·exact a k
 ·cases hk:k-ns.length with
  | zero=>exact b
  | succ n=>rw [Bc aD];exact AO.nil _ _ _
end
theorem Ay.copy{bag kinds:Int}{ps:List ByteArray}{ws:List AB}{js:List AK}{ns:List AJ}(b:Ay bag kinds ps ws js ns):(∀i,(js.getD i AK.z).parts.length<=1000)/\∀i,(ns.getD i AJ.z).ways.length<=1000:=by
 refine ⟨λi=>?_,λi=>Nat.le_trans (ME b.note i).1 aC⟩;by_cases hi:i<js.length
 ·have:=(Kf (b.job i hi)).len
  have:=b.hkin
  omega
 ·rw [Bc aA];exact Nat.zero_le _
end Go.Ns
namespace Go.Ns
section
variable {P:Program} {E:Gq P} {O:Nat->Value} {ds:List Deferred} {h:GH} {T:(Nat->Value)->List Deferred->GH->Prop} {dst:Option Nat} {ty:TypeId} {pos:String} {af:Array Edge} {gd:Option (Nat×Bool)}
theorem YX{s:ByteArray}{i:Nat}(h:i<s.size):((s[i]'h).toNat:Int)=(bytesOf s).getD i 0:=by
 have h2:i<(bytesOf s).length:=by rw [DF];exact h
 rw [B5 0 h2];exact (List.getElem_map (l:=s.data.toList) (f:=λb=>(b.toNat:Int)) (h:=h2)).symm
theorem Rh{t:TypeId}{x ix:Operand}{s:ByteArray}{kd:IntKind}{i:Int}(ht:P3 P t=true)(hx:AQ O x=.string s)(hi:AQ O ix=.int kd i)(h0:0<=i)(h1:i<s.size)(k:T (putS O dst (.int .u8 ((bytesOf s).getD i.toNat 0))) ds h) :
  Bb E ⟨dst,.index t x ix,ty,pos,af,gd⟩ O ds h T:=TJ ht hx hi h0 h1 (by rw [YX];exact k)
end
theorem Wf{s:ByteArray}(h:¬(1<=(s.size:Int)/\(s.size:Int)<=10)):FH s=false:=by unfold FH;rw [decide_eq_false h,Bool.and_false]
theorem Wg{a b:List UInt8}{v:Bool}(h:(a==b)=v):(b==a)=v:=by rw [<-h];exact BEq.comm
def Hi(l:List Int)(k:Nat)(p q:Int):List Int:=if p=l.getD k 0/\¬q ∈ l then l++[q] else l
def Cz(l:List Int)(k:Nat)(x:AB):List Int:=Hi (Hi l k x.a x.b) k x.b x.a
def Ai(ws:List AB)(l:List Int)(k:Nat):Nat->List Int
 | 0=>l
 | j+1=>Cz (Ai ws l k j) k (ws.getD j AB.z)
def Ao(ws:List AB):Nat->List Int
 | 0=>[0]
 | k+1=>if k<(Ao ws k).length then Ai ws (Ao ws k) k ws.length else Ao ws k
def C8(ws:List AB):List Int:=Ao ws 4
def HX(np:Nat)(l:List Int):Prop:=l.Nodup/\(∀x ∈ l,0<=x/\x<np)/\0<l.length
def MO(np:Nat)(ws:List AB):Prop:=∀k,k<ws.length->(0<=(ws.getD k AB.z).a/\(ws.getD k AB.z).a<np)/\0<=(ws.getD k AB.z).b/\(ws.getD k AB.z).b<np
section
variable {np:Nat} {l:List Int} {ws:List AB} {k j:Nat} {x:Int} {w:AB}
theorem HX.len(h:HX np l):l.length<=np:=by
 refine RN np l.length (λk=>(l.getD k 0).toNat) (λi hi=>?_) λi j hij hj=>?_
 ·have:=h.2.1 _ (BL (d:=(0:Int)) hi)
  show (l.getD i 0).toNat<np;omega
 ·have h1:=h.2.1 _ (BL (d:=(0:Int)) hj);have h2:=h.2.1 _ (BL (d:=(0:Int)) (show i<l.length by omega));show (l.getD i 0).toNat≠(l.getD j 0).toNat;intro e;have e2:l.getD i 0=l.getD j 0:=aA
  rw [List.getD_eq_getElem?_getD,List.getD_eq_getElem?_getD,List.getElem?_eq_getElem aA,List.getElem?_eq_getElem hj,Option.getD_some,Option.getD_some] at e2
  have:=(List.pairwise_iff_getElem.1 (List.nodup_iff_pairwise_ne.1 h.1)) i j aA hj hij
  exact this e2
theorem HX.snoc(h:HX np l)(hx:0<=x/\x<np)(n:¬x ∈ l):HX np (l++[x]):=
 ⟨List.nodup_append.2 ⟨h.1,aD,λa ha b hb e=>by rw [List.mem_singleton.1 hb] at e;exact n (e▸ha)⟩,λy hy=>by
  rcases List.mem_append.1 hy with hy | hy
  ·exact h.2.1 y hy
  ·rw [List.mem_singleton.1 hy];exact hx,aD⟩
theorem NC{p q:Int}(h1:p=l.getD k 0)(h2:¬q ∈ l):Hi l k p q=l++[q]:=if_pos ⟨h1,h2⟩
theorem ND{p q:Int}(h:¬(p=l.getD k 0/\¬q ∈ l)):Hi l k p q=l:=if_neg h
theorem rs_tt(h1:w.a=l.getD k 0/\¬w.b ∈ l)(h2:w.b=(l++[w.b]).getD k 0/\¬w.a ∈ l++[w.b]):Cz l k w=l++[w.b]++[w.a]:=by unfold Cz;rw [NC h1.1 h1.2,NC h2.1 h2.2]
theorem rs_tf(h1:w.a=l.getD k 0/\¬w.b ∈ l)(h2:¬(w.b=(l++[w.b]).getD k 0/\¬w.a ∈ l++[w.b])):Cz l k w=l++[w.b]:=by unfold Cz;rw [NC h1.1 h1.2,ND h2]
theorem rs_ft(h1:¬(w.a=l.getD k 0/\¬w.b ∈ l))(h2:w.b=l.getD k 0/\¬w.a ∈ l):Cz l k w=l++[w.a]:=by unfold Cz;rw [ND h1,NC h2.1 h2.2]
theorem rs_ff(h1:¬(w.a=l.getD k 0/\¬w.b ∈ l))(h2:¬(w.b=l.getD k 0/\¬w.a ∈ l)):Cz l k w=l:=by unfold Cz;rw [ND h1,ND h2]
theorem To{p q:Int}(h:HX np l)(hq:0<=q/\q<np):HX np (Hi l k p q):=by
 unfold Hi;split
 ·rename_i c;exact h.snoc hq c.2
 ·exact h
theorem Ib(l:List Int)(k:Nat)(p q:Int):l<+:Hi l k p q:=by
 unfold Hi;split
 ·exact List.prefix_append _ _
 ·exact List.prefix_refl _
theorem VF(h:HX np l)(ha:0<=w.a/\w.a<np)(hb:0<=w.b/\w.b<np):HX np (Cz l k w):=To (To h hb) ha
theorem JH(l:List Int)(k:Nat)(w:AB):l<+:Cz l k w:=(Ib _ _ _ _).trans (Ib _ _ _ _)
theorem Ri{a b:List Int}(h:a<+:b)(hk:k<a.length):b.getD k 0=a.getD k 0:=by
 obtain ⟨t,rfl⟩:=h;rw [Gc,if_pos hk]
theorem Jx(h:HX np l)(hw:MO np ws):∀j,j<=ws.length->HX np (Ai ws l k j)
 | 0,_=>h
 | j+1,hj=>VF (Jx h hw j aA) (hw j aA).1 (hw j aA).2
theorem Ft:∀j,l<+:Ai ws l k j
 | 0=>List.prefix_refl _
 | j+1=>(Ft j).trans (JH _ _ _)
theorem JQ(hn:0<np)(hw:MO np ws):∀k,HX np (Ao ws k)
 | 0=>⟨by simp [Ao],λx hx=>by rw [List.mem_singleton.1 hx];omega,Nat.zero_lt_one⟩
 | k+1=>by
  unfold Ao;split
  ·exact Jx (JQ hn hw k) hw _ (Nat.le_refl _)
  ·exact JQ hn hw k
theorem Ks(hk:k<(Ao ws k).length):Ao ws (k+1)=Ai ws (Ao ws k) k ws.length:=if_pos hk
theorem O5(hk:(Ao ws k).length<=k):∀m,k<=m->Ao ws m=Ao ws k
 | 0,h=>by rw [show k=0 by omega]
 | m+1,h=>by
  by_cases e:m+1=k
  ·rw [e]
  ·have ih:=O5 hk m aA
   have:Ao ws (m+1)=Ao ws m:=by
    conv=>lhs;unfold Ao
    rw [if_neg (by rw [ih];omega)]
   rw [this,ih]
theorem Tp(hk:(Ao ws k).length<=k)(hk4:k<=4):C8 ws=Ao ws k:=O5 hk 4 hk4
end
def Fu(np:Nat)(ws:List AB):Int:=if (5:Int)<ws.length then 2 else if¬C5 (DM np ws) 0 ws.length=0 then C5 (DM np ws) 0 ws.length else if (C8 ws).length<np then 8 else 0
def G5(bag kinds:Int)(ps:List ByteArray)(ws:List AB)(js:List AK)(ns:List AJ):Int:=
 if¬GW bag kinds=0 then GW bag kinds else if¬BU ps=0 then BU ps else if¬Fu ps.length ws=0 then Fu ps.length ws else if¬CA ps.length kinds js=0 then CA ps.length kinds js else Cn ws.length ns
section
variable {V:Type} {p:V->Bool} {l:List V} {d:V} {k j:Nat}
theorem N6(hk:k<l.length)(e:p (l.getD k d)=true):l.any p=true:=List.any_eq_true.2 ⟨_,BL hk,e⟩
theorem LS(h:(l.take k).any p=false)(hk:l.length<=k):l.any p=false:=by rwa [List.take_of_length_le hk] at h
theorem Wh(hj:j<k)(hk:k<=l.length)(e:p (l.getD j d)=true):(l.take k).any p=true:=by
 refine N6 (k:=j) (d:=d) (by rw [List.length_take];omega) ?_;rw [List.getD_eq_getElem?_getD,List.getElem?_take,if_pos hj,<-List.getD_eq_getElem?_getD];exact e
end
section
variable {np nw:Nat} {ws:List AB} {js:List AK} {ns:List AJ} {k:Nat} {kinds:Int}
theorem NE{a b:Int}(ha:0<=a/\a<=(np:Int)-1)(hb:0<=b/\b<=(np:Int)-1):B9 np [a,b]=0:=by
 have h0:E7 np [a,b] 0=0:=if_neg (λe=>e ha);have h1:E7 np [a,b] 1=0:=if_neg (λe=>e hb);show C5 (E7 np [a,b]) 0 2=0;simp [C5,h0,h1]
theorem miss_no{a b:Int}(h:¬(0<=a/\a<=(np:Int)-1)\/¬(0<=b/\b<=(np:Int)-1)):B9 np [a,b]=6:=by
 show C5 (E7 np [a,b]) 0 2=6;by_cases ha:0<=a/\a<=(np:Int)-1
 ·have h0:E7 np [a,b] 0=0:=if_neg (λe=>e ha);have h1:E7 np [a,b] 1=6:=if_pos (h.resolve_left λe=>e ha);simp [C5,h0,h1]
 ·have h0:E7 np [a,b] 0=6:=if_pos ha;simp [C5,h0]
theorem Rj{a:Int}(ha:0<=a/\a<=(np:Int)-1):B9 np [a]=0:=by
 have h0:E7 np [a] 0=0:=if_neg (λe=>e ha);show C5 (E7 np [a]) 0 1=0;simp [C5,h0]
theorem miss_no1{a:Int}(ha:¬(0<=a/\a<=(np:Int)-1)):B9 np [a]=6:=by
 have h0:E7 np [a] 0=6:=if_pos ha;show C5 (E7 np [a]) 0 1=6;simp [C5,h0]
variable (ws k) in
def waP(np:Nat):Prop:=(0<=(ws.getD k AB.z).a/\(ws.getD k AB.z).a<=(np:Int)-1)/\(0<=(ws.getD k AB.z).b/\(ws.getD k AB.z).b<=(np:Int)-1)
theorem wy6(h:¬(0<=(ws.getD k AB.z).a/\(ws.getD k AB.z).a<=(np:Int)-1)\/¬(0<=(ws.getD k AB.z).b/\(ws.getD k AB.z).b<=(np:Int)-1)):DM np ws k=6:=by
 unfold DM;rw [miss_no h,if_pos aC]
theorem wyP(h:¬(¬(0<=(ws.getD k AB.z).a/\(ws.getD k AB.z).a<=(np:Int)-1)\/¬(0<=(ws.getD k AB.z).b/\(ws.getD k AB.z).b<=(np:Int)-1))):waP ws k np:=⟨Decidable.byContradiction λe=>h (.inl e),Decidable.byContradiction λe=>h (.inr e)⟩
theorem wy7(h:waP ws k np)(h2:(ws.getD k AB.z).b<=(ws.getD k AB.z).a):DM np ws k=7:=by
 unfold DM;rw [NE h.1 h.2,if_neg aD,if_pos h2]
theorem wy5(h:waP ws k np)(h2:¬(ws.getD k AB.z).b<=(ws.getD k AB.z).a)(h3:(ws.take k).any (λy=>decide (y.a=(ws.getD k AB.z).a/\y.b=(ws.getD k AB.z).b))=true):DM np ws k=5:=by
 unfold DM;rw [NE h.1 h.2,if_neg aD,if_neg h2,if_pos h3]
theorem wy1(h:waP ws k np)(h2:¬(ws.getD k AB.z).b<=(ws.getD k AB.z).a)(h3:(ws.take k).any (λy=>decide (y.a=(ws.getD k AB.z).a/\y.b=(ws.getD k AB.z).b))=false)(h4:¬(((0<=(ws.getD k AB.z).low/\(ws.getD k AB.z).low<=(ws.getD k AB.z).high)/\(ws.getD k AB.z).high<=30)/\(ws.getD k AB.z).high-(ws.getD k AB.z).low<2)):DM np ws k=1:=by
 unfold DM;rw [NE h.1 h.2,if_neg aD,if_neg h2,if_neg (by rw [h3];simp)];exact if_pos h4
theorem wy0(h:waP ws k np)(h2:¬(ws.getD k AB.z).b<=(ws.getD k AB.z).a)(h3:(ws.take k).any (λy=>decide (y.a=(ws.getD k AB.z).a/\y.b=(ws.getD k AB.z).b))=false)(h4:(((0<=(ws.getD k AB.z).low/\(ws.getD k AB.z).low<=(ws.getD k AB.z).high)/\(ws.getD k AB.z).high<=30)/\(ws.getD k AB.z).high-(ws.getD k AB.z).low<2)):DM np ws k=0:=by
 unfold DM;rw [NE h.1 h.2,if_neg aD,if_neg h2,if_neg (by rw [h3];simp)];exact if_neg (λe=>e h4)
theorem YY(h:∀k,k<ws.length->DM np ws k=0):MO np ws:=λk hk=>by
 have:=h k hk
 unfold DM at this;split at this
 ·rename_i a;exact absurd this a
 ·rename_i a
  have q:=Fq (Decidable.not_not.1 a);have q1:=q _ List.mem_cons_self;have q2:=q _ (List.mem_cons_of_mem _ List.mem_cons_self);omega
theorem rw2(h:(5:Int)<ws.length):Fu np ws=2:=if_pos h
theorem VG{c:Int}(h5:¬(5:Int)<ws.length)(hs:∀j,j<k->DM np ws j=0)(hk:k<ws.length)(e:DM np ws k=c)(hc:c≠0):Fu np ws=c:=by
 have h1:=BP hs hk e hc;rw [Fu,if_neg h5,h1,if_pos hc]
theorem rw8(h5:¬(5:Int)<ws.length)(hs:∀j,j<k->DM np ws j=0)(hk:ws.length<=k)(h:((C8 ws).length:Int)<np):Fu np ws=8:=by
 rw [Fu,if_neg h5,CU hs hk,if_neg aD,if_pos aA]
theorem rw0(h5:¬(5:Int)<ws.length)(hs:∀j,j<k->DM np ws j=0)(hk:ws.length<=k)(h:¬((C8 ws).length:Int)<np):Fu np ws=0:=by
 rw [Fu,if_neg h5,CU hs hk,if_neg aD,if_neg aA]
theorem jb6(h:¬(0<=(js.getD k AK.z).place/\(js.getD k AK.z).place<=(np:Int)-1)):GB np kinds js k=6:=by
 unfold GB;rw [miss_no1 h,if_pos aC]
theorem jb1(h:0<=(js.getD k AK.z).place/\(js.getD k AK.z).place<=(np:Int)-1)(h2:¬(((0<=(js.getD k AK.z).low/\(js.getD k AK.z).low<=(js.getD k AK.z).high)/\(js.getD k AK.z).high<=30)/\(js.getD k AK.z).high-(js.getD k AK.z).low<2)\/¬(0<=(js.getD k AK.z).due/\(js.getD k AK.z).due<=200)):GB np kinds js k=1:=by
 unfold GB;rw [Rj h,if_neg aD];exact if_pos h2
theorem jb2(h:0<=(js.getD k AK.z).place/\(js.getD k AK.z).place<=(np:Int)-1)(h2:¬(¬(((0<=(js.getD k AK.z).low/\(js.getD k AK.z).low<=(js.getD k AK.z).high)/\(js.getD k AK.z).high<=30)/\(js.getD k AK.z).high-(js.getD k AK.z).low<2)\/¬(0<=(js.getD k AK.z).due/\(js.getD k AK.z).due<=200)))(h3:¬((js.getD k AK.z).parts.length:Int)=kinds):GB np kinds js k=2:=by
 unfold GB;rw [Rj h,if_neg aD];exact (if_neg h2).trans (if_pos h3)
theorem jb3(h:0<=(js.getD k AK.z).place/\(js.getD k AK.z).place<=(np:Int)-1)(h2:¬(¬(((0<=(js.getD k AK.z).low/\(js.getD k AK.z).low<=(js.getD k AK.z).high)/\(js.getD k AK.z).high<=30)/\(js.getD k AK.z).high-(js.getD k AK.z).low<2)\/¬(0<=(js.getD k AK.z).due/\(js.getD k AK.z).due<=200)))(h3:((js.getD k AK.z).parts.length:Int)=kinds):GB np kinds js k=if (js.getD k AK.z).parts.any (λn=>decide (¬(0<=n/\n<=5))) then 1 else 0:=by
 unfold GB;rw [Rj h,if_neg aD];exact (if_neg h2).trans (if_neg (λe=>e h3))
theorem nt2(h:(5:Int)<(ns.getD k AJ.z).ways.length):Du nw ns k=2:=if_pos h
theorem nt6(h:¬(5:Int)<(ns.getD k AJ.z).ways.length)(h2:(ns.getD k AJ.z).ways.any (λn=>decide (¬(0<=n/\n<=(nw:Int)-1)))=true):Du nw ns k=6:=by
 unfold Du;rw [if_neg h,if_pos h2]
theorem nt1(h:¬(5:Int)<(ns.getD k AJ.z).ways.length)(h2:(ns.getD k AJ.z).ways.any (λn=>decide (¬(0<=n/\n<=(nw:Int)-1)))=false)(h3:¬((0<=(ns.getD k AJ.z).low/\(ns.getD k AJ.z).low<=(ns.getD k AJ.z).high)/\(ns.getD k AJ.z).high<=200)):Du nw ns k=1:=by
 unfold Du;rw [if_neg h,if_neg (by rw [h2];simp),if_pos (λe=>h3 e.1)]
theorem nt0(h:¬(5:Int)<(ns.getD k AJ.z).ways.length)(h2:(ns.getD k AJ.z).ways.any (λn=>decide (¬(0<=n/\n<=(nw:Int)-1)))=false)(h3:(0<=(ns.getD k AJ.z).low/\(ns.getD k AJ.z).low<=(ns.getD k AJ.z).high)/\(ns.getD k AJ.z).high<=200):Du nw ns k=0:=by
 unfold Du;rw [if_neg h,if_neg (by rw [h2];simp),if_neg (λe=>e ⟨h3,aA⟩)]
end
section
variable {ps:List ByteArray} {k:Nat} {a b:List (Int×Int)}
theorem pa4(h:FH (ps.getD k (⟨#[]⟩:ByteArray))=false):FV ps k=4:=by unfold FV;rw [if_pos h]
theorem pa5(h:FH (ps.getD k (⟨#[]⟩:ByteArray))=true)(h2:0<=idxOf (λx=>(ps.getD k (⟨#[]⟩:ByteArray)).toList==x.toList) (ps.take k)):FV ps k=5:=by
 unfold FV;rw [if_neg (by rw [h];simp),if_pos ((FT _ _).1 h2)]
theorem pa0(h:FH (ps.getD k (⟨#[]⟩:ByteArray))=true)(h2:¬0<=idxOf (λx=>(ps.getD k (⟨#[]⟩:ByteArray)).toList==x.toList) (ps.take k)):FV ps k=0:=by
 unfold FV;rw [if_neg (by rw [h];simp),if_neg λe=>h2 ((FT _ _).2 e)]
theorem S0(hs:a.take k=b.take k)(hk:k<=a.length)(h:¬(k:Int)<a.length)(hl:(a.length:Int)=b.length):a=b:=by
 rw [List.take_of_length_le aA,List.take_of_length_le aA] at hs;exact hs
theorem eq_getDP{k:Nat}(h:((a.getD k (0,0)).1==(b.getD k (0,0)).1 && ((a.getD k (0,0)).2==(b.getD k (0,0)).2 && true))=true):a.getD k (0,0)=b.getD k (0,0):=by
 simp only [Bool.and_true,Bool.and_eq_true,beq_iff_eq] at h;exact Prod.ext h.1 h.2
theorem ne_getDP{k:Nat}(h:(!((a.getD k (0,0)).1==(b.getD k (0,0)).1 && ((a.getD k (0,0)).2==(b.getD k (0,0)).2 && true)))=true):¬a=b:=λe=>by rw [e] at h;simp at h
end
section
variable (bag kinds:Int) (ps:List ByteArray) (ws:List AB) (js:List AK) (ns:List AJ)
def E9:Bool:=decide ((((20:Int)<ps.length\/(20:Int)<ws.length)\/(20:Int)<js.length)\/(20:Int)<ns.length) || ps.any (λs=>decide ((100:Int)<s.size)) || js.any (λj=>decide ((20:Int)<j.parts.length)) || ns.any λn=>decide ((20:Int)<n.ways.length)
end
section
variable {ps:List ByteArray} {ws:List AB} {js:List AK} {ns:List AJ} {k:Nat}
theorem VH(h:E9 ps ws js ns=false)(k:Nat):(ps.getD k (⟨#[]⟩:ByteArray)).size<=1000:=by
 unfold E9 at h;simp only [Bool.or_eq_false_iff] at h;by_cases hk:k<ps.length
 ·have:=List.any_eq_false.1 h.1.1.2 _ (BL (d:=(⟨#[]⟩:ByteArray)) hk)
  have:=of_decide_eq_false (Bool.eq_false_iff.2 this)
  omega
 ·rw [Bc aA];decide
end
section
variable {bag kinds:Int} {ps:List ByteArray} {ws:List AB} {js:List AK} {ns:List AJ}
theorem Kt(h:BU ps=0):0<ps.length/\ps.length<=4:=by
 unfold BU at h;split at h
 ·cases h
 ·omega
theorem rc1(h:¬(0<=bag/\bag<=9)\/¬(0<=kinds/\kinds<=3)):G5 bag kinds ps ws js ns=1:=by
 have e:GW bag kinds=1:=if_pos h;unfold G5;rw [e,if_pos aC]
theorem tb0(h:¬(¬(0<=bag/\bag<=9)\/¬(0<=kinds/\kinds<=3))):GW bag kinds=0:=if_neg h
theorem rc2(h0:¬(¬(0<=bag/\bag<=9)\/¬(0<=kinds/\kinds<=3)))(h:¬BU ps=0):G5 bag kinds ps ws js ns=BU ps:=by unfold G5;rw [tb0 h0,if_neg aD,if_pos h]
theorem rc3(h0:¬(¬(0<=bag/\bag<=9)\/¬(0<=kinds/\kinds<=3)))(h1:¬¬BU ps=0)(h:¬Fu ps.length ws=0):G5 bag kinds ps ws js ns=Fu ps.length ws:=by unfold G5;rw [tb0 h0,if_neg aD,if_neg h1,if_pos h]
theorem rc4(h0:¬(¬(0<=bag/\bag<=9)\/¬(0<=kinds/\kinds<=3)))(h1:¬¬BU ps=0)(h2:¬¬Fu ps.length ws=0)(h:¬CA ps.length kinds js=0):G5 bag kinds ps ws js ns=CA ps.length kinds js:=by unfold G5;rw [tb0 h0,if_neg aD,if_neg h1,if_neg h2,if_pos h]
theorem rc5(h0:¬(¬(0<=bag/\bag<=9)\/¬(0<=kinds/\kinds<=3)))(h1:¬¬BU ps=0)(h2:¬¬Fu ps.length ws=0)(h:¬¬CA ps.length kinds js=0):G5 bag kinds ps ws js ns=Cn ws.length ns:=by unfold G5;rw [tb0 h0,if_neg aD,if_neg h1,if_neg h2,if_neg h]
theorem gr_len(h:(((20:Int)<ps.length\/(20:Int)<ws.length)\/(20:Int)<js.length)\/(20:Int)<ns.length):E9 ps ws js ns=true:=by unfold E9;rw [decide_eq_true h];rfl
theorem gr_p(h:ps.any (λs=>decide ((100:Int)<s.size))=true):E9 ps ws js ns=true:=by unfold E9;rw [h];simp
theorem gr_j(h:js.any (λj=>decide ((20:Int)<j.parts.length))=true):E9 ps ws js ns=true:=by unfold E9;rw [h];simp
theorem gr_n(h:ns.any (λn=>decide ((20:Int)<n.ways.length))=true):E9 ps ws js ns=true:=by unfold E9;rw [h];simp
theorem gr_0(h:¬((((20:Int)<ps.length\/(20:Int)<ws.length)\/(20:Int)<js.length)\/(20:Int)<ns.length))(h1:ps.any (λs=>decide ((100:Int)<s.size))=false)(h2:js.any (λj=>decide ((20:Int)<j.parts.length))=false)(h3:ns.any (λn=>decide ((20:Int)<n.ways.length))=false):E9 ps ws js ns=false:=by
 unfold E9;rw [decide_eq_false h,h1,h2,h3];rfl
end
end Go.Ns
namespace Go.Ns
def DA:List ByteArray:=[⟨#[119,111,114,107,115]⟩,⟨#[97,121,114]⟩,⟨#[98,117,116,101]⟩]
theorem DL:∀k,(DA.getD k (⟨#[]⟩:ByteArray)).size<=1000
 | 0=>aC
 | 1=>aC
 | 2=>aC
 | k+3=>by rw [Bc (by simp [DA])];decide
def C7:List AB:=[⟨0,1,2,3⟩,⟨1,2,4,4⟩,⟨0,2,5,5⟩]
def Ce(a b c:Value):List AK:=[⟨1,1,1,5,a,[2]⟩,⟨2,1,2,12,b,[1]⟩,⟨0,1,1,20,c,[1]⟩]
theorem DI.ex{h:GH}{t:TypeId}{a b c:Value}(x:Bu h t a [2])(y:Bu h t b [1])(z:Bu h t c [1]):DI h t (Ce a b c):=λk=>by
 match k with
 | 0=>exact x
 | 1=>exact y
 | 2=>exact z
 | k+3=>rw [Bc (by show 3<=_;omega)];exact Bu.nil _ _
theorem AO.isSl{V:Type}{h:GH}{v:Value}{n:Nat}{enc:V->Array Value}{xs:List V}(x:AO h v n enc xs):∀k i,v≠.int k i:=by
 obtain ⟨a,cap,rfl,_⟩:=x;intro k i e;cases e
theorem AO.across9{h h':GH}{v:Value}{xs:List Int}{r:Nat}{a b c d:Value}{T:TypeId}(x:AO h v 1 eI xs)(hb:h r=some (true,.cells #[.int .i64 3,.int .i64 1,a,b,c,d] T (0,0)))(ho:∀y,y≠r->h' y=h y)
  (ha:∀k i,a≠.int k i) (hb':∀k i,b≠.int k i) (hc:∀k i,c≠.int k i) (hd:∀k i,d≠.int k i) (hx:∀o,o<6->∃i:Fin xs.length,(o+i.val=0->xs[i.val]≠3)/\(o+i.val=1->xs[i.val]≠1)):AO h' v 1 eI xs:=by
 obtain ⟨ad,cap,hv,hcap,hm,he⟩:=x;refine ⟨ad,cap,hv,hcap,hm,λi hi=>?_⟩;obtain ⟨y,off,h1,h2⟩:=he i hi;refine ⟨y,off,h1,h2.same (ho y ?_)⟩;rintro rfl;have key:∀j (hj:j<xs.length),off+j<6/\(#[Value.int .i64 3,.int .i64 1,a,b,c,d]:Array Value).extract (off+j) (off+j+1)=eI xs[j]:=λj hj=>by
  obtain ⟨y2,off2,h3,h4⟩:=he j hj;rw [h1] at h3;simp only [Option.some.injEq,Addr.mk.injEq,and_true] at h3;obtain ⟨rfl,rfl⟩:=h3;obtain ⟨p,cc,t,f,q1,q2,q3⟩:=h4;rw [hb] at q1;simp only [Option.some.injEq,Prod.mk.injEq,Obj.cells.injEq] at q1;obtain ⟨_,rfl,_⟩:=q1;rw [Nat.mul_one] at q2 q3;exact ⟨by simp at q2;omega,q3⟩
 obtain ⟨⟨j,hj⟩,e0,e1⟩:=hx off (by have:=(key i hi).1;omega);obtain ⟨k1,k2⟩:=key j hj;simp only at e0 e1;generalize off+j=o at k1 k2 e0 e1;generalize xs[j]=z at k2 e0 e1
 have:o=0\/o=1\/o=2\/o=3\/o=4\/o=5:=aA
 rcases this with rfl | rfl | rfl | rfl | rfl | rfl
 ·have k3:(#[.int .i64 3]:Array Value)=#[.int .i64 z]:=k2;simp at k3;exact e0 rfl k3.symm
 ·have k3:(#[.int .i64 1]:Array Value)=#[.int .i64 z]:=k2;simp at k3;exact e1 rfl k3.symm
 ·have k3:(#[a]:Array Value)=#[.int .i64 z]:=k2;simp at k3;exact ha _ _ k3
 ·have k3:(#[b]:Array Value)=#[.int .i64 z]:=k2;simp at k3;exact hb' _ _ k3
 ·have k3:(#[c]:Array Value)=#[.int .i64 z]:=k2;simp at k3;exact hc _ _ k3
 ·have k3:(#[d]:Array Value)=#[.int .i64 z]:=k2;simp at k3;exact hd _ _ k3
end Go.Ns
namespace Go.Ns
section
variable {m:Ej} {b np i k n:Nat}
structure Ej.Sym(m:Ej):Prop where
 ok:m.ok
 diag:∀i,m i i=0
 sym:∀i k,m i k=m k i
theorem Wi(b i:Nat)(m:Ej)(hd:m b b=0)(h0:m.ok):∀n x y,Hx b i m n x y=if x=i/\y<n then min (m i y) (m i b+m b y) else m x y
 | 0,x,y=>by rw [if_neg aA];rfl
 | n+1,x,y=>by
  have ih:=Wi b i m hd h0 n;have e:Hx b i m (n+1)=Pf b i (Hx b i m n) n:=Aq _ _ _;rw [e];unfold Pf Ej.set;by_cases hxy:x=i/\y=n
  ·obtain ⟨rfl,rfl⟩:=hxy;rw [if_pos ⟨rfl,rfl⟩,if_pos ⟨rfl,Nat.lt_succ_self _⟩,ih x y,if_neg aA,ih x b,ih b y];have hb:=h0 x b;have hby:=h0 b y;have hd2:=hd;by_cases h1:x=x/\b<y
   ·rw [if_pos h1];by_cases h2:b=x/\y<y
    ·omega
    ·rw [if_neg h2];rw [hd2];omega
   ·rw [if_neg h1];by_cases h2:b=x/\y<y
    ·omega
    ·rw [if_neg h2]
  ·rw [if_neg hxy,ih x y];by_cases h1:x=i/\y<n
   ·rw [if_pos h1,if_pos ⟨h1.1,aA⟩]
   ·rw [if_neg h1,if_neg (λe=>h1 ⟨e.1,aA⟩)]
theorem farI1_get(b i:Nat)(m:Ej)(hd:m b b=0)(h0:m.ok)(x y:Nat):Om b np m i x y=if x=i/\y<np then min (m i y) (m i b+m b y) else m x y:=by
 unfold Om;split
 ·rename_i e
  by_cases h1:x=i/\y<np
  ·obtain ⟨rfl,h2⟩:=h1;rw [if_pos ⟨rfl,h2⟩,e]
   have:=h0 x y
   have:=h0 b y
   omega
  ·rw [if_neg h1]
 ·exact Wi b i m hd h0 np x y
theorem Rk(b:Nat)(m:Ej)(hd:m b b=0)(h0:m.ok):∀n x y,E8 b np m n x y=if x<n/\y<np then min (m x y) (m x b+m b y) else m x y
 | 0,x,y=>by rw [if_neg aA];rfl
 | n+1,x,y=>by
  have ih:=Rk b m hd h0 n;have e:E8 b np m (n+1)=Om b np (E8 b np m n) n:=Aq _ _ _;have hd2:E8 b np m n b b=0:=by rw [ih b b,hd];split <;> omega
  rw [e,farI1_get b n _ hd2 (Pg h0)];by_cases h1:x=n/\y<np
  ·obtain ⟨rfl,h2⟩:=h1;rw [if_pos ⟨rfl,h2⟩,if_pos ⟨Nat.lt_succ_self _,h2⟩,ih x y,if_neg aA,ih x b,if_neg aA,ih b y];have h3:=h0 x b;have h4:=h0 b y;by_cases h5:b<x/\y<np
   ·rw [if_pos h5,hd];omega
   ·rw [if_neg h5]
  ·rw [if_neg h1,ih x y];by_cases h2:x<n/\y<np
   ·rw [if_pos h2,if_pos ⟨aA,h2.2⟩]
   ·rw [if_neg h2,if_neg (λe=>aA)]
structure FW(np n:Nat)(m0 m:Ej):Prop where
 s:m.Sym
 tri:∀c,c<n->∀i k,i<np->k<np->m i k<=m i c+m c k
 le:∀i k,m i k<=m0 i k
theorem FW.step{m0:Ej}(h:FW np n m0 m)(hn:n<np):FW np (n+1) m0 (E8 n np m np):=by
 have g:=Rk (np:=np) n m (h.s.diag n) h.s.ok np;have s:=h.s;have p:=λi k=>s.ok i k;refine ⟨⟨Pg s.ok,λi=>?_,λi k=>?_⟩,λc hc i k hi hk=>?_,λi k=>?_⟩
 ·rw [g i i];have:=p i n;have:=p n i;have:=s.diag i;split <;> omega
 ·rw [g i k,g k i];have h1:=s.sym i k;have h2:=s.sym i n;have h3:=s.sym k n;by_cases c:i<np/\k<np
  ·rw [if_pos c,if_pos ⟨c.2,c.1⟩];omega
  ·rw [if_neg c,if_neg (λe=>c ⟨e.2,e.1⟩)];exact h1
 ·rw [g i k,g i c,g c k,if_pos ⟨hi,hk⟩,if_pos ⟨hi,aA⟩,if_pos ⟨aA,hk⟩];have d:=s.diag n
  have:=p i n
  have:=p n k
  have:=p n c
  have:=p c n
  rcases Nat.lt_or_ge c n with q | q
  ·have t1:=h.tri c q i k hi hk;have t2:=h.tri c q i n hi hn;have t3:=h.tri c q n k hn hk;omega
  ·have:c=n:=aA
   subst this;omega
 ·rw [g i k];have:=h.le i k;split <;> omega
theorem FW.all{m0:Ej}(s:m0.Sym):∀n,n<=np->FW np n m0 (Co np m0 n)
 | 0,_=>⟨s,λc hc=>absurd hc (Nat.not_lt_zero _),λ_ _=>Int.le_refl _⟩
 | n+1,h=>by
  have ih:=FW.all s n aA;have e:Co np m0 (n+1)=E8 n np (Co np m0 n) np:=Aq _ _ _;rw [e];exact ih.step aA
end
theorem Tq(i:Nat)(m:Ej):∀n x y,HU i m n x y=if x=i/\y<n/\i≠y then 1048576 else m x y
 | 0,x,y=>by rw [if_neg aA];rfl
 | n+1,x,y=>by
  have ih:=Tq i m n;have e:HU i m (n+1)=MG i (HU i m n) n:=Aq _ _ _;rw [e];unfold MG;by_cases h:(i:Int)=(n:Int)
  ·rw [if_neg (λq=>q h),ih x y];by_cases c:x=i/\y<n/\i≠y
   ·rw [if_pos c,if_pos ⟨c.1,aA,c.2.2⟩]
   ·rw [if_neg c,if_neg (λq=>c ⟨q.1,aA,q.2.2⟩)]
  ·rw [if_pos h];show (if x=i/\y=n then 1048576 else HU i m n x y)=_;by_cases c:x=i/\y=n
   ·rw [if_pos c,if_pos ⟨c.1,aA,aA⟩]
   ·rw [if_neg c,ih x y];by_cases d:x=i/\y<n/\i≠y
    ·rw [if_pos d,if_pos ⟨d.1,aA,d.2.2⟩]
    ·rw [if_neg d,if_neg (λq=>d ⟨q.1,aA,q.2.2⟩)]
theorem Ku:∀n x y,JG n x y=if x<n/\y<4/\x≠y then 1048576 else 0
 | 0,x,y=>by rw [if_neg aA];rfl
 | n+1,x,y=>by
  have ih:=Ku n;have e:JG (n+1)=HU n (JG n) 4:=Aq _ _ _;rw [e,Tq,ih x y];by_cases c:x=n/\y<4/\n≠y
  ·rw [if_pos c,if_pos ⟨aA,c.2.1,aA⟩]
  ·rw [if_neg c];by_cases d:x<n/\y<4/\x≠y
   ·rw [if_pos d,if_pos ⟨aA,d.2⟩]
   ·rw [if_neg d,if_neg (λq=>aA)]
theorem far0_sym:(JG 4).Sym:=⟨far0_ok,λi=>by rw [Ku,if_neg (λq=>q.2.2 rfl)],λi k=>by
 rw [Ku,Ku];by_cases c:i<4/\k<4/\i≠k
 ·rw [if_pos c,if_pos ⟨c.2.1,c.1,c.2.2.symm⟩]
 ·rw [if_neg c,if_neg (λq=>c ⟨q.2.1,q.1,q.2.2.symm⟩)]⟩
section
variable {p:AC} {ws:List AB} {np:Nat}
structure NF(ws:List AB):Prop where
 rng:∀k,k<ws.length->0<=(ws.getD k AB.z).a/\(ws.getD k AB.z).a<(ws.getD k AB.z).b
 one:∀j k,j<k->k<ws.length->¬((ws.getD j AB.z).a=(ws.getD k AB.z).a/\(ws.getD j AB.z).b=(ws.getD k AB.z).b)
theorem Iv(h:∀k,k<ws.length->DM np ws k=0):NF ws:=by
 have key:∀k,k<ws.length->(0<=(ws.getD k AB.z).a)/\¬(ws.getD k AB.z).b<=(ws.getD k AB.z).a/\(ws.take k).any (λy=>decide (y.a=(ws.getD k AB.z).a/\y.b=(ws.getD k AB.z).b))=false:=λk hk=>by
  have w:=(YY h k hk).1.1
  have:=h k hk
  unfold DM at this;split at this
  ·rename_i a;exact absurd this a
  ·split at this
   ·cases this
   ·rename_i b
    split at this
    ·cases this
    ·rename_i c
     exact ⟨w,b,by simpa using c⟩
 refine ⟨λk hk=>⟨(key k hk).1,by have:=(key k hk).2.1;omega⟩,λj k hj hk e=>?_⟩
 have:=(key k hk).2.2
 rw [Wh (d:=AB.z) hj aA (decide_eq_true e)] at this;cases this
theorem MP(m:Ej)(k x y:Nat)(hk:(ws.getD k AB.z).a.toNat≠(ws.getD k AB.z).b.toNat):Kj p ws m k x y=if (x=(ws.getD k AB.z).a.toNat/\y=(ws.getD k AB.z).b.toNat)\/(x=(ws.getD k AB.z).b.toNat/\y=(ws.getD k AB.z).a.toNat) then p.ways k else m x y:=by
 unfold Kj Ej.set;by_cases c:x=(ws.getD k AB.z).b.toNat/\y=(ws.getD k AB.z).a.toNat
 ·rw [if_pos c,if_pos (.inr c)]
 ·rw [if_neg c];by_cases d:x=(ws.getD k AB.z).a.toNat/\y=(ws.getD k AB.z).b.toNat
  ·rw [if_pos d,if_pos (.inl d)]
  ·rw [if_neg d,if_neg (λq=>q.elim d c)]
theorem Kv(hp:BF p)(hw:NF ws):∀n,n<=ws.length->(A0 p ws n).Sym
 | 0,_=>far0_sym
 | n+1,h=>by
  have ih:=Kv hp hw n aA;have r:=hw.rng n aA;have g:=λx y=>MP (p:=p) (ws:=ws) (A0 p ws n) n x y aA;have e:A0 p ws (n+1)=Kj p ws (A0 p ws n) n:=Aq _ _ _;refine ⟨MH hp,λi=>?_,λi k=>?_⟩
  ·rw [e,g,if_neg aA];exact ih.diag i
  ·rw [e,g,g];by_cases c:(i=(ws.getD n AB.z).a.toNat/\k=(ws.getD n AB.z).b.toNat)\/(i=(ws.getD n AB.z).b.toNat/\k=(ws.getD n AB.z).a.toNat)
   ·rw [if_pos c,if_pos aA]
   ·rw [if_neg c,if_neg aA];exact ih.sym i k
theorem Rn(hw:NF ws):∀n,n<=ws.length->∀k,k<n->A0 p ws n (ws.getD k AB.z).a.toNat (ws.getD k AB.z).b.toNat=p.ways k
 | 0,_,k,hk=>absurd hk (Nat.not_lt_zero _)
 | n+1,h,k,hk=>by
  have r:=hw.rng n aA;have rk:=hw.rng k aA;have g:=λx y=>MP (p:=p) (ws:=ws) (A0 p ws n) n x y aA;have e:A0 p ws (n+1)=Kj p ws (A0 p ws n) n:=Aq _ _ _;rw [e,g];by_cases q:k=n
  ·subst q;rw [if_pos (.inl ⟨rfl,rfl⟩)]
  ·have one:=hw.one k n aA aA;rw [if_neg aA];exact Rn hw n aA k aA
theorem G6(hp:BF p)(hw:NF ws):FW np np (A0 p ws ws.length) (Ar np ws p):=FW.all (Kv hp hw _ (Nat.le_refl _)) np (Nat.le_refl _)
theorem YZ(hp:BF p)(hw:NF ws){k:Nat}(hk:k<ws.length):Ar np ws p (ws.getD k AB.z).a.toNat (ws.getD k AB.z).b.toNat<=p.ways k:=by
 have:=(G6 (np:=np) hp hw).le (ws.getD k AB.z).a.toNat (ws.getD k AB.z).b.toNat
 rwa [Rn hw _ (Nat.le_refl _) k hk] at this
end
end Go.Ns
namespace Go.Ns
section
variable {ws:List AB} {c:Fj} {x:AB} {i n k np:Nat}
theorem Kw(h:c i=true):FI c x i=true:=by
 unfold FI Fj.set;by_cases e:i=x.b.toNat
 ·rw [if_pos e];by_cases e2:x.b.toNat=x.a.toNat
  ·rw [if_pos e2];rw [e,e2] at h;rw [h];simp
  ·rw [if_neg e2,<-e,h];simp
 ·rw [if_neg e];by_cases e2:i=x.a.toNat
  ·rw [if_pos e2,<-e2,h];simp
  ·rw [if_neg e2];exact h
theorem Wj(h:c x.a.toNat=true\/c x.b.toNat=true):FI c x x.a.toNat=true/\FI c x x.b.toNat=true:=by
 unfold FI Fj.set;rcases h with h | h
 ·constructor
  ·by_cases e:x.a.toNat=x.b.toNat
   ·rw [if_pos e];simp [h]
   ·rw [if_neg e];simp [h]
  ·rw [if_pos rfl];simp [h]
 ·constructor
  ·by_cases e:x.a.toNat=x.b.toNat
   ·rw [if_pos e];simp [h]
   ·rw [if_neg e];simp [h]
  ·rw [if_pos rfl];simp [h]
theorem H2:∀(l:List AB)(c:Fj),c i=true->l.foldl FI c i=true
 | [],_,h=>h
 | x ::l,c,h=>H2 l _ (Kw h)
theorem Jy:∀(l:List AB)(c:Fj),x ∈ l->(c x.a.toNat=true\/c x.b.toNat=true)->l.foldl FI c x.a.toNat=true/\l.foldl FI c x.b.toNat=true
 | y ::l,c,hx,h=>by
  rcases List.mem_cons.1 hx with e | hx
  ·subst e;have b:=Wj h;exact ⟨H2 l _ b.1,H2 l _ b.2⟩
  ·exact Jy l _ hx (h.imp Kw Kw)
theorem Kx:∀n (c:Fj),EF ws (n+1) c=HT ws (EF ws n c)
 | 0,_=>rfl
 | n+1,c=>Kx n (HT ws c)
theorem N7{m:Nat}(h:EF ws n c i=true):∀d,m=n+d->EF ws m c i=true
 | 0,e=>by rw [e];exact h
 | d+1,e=>by
  rw [e,show n+(d+1)=(n+d)+1 by omega,Kx];exact H2 ws _ (N7 h d rfl)
def c0:Fj:=Fj.none.set 0 true
def JR(ws:List AB)(l:List Int):Prop:=∀i,i<l.length->EF ws i c0 (l.getD i 0).toNat=true
theorem JR.snoc{l:List Int}{q:Int}(h:JR ws l)(hq:EF ws l.length c0 q.toNat=true):JR ws (l++[q]):=λi hi=>by
 rw [List.length_append,List.length_singleton] at hi;rw [Gc];by_cases e:i<l.length
 ·rw [if_pos e];exact h i e
 ·rw [if_neg e,show i=l.length by omega,Nat.sub_self];exact hq
theorem JR.step{l:List Int}(h:JR ws l)(hk:k<l.length)(hx:x ∈ ws):JR ws (Cz l k x):=by
 have one:∀{l:List Int}{p q:Int},JR ws l->k<l.length->(x.a=p/\x.b=q\/x.b=p/\x.a=q)->JR ws (Hi l k p q):=by
  intro l p q h hk hpq;unfold Hi;split
  ·rename_i e
   have f:=h k hk;rw [<-e.1] at f;have g:EF ws (k+1) c0 q.toNat=true:=by
    rw [Kx];rcases hpq with ⟨rfl,rfl⟩ | ⟨rfl,rfl⟩
    ·exact (Jy ws _ hx (.inl f)).2
    ·exact (Jy ws _ hx (.inr f)).1
   exact h.snoc (N7 g (l.length-(k+1)) aA)
  ·exact h
 have h1:=one h hk (.inl ⟨rfl,rfl⟩);have hl:=(Ib l k x.a x.b).length_le;exact one h1 aA (.inr ⟨rfl,rfl⟩)
theorem JR.ways{l:List Int}(h:JR ws l)(hk:k<l.length):∀j,j<=ws.length->JR ws (Ai ws l k j)
 | 0,_=>h
 | j+1,hj=>(JR.ways h hk j aA).step (Nat.lt_of_lt_of_le hk (Ft j).length_le) (BL aA)
theorem N8:∀k,JR ws (Ao ws k)
 | 0=>λi hi=>by
  have:i=0:=by
   have:i<1:=hi
   omega
  subst this;rfl
 | k+1=>by
  unfold Ao;split
  ·rename_i e;exact (N8 k).ways e _ (Nat.le_refl _)
  ·exact N8 k
theorem VI(hn:0<np)(hw:MO np ws)(h:¬(C8 ws).length<np):Ei np ws=0:=by
 have ok:HX np (C8 ws):=JQ hn hw 4;have hl:=ok.len;have all:∀y,y<np->EF ws np c0 y=true:=λy hy=>by
  have mem:(y:Int) ∈ C8 ws:=Decidable.byContradiction λe=>by
   have:=(ok.snoc (x:=(y:Int)) ⟨aA,aA⟩ e).len
   rw [List.length_append,List.length_singleton] at this;omega
  obtain ⟨i,hi,e⟩:=List.mem_iff_getElem.1 mem;have f:EF ws i c0 ((C8 ws).getD i 0).toNat=true:=N8 (ws:=ws) 4 i hi;have e2:(C8 ws).getD i 0=(y:Int):=by
   rw [List.getD_eq_getElem?_getD,List.getElem?_eq_getElem hi];exact e
  rw [e2] at f;exact N7 f (np-i) (by have hi':i<(C8 ws).length:=hi;omega)
 unfold Ei;rw [if_neg];intro e;obtain ⟨b,hb,hf⟩:=List.any_eq_true.1 e;unfold Mw at hb;obtain ⟨y,hy,rfl⟩:=List.mem_map.1 hb
 have:EF ws np (Fj.none.set 0 true) y=true:=all y (List.mem_range.1 hy)
 rw [this] at hf;cases hf
end
section
variable {bag kinds:Int} {ps:List ByteArray} {ws:List AB} {js:List AK} {ns:List AJ}
end
end Go.Ns
namespace Go.Ns
open Go.Conc
section
variable {P:Program} {E:Gq P} {O:Nat->Value} {ds:List Deferred} {h:GH} {T:(Nat->Value)->List Deferred->GH->Prop} {dst:Option Nat} {ty:TypeId} {pos:String} {af:Array Edge} {gd:Option (Nat×Bool)}
theorem ok_neqB{xt yt:TypeId}{x y:Operand}{a b:Bool}(hx:AQ O x=.bool a)(hy:AQ O y=.bool b)(he:Pb P 1 xt (.bool a) (.bool b)=some (a==b))(k:T (putS O dst (.bool (a !=b))) ds h):Bb E ⟨dst,.binOp .neq xt x y yt,ty,pos,af,gd⟩ O ds h T:=by
 unfold Bb execOp;simp only [hx,hy];refine F3 (AF _ _ ?_);have hg:∀(Q:Unit->GH->Prop),Q () h->(eqGuard .neq xt x y (.bool a) (.bool b)).gh P h Q:=λQ q=>q;refine hg _ ?_;show Sem.gh P (do pure (Value.bool (!(<-Op.equal xt (.bool a) (.bool b)))):Sem Value) h _;refine AF _ _ ?_;exact IJ 1 _ _ _ _ (a==b) h _ aC he k
end
section
variable {F G:AC->Int} {l:List AC} {x:AC}
theorem fHi_mem(h:0<l.length):∀k,k<=l.length-1->∃x ∈ l,RM F l k=F x
 | 0,_=>⟨_,BL h,rfl⟩
 | k+1,hk=>by
  obtain ⟨x,hx,e⟩:=fHi_mem h k aA;rcases Int.le_total (RM F l k) (F ((l.drop 1).getD k AC.zero)) with q | q
  ·exact ⟨_,TY aA,Int.max_eq_right q⟩
  ·exact ⟨x,hx,(Int.max_eq_left q).trans e⟩
theorem Ky{k:Nat}:(l.drop 1).getD k AC.zero=l.getD (k+1) AC.zero:=by
 rw [List.getD_eq_getElem?_getD,List.getElem?_drop,<-List.getD_eq_getElem?_getD,Nat.add_comm]
theorem fHi_ge:∀k j,j<=k->F (l.getD j AC.zero)<=RM F l k
 | 0,j,h=>by rw [show j=0 by omega];exact Int.le_refl _
 | k+1,j,h=>by
  show _<=max (RM F l k) (F ((l.drop 1).getD k AC.zero));rcases Nat.lt_or_ge j (k+1) with q | q
  ·have:=fHi_ge k j aA;omega
  ·have e:j=k+1:=aA
   subst e;rw [Ky];omega
theorem past_at(hx:x ∈ l):∃j,j<=l.length-1/\x=l.getD j AC.zero:=by
 obtain ⟨j,hj,e⟩:=List.mem_iff_getElem.1 hx;exact ⟨j,aA,by rw [List.getD_eq_getElem?_getD,List.getElem?_eq_getElem hj];exact e.symm⟩
theorem fMax_ge(hx:x ∈ l):F x<=A3 F l:=by obtain ⟨j,hj,rfl⟩:=past_at hx;exact fHi_ge _ j hj
theorem fMax_mem(h:0<l.length):∃x ∈ l,A3 F l=F x:=fHi_mem h _ (Nat.le_refl _)
end
section
variable {bag kinds:Int} {ps:List ByteArray} {ws:List AB} {js:List AK} {ns:List AJ} {a b c:Int}
end
section
variable {bag kinds:Int} {ps:List ByteArray} {ws:List AB} {js:List AK} {ns:List AJ} {a b c s:Int}
end
end Go.Ns
namespace Go.Ns
open Go.Conc
section
variable {P:Program} {Post:Value->World->Prop}
def mainW(P:Program)(Post:Value->World->Prop):Wk P:=⟨true,EC P Post,Lj⟩
theorem VJ:MB (mainW P Post):=⟨Post,rfl⟩
theorem top_of_tr{f:FuncId}{fn:Func}{c:Code}{args:Array Value}{h:GH}{R:Value->GH->Prop}(hf:P.funcs[f]? =some fn)(hb:fn.body=some c)(hsz:args.size<=fn.ntmps)(hin:P.inits.idxOf? f=none)(hpost:∀v h',R v h'->∀w,EN w h'->Post v w)
  (x:Tr ⟨mainW P Post,f,none,fn.ntmps⟩ c (λi=>args.getD i undef) [] h (λe O ds h'=>(e=.normal\/e=.ret)/\Gr P fn O R ds h')):EC P Post (G (Frame.enter P f args .normal) []) h:=by
 have e0:Frame.enter P f args .normal=Cp (Frame.enter P f args .normal) (args++Array.replicate (fn.ntmps-args.size) undef) [] [.code c]:=by
  simp [Frame.enter,Cp,hf,hb]
 rw [e0];let L:Lv:=λj t ds h'=>(j=none\/j=some .ret)/\∃O,Bf t fn.ntmps O/\Gr P fn O R ds h';have fin:∀O ds h' t k,Bf t fn.ntmps O->Gr P fn O R ds h'->(mainW P Post).K (G (E4 (Frame.enter P f args .normal) t ds k) []) h':=by
  intro O ds h' t k hs ho;refine OV (W:=mainW P Post) (R:=R) hf (b:=Frame.enter P f args .normal) rfl (λt k v h h' hr hrun=>?_) ds h' t k hs ho;refine Xo rfl λw fw=>?_;obtain ⟨w',es,r1,r2⟩:=hrun w fw;refine ⟨v,w',seen P f es++ #[],h',?_,r2.sub (es':=seen P f es++ #[]) λe he=>?_,hpost v h' hr w' r2.fits⟩
  ·rw [L3];unfold unwind;have hfn:(E4 (Frame.enter P f args .normal) t [] k).fn=f:=rfl;have hk:(E4 (Frame.enter P f args .normal) t [] k).kind=.normal:=rfl;have hm:(E4 (Frame.enter P f args .normal) t [] k).mode=.returning:=rfl;have hd:(E4 (Frame.enter P f args .normal) t [] k).defers=[]:=rfl;have ht:(E4 (Frame.enter P f args .normal) t [] k).tmps=t:=rfl;simp only [hd,hm,hfn,hf,ht,r1,GStep.after,doReturn,hk,hin];rfl
  ·rw [Array.append_empty] at he;exact mem_seen he
 refine x (Frame.enter P f args .normal) [] [] L _ rfl rfl ⟨?_,?_,?_⟩ ⟨by simp;omega,λi=>?_⟩ ?_
 ·rintro t ds h' ⟨_,O,hs,ho⟩;exact Wk.go (E4 (Frame.enter P f args .normal) t ds []) (λw=>by rw [A9];simp [stepG.exec,Cp,E4,G,Frame.enter]) (fin O ds h' t [] hs ho)
 ·rintro t ds h' k ⟨_,O,hs,ho⟩;exact Wk.go (E4 (Frame.enter P f args .normal) t ds (.code .ret ::k)) (λw=>by rw [A9];simp [stepG.exec,Cp,E4,G,Frame.enter]) (fin O ds h' t _ hs ho)
 ·rintro id t ds h' k _ ⟨h1 | h1,_⟩ <;> cases h1
 ·by_cases hi:i<args.size
  ·simp [Array.getD_eq_getD_getElem?,Array.getElem?_append_left hi]
  ·simp only [Array.getD_eq_getD_getElem?];rw [Array.getElem?_append_right aA,Array.getElem?_eq_none (show args.size<=i by omega),Array.getElem?_replicate];split <;> rfl
 ·rintro e O ds h' ⟨he,ho⟩ t' ht';rcases he with rfl | rfl
  ·exact Wk.go (E4 (Frame.enter P f args .normal) t' ds []) (λw=>by rw [A9];simp [stepG.exec,Cp,E4,G,Frame.enter]) (fin O ds h' t' [] ht' ho)
  ·exact ⟨.inr rfl,O,ht',ho⟩
def GH.of(W:World):GH:=λb=>(W.heap[b]?).map λo=>(false,o)
theorem GH.of_some{W:World}{b:Nat}{o:Obj}(h:W.heap[b]? =some o):GH.of W b=some (false,o):=by unfold GH.of;rw [h];rfl
theorem fits_of(W:World):EN W (GH.of W):=λb p o h=>by
 unfold GH.of at h;cases e:W.heap[b]? with
 | none=>rw [e] at h;cases h
 | some x=>rw [e] at h;cases h;rfl
theorem kept_of{W w:World}{h:GH}(l:(GH.of W).Le h)(f:EN w h){b:Nat}{o:Obj}(hb:W.heap[b]? =some o):w.heap[b]? =some o:=f b _ _ (l.keep (GH.of_some hb) rfl)
theorem Ya{g:Goroutine}{W:World}(hg:EC P Post g (GH.of W)):By P (Jc Post W.os W.output) (solo g W) #[]:=by
 have hno:∀k a,touchAt (#[]:Trace) k=some a->False:=λk a h=>by
  obtain ⟨op,h1,_⟩:=touch_of h;simp at h1
 refine hg #[g] W none (λ_=>0) #[] ⟨rfl,?_,fits_of W,?_,?_,λk a b hk=>(hno k a hk).elim,?_,λk a hk=>(hno k a hk).elim,λb p o k a _ _ hk=>(hno k a hk).elim⟩
 ·intro j x hj hx;rw [Array.getElem?_eq_none (by simp;omega)] at hx;cases hx
 ·intro op Ck;simp at Ck
 ·rintro said ⟨i,j,hij,⟨a,b,ha,_⟩,_⟩;exact hno i a ha
 ·intro op Ck;simp at Ck
end
end Go.Ns
namespace Go.Ns
open Go.Conc Go.ChangeShapes Go.WideShapes Go.ChangeAt Go.RowKit
section
variable {P:Program} {W:World}
theorem Ro{b off n:Nat}{cs:List Value}(h:W.cells? 0 ⟨b,off,none⟩ n=some cs)(hn:0<n):AT (GH.of W) b off n cs.toArray:=by
 obtain ⟨_,hl,hc⟩:=World.cells?_some h;have hcell:∀i,i<n->W.cell? ⟨b,off+i,none⟩=cs[i]? :=λi hi=>by
  have:=hc i hi
  unfold Addr.add at this;split at this
  ·rename_i e;subst e;exact this
  ·exact this
 have h0:=hcell 0 hn;unfold World.cell? at h0;cases hb:W.heap[b]? with
 | none=>simp [hb,List.getElem?_eq_getElem (show 0<cs.length by omega)] at h0
 | some o=>
  cases o with
  | cells c t f=>
   have hall:∀i,i<n->c[off+i]? =cs[i]? :=λi hi=>by
    have:=hcell i hi
    unfold World.cell? at this;simpa [hb] using this
   have hlast:=hall (n-1) aA;rw [List.getElem?_eq_getElem (show n-1<cs.length by omega)] at hlast;have hsz:=(Array.getElem?_eq_some_iff.1 hlast).1;refine ⟨false,c,t,f,GH.of_some hb,aA,?_⟩;apply Array.ext
   ·simp;omega
   ·intro i h1 h2;have hi:i<n:=by simp at h2;omega
    have:=hall i hi
    rw [Array.getElem?_eq_getElem aA,List.getElem?_eq_getElem aA] at this;simpa using this
  | _=>simp [hb,List.getElem?_eq_getElem (show 0<cs.length by omega)] at h0
def Opens(P:Program)(e:TypeId){V:Type}(enc:V->Array Value)(good:V->Prop):Prop:=
 ∀{H:Type}(en:TypeId×Value->H)(W:World)(base:Nat)(sp:Nat->Bool)(held:Bool)(fuel:Nat)(cs:List Value)(x:DataW H×List MemPlace),DataW.trod en P W base sp held fuel e cs=some x->∃a:V,cs=(enc a).toList/\good a
theorem open_sl{H:Type}{en:TypeId×Value->H}{sp:Nat->Bool}{held:Bool}{fuel:Nat}{t e:TypeId}{n:Nat}{V:Type}{enc:V->Array Value}{good:V->Prop}{v:Value}{d:DataW H}{ps:List MemPlace}(ht:P.underlying t=some (.slice e))(hc:P.cellsOf e=n)(hn:0<n)
  (ho:Opens P e enc good) (h:DataW.trod en P W 0 sp held fuel t [v]=some (d,ps)) (hw:∀es rs,d=.slice es rs->es.length<=140737488355328):∃xs:List V,AO (GH.of W) v n enc xs/\∀x ∈ xs,good x:=by
 rcases DataW.trod_slice ht h with ⟨h1,_⟩ | ⟨a,len,cap,elems,rest,m,rfl,h1,h2,_,hl,_,hlen,hel,_,_⟩
 ·simp at h1;subst h1;exact ⟨[],AO.nil _ _ _,λx hx=>by cases hx⟩
 ·simp only [List.cons.injEq,and_true] at h1;subst h1;simp only [Prod.mk.injEq] at h2;have hlim:len<=140737488355328:=by
   have:=hw _ _ h2.1
   simpa [hlen] using this
  have each:∀i,i<len->∃x:V,∃b off,a=⟨b,off,none⟩/\AT (GH.of W) b (off+i*n) n (enc x)/\good x:=λi hi=>by
   have:=hel i hi
   rw [List.getElem?_eq_getElem aA,hc] at this;simp only [Option.bind_eq_some_iff] at this;obtain ⟨cs,hcs,hx⟩:=this;obtain ⟨x,e1,e2⟩:=ho _ _ _ _ _ _ _ _ hx;have hc0:=(World.cells?_some hcs).2.2 0 hn;have hlen2:=(World.cells?_some hcs).2.1;rw [List.getElem?_eq_getElem (show 0<cs.length by omega)] at hc0;have hsp:=World.cell?_spot hc0;obtain ⟨b,off,spot⟩:=a;have hspot:spot=none\/i≠0:=by
    by_cases e0:i=0
    ·subst e0;left;simpa [Addr.add] using hsp
    ·exact .inr e0
   have hfirst:spot=none:=by
    rcases hspot with e | e
    ·exact e
    ·have h00:=hel 0 aA;rw [List.getElem?_eq_getElem aA,hc] at h00;simp only [Option.bind_eq_some_iff] at h00;obtain ⟨c0,hc00,_⟩:=h00;have z:=(World.cells?_some hc00).2.2 0 hn;have zl:=(World.cells?_some hc00).2.1;rw [List.getElem?_eq_getElem (show 0<c0.length by omega)] at z
     have:=World.cell?_spot z
     simpa [Addr.add] using this
   subst hfirst;refine ⟨x,b,off,rfl,?_,e2⟩;have ea:(Addr.add ⟨b,off,none⟩ (i*n))=⟨b,off+i*n,none⟩:=by
    unfold Addr.add;split
    ·rename_i e;rw [e];rfl
    ·rfl
   rw [ea] at hcs
   have:=Ro hcs hn
   rw [e1] at this;simpa using this
  by_cases hz:len=0
  ·subst hz;exact ⟨[],⟨some a,cap,rfl,Nat.zero_le _,Nat.zero_le _,λi hi=>by simp at hi⟩,λx hx=>by cases hx⟩
  ·have hch:∀i:Fin len,∃x:V,∃b off,a=⟨b,off,none⟩/\AT (GH.of W) b (off+i.val*n) n (enc x)/\good x:=λi=>each i.val i.isLt;refine ⟨List.ofFn λi=>Classical.choose (hch i),⟨some a,cap,by rw [List.length_ofFn],by rw [List.length_ofFn];exact hl,by rw [List.length_ofFn];exact hlim,λi hi=>?_⟩,λx hx=>?_⟩
   ·rw [List.length_ofFn] at hi;obtain ⟨b,off,e1,e2,_⟩:=Classical.choose_spec (hch ⟨i,hi⟩);refine ⟨b,off,by rw [e1],?_⟩;rw [List.getElem_ofFn];exact e2
   ·obtain ⟨i,rfl⟩:=List.mem_ofFn.1 hx;obtain ⟨_,_,_,_,e3⟩:=Classical.choose_spec (hch i);exact e3
def N9(P:Program)(W:World)(e:TypeId){V:Type}(enc:V->Array Value)(good:V->Prop):Prop:=
 ∀{H:Type}(en:TypeId×Value->H)(sp:Nat->Bool)(held:Bool)(fuel:Nat)(cs:List Value)(x:DataW H×List MemPlace),DataW.trod en P W 0 sp held fuel e cs=some x->(∀y ∈ x.1.weights P e,y<=reachBytes)->∃a:V,cs=(enc a).toList/\good a
theorem Kz{H:Type}{e:TypeId}{d:DataW H}{y:Nat}:∀{l:List (DataW H)},d ∈ l->y ∈ d.weights P e->y ∈ DataW.weightsAll P e l
 | c ::l,hd,hy=>by
  unfold DataW.weightsAll;rcases List.mem_cons.1 hd with rfl | hd
  ·exact List.mem_append_left _ hy
  ·exact List.mem_append_right _ (Kz hd hy)
theorem JS{H:Type}{en:TypeId×Value->H}{sp:Nat->Bool}{held:Bool}{fuel:Nat}{t e:TypeId}{n:Nat}{V:Type}{enc:V->Array Value}{good:V->Prop}{v:Value}{d:DataW H}{ps:List MemPlace}(ht:P.underlying t=some (.slice e))(hc:P.cellsOf e=n)(hn:0<n)
  (hb:1<=P.bytesOf e) (ho:N9 P W e enc good) (h:DataW.trod en P W 0 sp held fuel t [v]=some (d,ps)) (hw:∀y ∈ d.weights P t,y<=reachBytes):∃xs:List V,AO (GH.of W) v n enc xs/\∀x ∈ xs,good x:=by
 rcases DataW.trod_slice ht h with ⟨h1,_⟩ | ⟨a,len,cap,elems,rest,m,rfl,h1,h2,_,hl,_,hlen,hel,_,_⟩
 ·simp at h1;subst h1;exact ⟨[],AO.nil _ _ _,λx hx=>by cases hx⟩
 ·simp only [List.cons.injEq,and_true] at h1;subst h1;simp only [Prod.mk.injEq] at h2;have hd:d=.slice (elems.map (·.1)) (rest.map (·.1)):=h2.1;have hlim:len<=140737488355328:=by
   have:=hw ((elems.map (·.1)).length+(rest.map (·.1)).length |>.mul (P.bytesOf e)) (by rw [hd];unfold DataW.weights;rw [ht];exact List.mem_cons_self ..)
   have h3:(elems.map (·.1)).length+(rest.map (·.1)).length<=((elems.map (·.1)).length+(rest.map (·.1)).length)*P.bytesOf e:=Nat.le_mul_of_pos_right _ hb;have h4:((elems.map (·.1)).length+(rest.map (·.1)).length)*P.bytesOf e<=reachBytes:=this;rw [List.length_map] at h3 h4;unfold reachBytes at h4;omega
  have each:∀i,i<len->∃x:V,∃b off,a=⟨b,off,none⟩/\AT (GH.of W) b (off+i*n) n (enc x)/\good x:=λi hi=>by
   have:=hel i hi
   rw [List.getElem?_eq_getElem aA,hc] at this;simp only [Option.bind_eq_some_iff] at this;obtain ⟨cs,hcs,hx⟩:=this;obtain ⟨x,e1,e2⟩:=ho _ _ _ _ _ _ hx λy hy=>hw y (by rw [hd];unfold DataW.weights;rw [ht];exact List.mem_cons_of_mem _ (List.mem_append_left _ (Kz (List.mem_map.2 ⟨_,List.getElem_mem (show i<elems.length by omega),rfl⟩) hy)));have hc0:=(World.cells?_some hcs).2.2 0 hn;have hlen2:=(World.cells?_some hcs).2.1;rw [List.getElem?_eq_getElem (show 0<cs.length by omega)] at hc0;have hsp:=World.cell?_spot hc0;obtain ⟨b,off,spot⟩:=a;have hspot:spot=none\/i≠0:=by
    by_cases e0:i=0
    ·subst e0;left;simpa [Addr.add] using hsp
    ·exact .inr e0
   have hfirst:spot=none:=by
    rcases hspot with e | e
    ·exact e
    ·have h00:=hel 0 aA;rw [List.getElem?_eq_getElem aA,hc] at h00;simp only [Option.bind_eq_some_iff] at h00;obtain ⟨c0,hc00,_⟩:=h00;have z:=(World.cells?_some hc00).2.2 0 hn;have zl:=(World.cells?_some hc00).2.1;rw [List.getElem?_eq_getElem (show 0<c0.length by omega)] at z
     have:=World.cell?_spot z
     simpa [Addr.add] using this
   subst hfirst;refine ⟨x,b,off,rfl,?_,e2⟩;have ea:(Addr.add ⟨b,off,none⟩ (i*n))=⟨b,off+i*n,none⟩:=by
    unfold Addr.add;split
    ·rename_i e;rw [e];rfl
    ·rfl
   rw [ea] at hcs
   have:=Ro hcs hn
   rw [e1] at this;simpa using this
  by_cases hz:len=0
  ·subst hz;exact ⟨[],⟨some a,cap,rfl,Nat.zero_le _,Nat.zero_le _,λi hi=>by simp at hi⟩,λx hx=>by cases hx⟩
  ·have hch:∀i:Fin len,∃x:V,∃b off,a=⟨b,off,none⟩/\AT (GH.of W) b (off+i.val*n) n (enc x)/\good x:=λi=>each i.val i.isLt;refine ⟨List.ofFn λi=>Classical.choose (hch i),⟨some a,cap,by rw [List.length_ofFn],by rw [List.length_ofFn];exact hl,by rw [List.length_ofFn];exact hlim,λi hi=>?_⟩,λx hx=>?_⟩
   ·rw [List.length_ofFn] at hi;obtain ⟨b,off,e1,e2,_⟩:=Classical.choose_spec (hch ⟨i,hi⟩);refine ⟨b,off,by rw [e1],?_⟩;rw [List.getElem_ofFn];exact e2
   ·obtain ⟨i,rfl⟩:=List.mem_ofFn.1 hx;obtain ⟨_,_,_,_,e3⟩:=Classical.choose_spec (hch i);exact e3
theorem OA{H:Type}{en:TypeId×Value->H}{t:TypeId}(hl:laidOutB P=true)(hr:P.readableRec t=true)(hrow:t<P.types.size){W':World}{v:Value}{d:DataW H}{ps:List MemPlace}(h:DataW.Trod en P W 0 (λ_=>true) true t v d ps)
  (hk:∀(b:Nat)(o:Obj),W.heap[b]? =some o->W'.heap[b]? =some o) (hlt:∀x ∈ ps,x.block<W.heap.size):DataW.Trod en P W' 0 (λb=>decide (b<W.heap.size)) true t v d ps:=by
 let W2:World:={ W' with os:=W.os,tape:=W.tape,output:=W.output };have hsz:W.heap.size<=W'.heap.size:=by
  rcases Nat.lt_or_ge W'.heap.size W.heap.size with x | x
  ·have:=hk W'.heap.size _ (Array.getElem?_eq_getElem x)
   rw [Array.getElem?_eq_none (Nat.le_refl _)] at this;cases this
  ·exact x
 have hb:Below W.heap.size W W2:=⟨rfl,rfl,rfl,hsz,λk hk'=>by
  show W'.heap[k]? =_;rw [Array.getElem?_eq_getElem hk'];exact hk k _ (Array.getElem?_eq_getElem hk')⟩
 exact DataW.Trod.of_heap (w:=W2) (w':=W') rfl (Below.trod hl hr hrow h hb hlt)
theorem kept_but{W':World}(hk:∀(b:Nat)(o:Obj),W.heap[b]? =some o->W'.heap[b]? =some o)(ho:W'.os=W.os)(hp:W'.output=W.output)(may:MemPlace->Prop):W.keptBut W' may:=by
 refine ⟨ho,hp,λi hi=>?_⟩;rw [hk i _ (Array.getElem?_eq_getElem hi),Array.getElem?_eq_getElem hi];split <;> simp_all
end
end Go.Ns
namespace Go.Ns
open Go.Conc
theorem Jz{P:Program}{E:Gq P}{O:Nat->Value}{ds:List Deferred}{h:GH}{T:(Nat->Value)->List Deferred->GH->Prop}{dst:Option Nat}{ty:TypeId}{pos:String}{af:Array Edge}{gd:Option (Nat×Bool)}{V:Type}
  {s x:TypeId} {o1 o2:Operand} {h0:GH} {w:Value} {r e n bytes:Nat} {enc:V->Array Value} {ys:List V} (ht:Ip P s x=some (e,n,bytes)) (h1:AQ O o1=.slice (some ⟨r,0,none⟩) 0 0) (h2:AQ O o2=w)
  (hv:AM h0 h (.slice (some ⟨r,0,none⟩) 0 0) e n enc ([]:List V)) (hw:AO h w n enc ys) (l0:∀q,h q=none->h0 q=none) (hb:(2*(([]:List V).length+ys.length)+512)*bytes<=2 ^ 48) (hfine:∀y ∈ ys,(enc y).toList.all (·.oneCell')=true)
  (k:∀v' h',AM h0 h' v' e n enc ys->GR h h' (.slice (some ⟨r,0,none⟩) 0 0) v'->h.Le h'->T (putS O dst v') ds h'):Bb E ⟨dst,.call ⟨.builtin .append,#[o1,o2],#[s,x]⟩,ty,pos,af,gd⟩ O ds h T:=
 P9 ht h1 h2 hv hw l0 hb hfine λv' h' o g1 g2 g3=>k v' h' o ⟨g1,g2⟩ (.of λb y hb=>by
  by_cases e:b=r
  ·subst e;rcases hv with ⟨q,_⟩ | ⟨b1,cap,c,q,_,q2,q3,_⟩
   ·cases q
   ·simp only [Value.slice.injEq,Option.some.injEq,Addr.mk.injEq,and_true] at q;obtain ⟨rfl,_,rfl⟩:=q;obtain ⟨c',q5,q6⟩:=g3 b c rfl q2;rw [q2] at hb;cases hb;rw [q5,Array.eq_empty_of_size_eq_zero (show c.size=0 by omega),Array.eq_empty_of_size_eq_zero (show c'.size=0 by omega)]
  ·exact g1 b y hb λq=>e (by simpa [Cg] using q.symm))
def Ja(n:Nat)(l:List Int):Prop:=l.Nodup/\∀x ∈ l,0<=x/\x<n
section
variable {n i:Nat} {l kn rest:List Int}
theorem Ja.at(h:Ja n l)(k:Nat)(hk:k<l.length):0<=l.getD k 0/\l.getD k 0<n:=h.2 _ (BL hk)
theorem Ja.bell(h:Ja n l):AV n l=0:=CU (k:=l.length) (λj hj=>by
 have r:=h.at j hj;have e:EP n (l.getD j 0)=0:=by unfold EP;rw [if_neg aA]
 unfold EQ;rw [if_neg (λq=>q e),if_neg];intro q;obtain ⟨x,hx,e2⟩:=List.any_eq_true.1 q;have e3:l.getD j 0=x:=of_decide_eq_true e2;obtain ⟨t,ht,e4⟩:=List.mem_iff_getElem.1 hx;rw [List.length_take] at ht;rw [List.getElem_take] at e4
 have:=(List.pairwise_iff_getElem.1 (List.nodup_iff_pairwise_ne.1 h.1)) t j aA hj aA
 rw [B5 0 hj] at e3;exact this (e4.trans e3.symm)) (Nat.le_refl _)
theorem Ja.len(h:Ja n l):l.length<=n:=ID h.bell
theorem Ja.left(h:Ja n (kn++rest)):Ja n kn:=⟨(List.nodup_append.1 h.1).1,λx hx=>h.2 x (List.mem_append_left _ hx)⟩
theorem perm_out{l:List Int}:∀{i:Nat}(hi:i<l.length),([l[i]]++l.eraseIdx i).Perm l:=by
 induction l with
 | nil=>intro i hi;cases hi
 | cons x l ih=>
  intro i hi;cases i with
  | zero=>exact List.Perm.refl _
  | succ i=>exact (List.Perm.swap _ _ _).trans ((ih (Nat.lt_of_succ_lt_succ hi)).cons x)
theorem Ja.next(h:Ja n (kn++rest))(hi:i<rest.length):Ja n (kn++[rest.getD i 0]++rest.eraseIdx i):=by
 have p:(kn++[rest.getD i 0]++rest.eraseIdx i).Perm (kn++rest):=by
  rw [List.append_assoc];refine List.Perm.append_left kn ?_;rw [B5 0 hi];exact perm_out hi
 exact ⟨p.nodup_iff.2 h.1,λx hx=>h.2 x (p.mem_iff.1 hx)⟩
theorem Ja.first(n:Nat):Ja n (CD n):=by
 induction n with
 | zero=>exact ⟨List.nodup_nil,λx hx=>by cases hx⟩
 | succ n ih=>
  have m:∀x ∈ CD n,0<=x/\x<(n:Int):=ih.2;refine ⟨List.nodup_append.2 ⟨ih.1,aD,λa ha b hb e=>?_⟩,λx hx=>?_⟩
  ·rw [List.mem_singleton.1 hb] at e
   have:=m a ha
   omega
  ·rcases List.mem_append.1 hx with hx | hx
   ·have:=m x hx
    omega
   ·rw [List.mem_singleton.1 hx];omega
end
def FZ:Nat->Nat
 | 0=>1
 | n+1=>1+(n+1)*FZ n
theorem Ic:∀n,n<=4->FZ n<=65
 | 0,_=>aC
 | 1,_=>aC
 | 2,_=>aC
 | 3,_=>aC
 | 4,_=>aC
 | n+5,h=>aA
theorem Yb{n i:Nat}(hn:n<=4)(hi:i<=n):1+i*FZ (n-1)<=65:=by
 rcases Nat.eq_zero_or_pos n with e | e
 ·subst e
  have:i=0:=aA
  subst this;decide
 ·have h:=Ic n hn;have e2:FZ n=1+n*FZ (n-1):=by
   cases n with
   | zero=>omega
   | succ n=>rfl
  have:=Nat.mul_le_mul_right (FZ (n-1)) hi
  omega
theorem Wl{n i:Nat}(hi:i=n){m:Nat}(h:m<=1+i*FZ (n-1)):m<=FZ n:=by
 subst hi;cases i with
 | zero=>simp at h;exact h
 | succ i=>exact h
def Id(n:Nat)(xl:List Sl):Prop:=∀x ∈ xl,Ja n x.2
section
variable {n:Nat} {a b:List Sl}
theorem Id.app(ha:Id n a)(hb:Id n b):Id n (a++b):=λx hx=>(List.mem_append.1 hx).elim (ha x) (hb x)
theorem Id.one{v:Value}{l:List Int}(h:Ja n l):Id n [(v,l)]:=λx hx=>by rw [List.mem_singleton.1 hx];exact h
theorem Id.at(h:Id n a){k:Nat}(hk:k<a.length):Ja n (a.getD k Sl.z).2:=h _ (BL hk)
end
section
variable {l:List Int} {i q:Nat}
end
section
variable {bag kinds:Int} {ps:List ByteArray} {ws:List AB} {js:List AK} {ns:List AJ} {l:List Int} {p:AC} {i:Nat}
end
section
variable {F G:AC->Int} {l:List AC}
end
section
variable {bag kinds:Int} {ps:List ByteArray} {ws:List AB} {js:List AK} {ns:List AJ} {l:List Int} {i k:Nat}
end
end Go.Ns
namespace Go.Ns
section
variable {bag kinds:Int} {ps:List ByteArray} {ws:List AB} {js:List AK} {ns:List AJ} {r l:List Int} {i k:Nat} {s:Int}
end
end Go.Ns
namespace Go.Ns
section
variable {a b c:List Int} {x y:Int}
theorem NG(x y:Int)(a b:List Int):∀f k,FB (x ::a) (y ::b) f (k+1)=FB a b f k
 | 0,k=>by
  unfold FB;by_cases h:(a.length:Int)<b.length
  ·rw [if_pos h,if_pos (by simp only [List.length_cons];omega)]
  ·rw [if_neg h,if_neg (by simp only [List.length_cons];omega)]
 | f+1,k=>by
  unfold FB;rw [NG x y a b f (k+1)];by_cases h:(b.length:Int)<=(k:Int)
  ·rw [if_pos h,if_pos (by simp only [List.length_cons];omega)]
  ·rw [if_neg h,if_neg (by simp only [List.length_cons];omega)];rfl
theorem OB(x y:Int)(a b:List Int):Hf (x ::a) (y ::b)=if¬In x y=0 then In x y else Hf a b:=by
 show FB (x ::a) (y ::b) (a.length+1) 0=_;unfold FB;rw [if_neg (by simp only [List.length_cons];omega),NG];rfl
theorem cmpL_nil(b:List Int):Hf [] b<0↔b≠[]:=by
 cases b with
 | nil=>exact ⟨λh=>absurd h aC,λh=>absurd rfl h⟩
 | cons y b=>
  refine ⟨λ_=>aD,λ_=>?_⟩;show (if ((([]:List Int).length:Nat):Int)<((y ::b).length:Nat) then (-1:Int) else 0)<0;rw [if_pos (by simp only [List.length_cons,List.length_nil];omega)];decide
theorem Ts(x:Int)(a:List Int):¬Hf (x ::a) []<0:=by
 show¬FB (x ::a) [] (a.length+1) 0<0
 unfold FB;rw [if_pos aD];decide
theorem OC:∀(a b:List Int),Hf a b<0->¬Hf b a<0
 | [],[],h=>absurd h aC
 | [],y ::b,_=>Ts y b
 | x ::a,[],h=>absurd h (Ts x a)
 | x ::a,y ::b,h=>by
  rw [OB] at h ⊢;have ih:=OC a b;by_cases h1:x<y
  ·rw [show In y x=1 by unfold In;rw [if_neg aA,if_pos h1],if_pos aC];decide
  ·by_cases h2:y<x
   ·rw [show In x y=1 by unfold In;rw [if_neg h1,if_pos h2],if_pos aC] at h;exact absurd h aC
   ·rw [show In x y=0 by unfold In;rw [if_neg h1,if_neg h2],if_neg aC] at h;rw [show In y x=0 by unfold In;rw [if_neg h2,if_neg h1],if_neg aC];exact ih h
theorem Wm(a:List Int):¬Hf a a<0:=λh=>OC a a h h
theorem Wn(l:List Int):∀{a b:List Int},Hf a b<0->Hf (l++a) (l++b)<0:=by
 induction l with
 | nil=>exact λh=>h
 | cons x l ih=>
  intro a b h;show Hf (x ::(l++a)) (x ::(l++b))<0;rw [OB,if_neg (by unfold In;simp)];exact ih h
theorem cmpL_lt(h:x<y)(a b:List Int):Hf (x ::a) (y ::b)<0:=by
 rw [OB,show In x y= -1 by unfold In;rw [if_pos h],if_pos aC];decide
end
section
variable {jobs l r:List Int} {f n:Nat}
theorem J0:∀(f:Nat)(l:List Int),∀r ∈ BG jobs f l,∃s,r=l++s
 | 0,l,r,h=>⟨[],by rw [List.mem_singleton.1 h];simp⟩
 | f+1,l,r,h=>by
  rcases List.mem_cons.1 h with e | h
  ·exact ⟨[],by rw [e];simp⟩
  ·obtain ⟨k,_,h⟩:=List.mem_flatMap.1 h;split at h
   ·cases h
   ·obtain ⟨s,e⟩:=J0 f _ r h;exact ⟨k ::s,by rw [e];simp⟩
theorem Wo{l:List Int}{k:Int}:Fi l k=true↔k ∈ l:=by
 unfold Fi;rw [List.any_eq_true];exact ⟨λ⟨x,hx,e⟩=>by rw [of_decide_eq_true e];exact hx,λh=>⟨k,h,decide_eq_true rfl⟩⟩
theorem Rp(hj:∀x ∈ jobs,0<=x/\x<(n:Int)):∀(f:Nat)(l:List Int),Ja n l->∀r ∈ BG jobs f l,Ja n r
 | 0,l,hl,r,h=>by rw [List.mem_singleton.1 h];exact hl
 | f+1,l,hl,r,h=>by
  rcases List.mem_cons.1 h with e | h
  ·rw [e];exact hl
  ·obtain ⟨k,hk,h⟩:=List.mem_flatMap.1 h;split at h
   ·cases h
   ·rename_i c
    refine Rp hj f (l++[k]) ⟨List.nodup_append.2 ⟨hl.1,aD,λa ha b hb e=>?_⟩,λx hx=>?_⟩ r h
    ·rw [List.mem_singleton.1 hb] at e;exact c (Wo.2 (e▸ha))
    ·rcases List.mem_append.1 hx with hx | hx
     ·exact hl.2 x hx
     ·rw [List.mem_singleton.1 hx];exact hj k hk
theorem Rq(hj:∀x:Int,0<=x->x<(n:Int)->x ∈ jobs):∀(s l:List Int)(f:Nat),s.length<=f->Ja n (l++s)->l++s ∈ BG jobs f l
 | [],l,f,_,_=>by rw [List.append_nil,EH];exact List.mem_cons_self
 | k ::s,l,0,h,_=>absurd h aD
 | k ::s,l,f+1,h,hv=>by
  have e:l++k ::s=(l++[k])++s:=aD
  have hk:=hv.2 k aD;refine List.mem_cons_of_mem _ (List.mem_flatMap.2 ⟨k,hj k hk.1 hk.2,?_⟩);have hn:¬Fi l k=true:=λq=>by
   have d:=List.nodup_append.1 hv.1;exact d.2.2 k (Wo.1 q) k List.mem_cons_self rfl
  rw [if_neg hn,e];exact Rq hj s (l++[k]) f (by simp at h;omega) (by rw [<-e];exact hv)
theorem MQ(hj:jobs.Pairwise (· < ·)):∀(f:Nat)(l:List Int),(BG jobs f l).Pairwise λa b=>Hf a b<0
 | 0,l=>List.pairwise_singleton _ _
 | f+1,l=>by
  refine List.pairwise_cons.2 ⟨λr hr=>?_,?_⟩
  ·obtain ⟨k,_,h⟩:=List.mem_flatMap.1 hr;split at h
   ·cases h
   ·obtain ⟨s,e⟩:=J0 f _ r h;rw [e,List.append_assoc]
    have:=Wn l (a:=[]) (b:=[k]++s) ((cmpL_nil _).2 aD)
    rwa [List.append_nil] at this
  ·rw [List.pairwise_flatMap];refine ⟨λk _=>?_,hj.imp λ{k k'} hk x hx y hy=>?_⟩
   ·split
    ·exact List.Pairwise.nil
    ·exact MQ hj f _
   ·split at hx
    ·cases hx
    ·split at hy
     ·cases hy
     ·obtain ⟨s,e⟩:=J0 f _ x hx;obtain ⟨t,e2⟩:=J0 f _ y hy;rw [e,e2,List.append_assoc,List.append_assoc];exact Wn l (cmpL_lt hk s t)
theorem Rr:∀(n:Nat)(x:Int),0<=x->x<(n:Int)->x ∈ CD n
 | 0,x,h0,h1=>aA
 | n+1,x,h0,h1=>by
  by_cases e:x<(n:Int)
  ·exact List.mem_append_left _ (Rr n x h0 e)
  ·exact List.mem_append_right _ (List.mem_singleton.2 aA)
theorem MR:∀n,(CD n).Pairwise (· < ·)
 | 0=>List.Pairwise.nil
 | n+1=>List.pairwise_append.2 ⟨MR n,List.pairwise_singleton _ _,λa ha b hb=>by rw [List.mem_singleton.1 hb];exact (Jp ha).2⟩
theorem Rs(h:Ja n r):r ∈ Bm (CD n):=by
 have:=Rq (Rr n) r [] (CD n).length (by rw [Cj];exact h.len) h
 exact this
theorem VK(h:r ∈ Bm (CD n)):Ja n r:=Rp (λ_ hx=>Jp hx) _ [] ⟨List.nodup_nil,λx hx=>by cases hx⟩ r h
end
structure Wp(g pre:List (List Int)):Prop where
 sub:g.Sublist pre
 le:∀y ∈ g,∀z ∈ pre,z.length<=y.length
 eq:∀y ∈ g,∀z ∈ pre,z.length=y.length->z ∈ g
 ne:pre≠[]->g≠[]
section
variable {g pre:List (List Int)} {x:List Int}
theorem Wp.step(h:Wp g pre):Wp (FL g x) (pre++[x]):=by
 have hd:0<g.length->g.getD 0 [] ∈ g:=λq=>BL q;have same:∀y ∈ g,∀z ∈ g,y.length=z.length:=λy hy z hz=>by
  have:=h.le y hy z (h.sub.subset hz)
  have:=h.le z hz y (h.sub.subset hy)
  omega
 by_cases h0:g.length=0
 ·have e:g=[]:=List.eq_nil_of_length_eq_zero h0;have ep:pre=[]:=Decidable.byContradiction λq=>h.ne q e;have es:FL g x=[x]:=by
   unfold FL Ju;rw [if_neg (λq=>aA)];unfold Jv;rw [if_pos (.inl h0),e];rfl
  rw [es,ep];exact ⟨List.Sublist.refl _,λy hy z hz=>by rw [List.mem_singleton.1 hy,List.mem_singleton.1 hz];exact Nat.le_refl _,λy _ z hz _=>hz,λ_=>aD⟩
 ·have hm:=hd aA;by_cases h1:(g.getD 0 []).length<x.length
  ·have es:FL g x=[x]:=by
    unfold FL Ju;rw [if_pos ⟨aA,h1⟩];rfl
   rw [es];have lt:∀z ∈ pre,z.length<x.length:=λz hz=>Nat.lt_of_le_of_lt (h.le _ hm z hz) h1;refine ⟨List.sublist_append_right _ _,λy hy z hz=>?_,λy hy z hz e=>?_,λ_=>aD⟩
   ·rw [List.mem_singleton.1 hy];rcases List.mem_append.1 hz with hz | hz
    ·exact Nat.le_of_lt (lt z hz)
    ·rw [List.mem_singleton.1 hz];exact Nat.le_refl _
   ·rw [List.mem_singleton.1 hy] at e;rcases List.mem_append.1 hz with hz | hz
    ·have:=lt z hz;omega
    ·exact hz
  ·have ec:Ju g x=g:=if_neg (λq=>h1 q.2);by_cases h2:x.length=(g.getD 0 []).length
   ·have es:FL g x=g++[x]:=by
     unfold FL;rw [ec];unfold Jv;rw [if_pos (.inr h2)]
    rw [es];have sx:∀y ∈ g++[x],y.length=x.length:=λy hy=>by
     rcases List.mem_append.1 hy with hy | hy
     ·rw [same y hy _ hm,h2]
     ·rw [List.mem_singleton.1 hy]
    refine ⟨h.sub.append (List.Sublist.refl _),λy hy z hz=>?_,λy hy z hz e=>?_,λ_=>aD⟩
    ·rw [sx y hy];rcases List.mem_append.1 hz with hz | hz
     ·rw [h2];exact h.le _ hm z hz
     ·rw [List.mem_singleton.1 hz];exact Nat.le_refl _
    ·rcases List.mem_append.1 hz with hz | hz
     ·exact List.mem_append_left _ (h.eq _ hm z hz (by rw [e,sx y hy,h2]))
     ·exact List.mem_append_right _ hz
   ·have es:FL g x=g:=by
     unfold FL;rw [ec];unfold Jv;rw [if_neg];rintro (q | q) <;> omega
    rw [es];refine ⟨h.sub.trans (List.sublist_append_left _ _),λy hy z hz=>?_,λy hy z hz e=>?_,λ_ q=>h0 (by rw [q];rfl)⟩
    ·rcases List.mem_append.1 hz with hz | hz
     ·exact h.le y hy z hz
     ·rw [List.mem_singleton.1 hz,same y hy _ hm];omega
    ·rcases List.mem_append.1 hz with hz | hz
     ·exact h.eq y hy z hz e
     ·rw [List.mem_singleton.1 hz,same y hy _ hm] at e;exact absurd e h2
theorem goodI{l:List (List Int)}:∀k,k<=l.length->Wp (Jw l k) (l.take k)
 | 0,_=>⟨List.Sublist.refl _,λy hy=>(by cases hy),λy hy=>(by cases hy),λh=>absurd rfl h⟩
 | k+1,h=>by
  have ih:=(goodI (l:=l) k aA).step (x:=l.getD k []);rw [B7 [] (show k<l.length by omega)];exact ih
theorem Ru(l:List (List Int)):Wp (Jw l l.length) l:=by
 have:=goodI (l:=l) l.length (Nat.le_refl _)
 rwa [List.take_length] at this
end
section
variable {G:List Int->Int} {l:List (List Int)}
theorem LT{k:Nat}:(l.drop 1).getD k []=l.getD (k+1) []:=by
 rw [List.getD_eq_getElem?_getD,List.getElem?_drop,<-List.getD_eq_getElem?_getD,Nat.add_comm]
theorem Rv:∀k,∃i,i<=k/\(CH G l k).1=l.getD i []/\(CH G l k).2=G (l.getD i [])/\∀j,j<=k->G (l.getD i [])<=G (l.getD j [])/\(j<i->G (l.getD i [])<G (l.getD j []))
 | 0=>⟨0,Nat.le_refl _,rfl,rfl,λj hj=>by rw [show j=0 by omega];exact ⟨Int.le_refl _,λq=>absurd q (Nat.lt_irrefl _)⟩⟩
 | k+1=>by
  obtain ⟨i,h1,h2,h3,h4⟩:=Rv k;unfold CH;rw [LT];split
  ·rename_i c
   rw [h3] at c;refine ⟨k+1,Nat.le_refl _,rfl,rfl,λj hj=>?_⟩;by_cases e:j=k+1
   ·subst e;exact ⟨Int.le_refl _,λq=>absurd q (Nat.lt_irrefl _)⟩
   ·have:=(h4 j aA).1
    exact ⟨aA,λ_=>aA⟩
  ·rename_i c
   rw [h3] at c;refine ⟨i,aA,h2,h3,λj hj=>?_⟩;by_cases e:j=k+1
   ·subst e;exact ⟨aA,λq=>aA⟩
   ·exact h4 j aA
theorem Yc(hl:l.Pairwise λa b=>Hf a b<0){r:List Int}(hr:r ∈ l):G (CZ G l)<=G r/\(G (CZ G l)=G r->¬Hf r (CZ G l)<0):=by
 obtain ⟨i,h1,h2,_,h4⟩:=Rv (G:=G) (l:=l) (l.length-1);obtain ⟨j,hj,e⟩:=List.mem_iff_getElem.1 hr;have e2:l.getD j []=r:=by rw [List.getD_eq_getElem?_getD,List.getElem?_eq_getElem hj];exact e
 have hq:=h4 j aA;rw [e2] at hq;unfold CZ;rw [h2];refine ⟨hq.1,λq c=>?_⟩;have hi:i<l.length:=aA
 have ei:l.getD i []=l[i]:=by rw [List.getD_eq_getElem?_getD,List.getElem?_eq_getElem hi];rfl
 rcases Nat.lt_trichotomy j i with z | z | z
 ·have:=hq.2 z;omega
 ·subst z;rw [e2] at c;exact Wm _ c
 ·have:=(List.pairwise_iff_getElem.1 hl) i j hi hj z
  rw [ei,<-e] at c;exact OC _ _ this c
end
end Go.Ns
namespace Go.Ns
section
variable {c:Fj} {q i:Nat} {x:Int}
theorem Wq{l:List Int}:∀k,k<=l.length->(Rc c l k i=true↔c i=true\/∃j,j<k/\(l.getD j 0).toNat=i)
 | 0,_=>⟨.inl,λh=>h.elim id λ⟨j,h,_⟩=>absurd h (Nat.not_lt_zero _)⟩
 | k+1,h=>by
  have ih:=Wq (l:=l) k aA;unfold Rc Fj.set;by_cases e:i=(l.getD k 0).toNat
  ·rw [if_pos e];exact ⟨λ_=>.inr ⟨k,Nat.lt_succ_self _,e.symm⟩,λ_=>rfl⟩
  ·rw [if_neg e,ih];refine ⟨λh=>h.imp id λ⟨j,h,r⟩=>⟨j,aA,r⟩,λh=>h.imp id λ⟨j,h,r⟩=>⟨j,?_,r⟩⟩;rcases Nat.lt_or_ge j k with z | z
   ·exact z
   ·rw [show j=k by omega] at r;exact absurd r.symm e
theorem Wr{ls:List (List Int)}:∀k,k<=ls.length->(GL ls k i=true↔∃l ∈ ls.take k,∃j,j<l.length/\(l.getD j 0).toNat=i)
 | 0,_=>⟨λh=>(by cases h),λ⟨l,h,_⟩=>(by cases h)⟩
 | k+1,h=>by
  have ih:=Wr (ls:=ls) k aA;unfold GL;rw [Wq _ (Nat.le_refl _),ih,B7 [] (show k<ls.length by omega)];refine ⟨λh=>?_,λ⟨l,hl,r⟩=>?_⟩
  ·rcases h with ⟨l,hl,r⟩ | r
   ·exact ⟨l,List.mem_append_left _ hl,r⟩
   ·exact ⟨_,List.mem_append_right _ (List.mem_singleton.2 rfl),r⟩
  ·rcases List.mem_append.1 hl with hl | hl
   ·exact .inl ⟨l,hl,r⟩
   ·rw [List.mem_singleton.1 hl] at r;exact .inr r
end
section
variable {bag kinds:Int} {ps:List ByteArray} {ws:List AB} {js:List AK} {ns:List AJ} {r:List Int} {k:Nat} {x:Int}
def Ek(bag kinds:Int)(ps:List ByteArray)(ws:List AB)(js:List AK)(ns:List AJ):List (List Int):=G4 ps.length ws js (AA ws js ns) bag kinds
theorem K0:r ∈ Ek bag kinds ps ws js ns↔Ja js.length r/\Bw ps.length ws js (AA ws js ns) r bag kinds=true:=by
 unfold Ek G4;rw [List.mem_filter];exact ⟨λh=>⟨VK h.1,h.2⟩,λh=>⟨Rs h.1,h.2⟩⟩
theorem Ws(h0:AS bag kinds ps ws js ns 0=0)(hr:Ja js.length r):Ed bag kinds ps ws js ns r=Bw ps.length ws js (AA ws js ns) r bag kinds:=by
 unfold Ed;rw [hr.bell];exact if_neg (λe=>e h0)
theorem Wt(h0:AS bag kinds ps ws js ns 0=0):BX bag kinds ps ws js ns=CZ (λl=>A3 (λx=>AI ps.length ws js x l) (AA ws js ns)) (Jw (Ek bag kinds ps ws js ns) (Ek bag kinds ps ws js ns).length):=if_neg (λe=>e h0)
theorem best_in(hz:BV bag kinds ps ws js ns=0)(h0:AS bag kinds ps ws js ns 0=0):BX bag kinds ps ws js ns ∈ Jw (Ek bag kinds ps ws js ns) (Ek bag kinds ps ws js ns).length:=by
 rw [Wt h0];have p:0<(Ek bag kinds ps ws js ns).length:=Ra (C2 hz).hbag.1
 have:=(Ru (Ek bag kinds ps ws js ns)).ne (λq=>by rw [q] at p;exact absurd p (Nat.lt_irrefl _))
 exact YR (List.length_pos_iff.2 this)
theorem best_val(hz:BV bag kinds ps ws js ns=0)(h0:AS bag kinds ps ws js ns 0=0):Ja js.length (BX bag kinds ps ws js ns)/\Bw ps.length ws js (AA ws js ns) (BX bag kinds ps ws js ns) bag kinds=true:=
 K0.1 ((Ru _).sub.subset (best_in hz h0))
theorem best_top(hz:BV bag kinds ps ws js ns=0)(h0:AS bag kinds ps ws js ns 0=0)(hr:Ja js.length r)(hs:Ed bag kinds ps ws js ns r=true):r.length<=(BX bag kinds ps ws js ns).length/\(r.length=(BX bag kinds ps ws js ns).length->
  Cf (AS bag kinds ps ws js ns 0) (A3 (λx=>AI ps.length ws js x (BX bag kinds ps ws js ns)) (AA ws js ns))<=Cf (AS bag kinds ps ws js ns 0) (A3 (λx=>AI ps.length ws js x r) (AA ws js ns))/\
  (Cf (AS bag kinds ps ws js ns 0) (A3 (λx=>AI ps.length ws js x (BX bag kinds ps ws js ns)) (AA ws js ns))=Cf (AS bag kinds ps ws js ns 0) (A3 (λx=>AI ps.length ws js x r) (AA ws js ns))->¬Hf r (BX bag kinds ps ws js ns)<0)):=by
 have g:=Ru (Ek bag kinds ps ws js ns);have hm:r ∈ Ek bag kinds ps ws js ns:=K0.2 ⟨hr,by rw [<-Ws h0 hr];exact hs⟩;have b:=best_in hz h0;refine ⟨g.le _ b r hm,λe=>?_⟩;have hg:=g.eq _ b r hm e;rw [h0];simp only [Hn];have asc:(Jw (Ek bag kinds ps ws js ns) (Ek bag kinds ps ws js ns).length).Pairwise λa b=>Hf a b<0:=
  (List.Pairwise.filter _ (MQ (MR js.length) (CD js.length).length [])).sublist g.sub
 have:=Yc (G:=λl=>A3 (λx=>AI ps.length ws js x l) (AA ws js ns)) asc hg
 rwa [<-Wt h0] at this
theorem neverR_eq(h0:AS bag kinds ps ws js ns 0=0):EV bag kinds ps ws js ns=DH (GL (Ek bag kinds ps ws js ns) (Ek bag kinds ps ws js ns).length) js.length:=if_neg (λe=>e h0)
end
end Go.Ns
namespace Go.Ns
theorem asc_ext{l l':List Int}(h:l.Pairwise (· < ·))(h':l'.Pairwise (· < ·))(e:∀x,x ∈ l↔x ∈ l'):l=l':=by
 induction l generalizing l' with
 | nil=>
  cases l' with
  | nil=>rfl
  | cons y l'=>exact absurd ((e y).2 List.mem_cons_self) aD
 | cons x l ih=>
  cases l' with
  | nil=>exact absurd ((e x).1 List.mem_cons_self) aD
  | cons y l'=>
   rw [List.pairwise_cons] at h h';have hxy:x=y:=by
    rcases List.mem_cons.1 ((e x).1 List.mem_cons_self) with q | q
    ·exact q
    ·rcases List.mem_cons.1 ((e y).2 List.mem_cons_self) with q' | q'
     ·exact q'.symm
     ·have h1:=h.1 y q';have h2:=h'.1 x q;omega
   subst hxy;congr 1;refine ih h.2 h'.2 λz=>⟨λhz=>?_,λhz=>?_⟩
   ·rcases List.mem_cons.1 ((e z).1 (List.mem_cons_of_mem _ hz)) with rfl | q
    ·exact absurd (h.1 z hz) aA
    ·exact q
   ·rcases List.mem_cons.1 ((e z).2 (List.mem_cons_of_mem _ hz)) with rfl | q
    ·exact absurd (h'.1 z hz) aA
    ·exact q
theorem ins_at{s l:List Int}{x:Int}{k i:Nat}(ha:s.Pairwise (· < ·))(hm:∀y,y ∈ s↔y ∈ l.take i)(hi:i<l.length)(hx:l.getD i 0=x)(hk:k<=s.length)(hge:∀j,k<=j->j<s.length->x<=s.getD j 0)(hlt:k=0\/s.getD (k-1) 0<x)(hne:¬(k<s.length/\s.getD k 0=x)) :
  (s.take k++[x]++s.drop k).Pairwise (· < ·)/\∀y,y ∈ s.take k++[x]++s.drop k↔y ∈ l.take (i+1):=by
 have hs:s=s.take k++s.drop k:=(List.take_append_drop k s).symm;have ha2:=ha;rw [hs] at ha2;obtain ⟨p1,p2,p3⟩:=List.pairwise_append.1 ha2;have mono:∀a b,a<b->b<s.length->s.getD a 0<s.getD b 0:=λa b hab hb=>by
  rw [B5 0 aA,B5 0 hb];exact List.pairwise_iff_getElem.1 ha a b aA hb hab
 have lo:∀y ∈ s.take k,y<x:=λy hy=>by
  obtain ⟨j,hj,e⟩:=List.mem_take_iff_getElem.1 hy;have hj2:j<s.length:=aA
  rcases hlt with rfl | hlt
  ·omega
  ·by_cases q:j=k-1
   ·rw [<-e,<-B5 0 hj2,q];exact hlt
   ·have:=mono j (k-1) aA aA
    rw [<-e,<-B5 0 hj2];omega
 have hi2:∀y ∈ s.drop k,x<y:=λy hy=>by
  obtain ⟨j,hj,e⟩:=List.mem_drop_iff_getElem.1 hy;have hkl:k<s.length:=aA
  have h0:=hge k (Nat.le_refl _) hkl;have h1:s.getD k 0≠x:=λe=>hne ⟨hkl,e⟩;by_cases q:j=0
  ·subst q
   have:s.getD k 0=y:=by rw [B5 0 hkl,<-e];simp
   omega
  ·have h2:=mono k (k+j) aA aA
   have:s.getD (k+j) 0=y:=by rw [B5 0 aA,<-e]
   omega
 refine ⟨List.pairwise_append.2 ⟨List.pairwise_append.2 ⟨p1,List.pairwise_singleton ..,λa h b hb=>by rw [List.mem_singleton.1 hb];exact lo a h⟩,p2,λa h b hb=>?_⟩,λy=>?_⟩
 ·rcases List.mem_append.1 h with h | h
  ·exact p3 a h b hb
  ·rw [List.mem_singleton.1 h];exact hi2 b hb
 ·have e:y ∈ s↔y ∈ s.take k\/y ∈ s.drop k:=by rw [<-List.mem_append,<-hs]
  rw [B7 0 hi,hx];simp only [List.mem_append,List.mem_singleton,<-hm y,e];constructor
  ·rintro ((h | h) | h)
   ·exact .inl (.inl h)
   ·exact .inr h
   ·exact .inl (.inr h)
  ·rintro ((h | h) | h)
   ·exact .inl (.inl h)
   ·exact .inr h
   ·exact .inl (.inr h)
theorem ins_had{s l:List Int}{x:Int}{k i:Nat}(hm:∀y,y ∈ s↔y ∈ l.take i)(hi:i<l.length)(hx:l.getD i 0=x)(h:k<s.length/\s.getD k 0=x):∀y,y ∈ s↔y ∈ l.take (i+1):=λy=>by
 rw [B7 0 hi,hx,List.mem_append,List.mem_singleton,<-hm y];exact ⟨.inl,λq=>q.elim id λe=>by rw [e,<-h.2];exact BL h.1⟩
theorem ge_next{s:List Int}{x:Int}{k:Nat}(h:∀j,k<=j->j<s.length->x<=s.getD j 0)(hk:0<k)(hx:x<=s.getD ((k:Int)-1).toNat 0):∀j,k-1<=j->j<s.length->x<=s.getD j 0:=λj h1 h2=>by
 by_cases q:j=k-1
 ·rw [show ((k:Int)-1).toNat=k-1 by omega] at hx;rw [q];exact hx
 ·exact h j aA h2
section
variable {nj:Nat} {l:List Int} {k:Nat}
theorem cr6(h:¬(0<=l.getD k 0/\l.getD k 0<=(nj:Int)-1)):EQ nj l k=6:=by
 have e:EP nj (l.getD k 0)=6:=if_pos h;unfold EQ;rw [e,if_pos aC]
theorem cr5(h:0<=l.getD k 0/\l.getD k 0<=(nj:Int)-1)(hm:l.getD k 0 ∈ l.take k):EQ nj l k=5:=by
 have e:EP nj (l.getD k 0)=0:=if_neg (λq=>q h);unfold EQ;rw [e,if_neg aD,if_pos];exact List.any_eq_true.2 ⟨_,hm,decide_eq_true rfl⟩
theorem cr0(h:0<=l.getD k 0/\l.getD k 0<=(nj:Int)-1)(hm:¬l.getD k 0 ∈ l.take k):EQ nj l k=0:=by
 have e:EP nj (l.getD k 0)=0:=if_neg (λq=>q h);unfold EQ;rw [e,if_neg aD,if_neg];intro q;obtain ⟨x,hx,hd⟩:=List.any_eq_true.1 q;exact hm (by rw [of_decide_eq_true hd];exact hx)
end
section
variable {jobs l r q:List Int} {f n:Nat}
theorem Tt{y:Int}:y ∈ C6 l↔y ∈ l:=by rw [JN];exact List.mem_mergeSort
theorem K3(h:l.Nodup):(C6 l).Nodup:=by rw [JN];exact (List.mergeSort_perm l _).nodup_iff.2 h
theorem sortI_asc(h:l.Nodup):(C6 l).Pairwise (· < ·):=by
 have a:=List.pairwise_mergeSort (le:=λx y:Int=>decide (x<=y)) (λa b c h1 h2=>by simp at *;omega) (λa b=>by simp;omega) l;rw [<-JN] at a;have b:=List.nodup_iff_pairwise_ne.1 (K3 h);exact (List.pairwise_and_iff.2 ⟨a,b⟩).imp λ{x y} q=>by
  have:=of_decide_eq_true q.1
  have:=q.2
  omega
theorem sort_is{s:List Int}(h:l.Nodup)(ha:s.Pairwise (· < ·))(hm:∀y,y ∈ s↔y ∈ l):C6 l=s:=asc_ext (sortI_asc h) ha λy=>Tt.trans (hm y).symm
end
section
variable {bag kinds:Int} {ps:List ByteArray} {ws:List AB} {js:List AK} {ns:List AJ} {r o:List Int}
end
end Go.Ns
namespace Go.Ns
def wA(ws:List AB)(k:Nat):Nat:=(ws.getD k AB.z).a.toNat
def wB(ws:List AB)(k:Nat):Nat:=(ws.getD k AB.z).b.toNat
def NH(ws:List AB)(p:AC)(u v:Nat)(w:Int):Prop:=∃k,k<ws.length/\(wA ws k=u/\wB ws k=v\/wA ws k=v/\wB ws k=u)/\w=p.ways k
inductive Ma (ws:List AB) (p:AC) (x:Nat):Nat->Nat->Int->Prop
 | nil:Ma ws p x 0 x 0
 | step {k u v:Nat} {d w:Int}:Ma ws p x k u d->NH ws p u v w->Ma ws p x (k+1) v (d+w)
section
variable {ws:List AB} {p:AC} {x y z u v k l np:Nat} {d e w:Int}
theorem NH.symm(h:NH ws p u v w):NH ws p v u w:=by
 obtain ⟨k,h1,h2,h3⟩:=h;exact ⟨k,h1,h2.symm,h3⟩
theorem Ma.append(h:Ma ws p x k y d)(g:Ma ws p y l z e):Ma ws p x (k+l) z (d+e):=by
 induction g with
 | nil=>rw [Int.add_zero];exact h
 | step _ c ih=>
  have:=ih.step c
  rwa [Int.add_assoc,Nat.add_assoc] at this
theorem Ma.symm(h:Ma ws p x k y d):Ma ws p y k x d:=by
 induction h with
 | nil=>exact .nil
 | @step k u v d w _ c ih=>
  have:=(Ma.step (.nil (x:=v)) c.symm).append ih
  rw [Int.zero_add] at this
  rwa [Nat.add_comm k 1,Int.add_comm d w]
theorem Ma.le(hp:BF p)(h:Ma ws p x k y d):0<=d/\d<=30*(k:Int):=by
 induction h with
 | nil=>exact ⟨Int.le_refl _,Int.le_refl _⟩
 | step _ c ih=>
  obtain ⟨q,_,_,rfl⟩:=c
  have:=hp.ways q
  omega
theorem Ck{Q:Nat->Nat->Prop}(hQ:∀k v,v<np->Q (k+1) v->∃u,u<np/\Q k u/\∀j,Q j u->Q (j+1) v)(hv:v<np)(h:Q k v):∃j,j<np/\Q j v:=by
 have low:∀k v,v<np->Q k v->∃j,Q j v/\∀i,i<j->¬Q i v:=by
  intro k
  induction k using Nat.strongRecOn with
  | _ k ih=>
   intro v hv h;by_cases c:∃i,i<k/\Q i v
   ·obtain ⟨i,h1,h2⟩:=c;exact ih i h1 v hv h2
   ·exact ⟨k,h,λi hi q=>c ⟨i,hi,q⟩⟩
 have chain:∀j v,v<np->Q j v->(∀i,i<j->¬Q i v)->∃f:Nat->Nat,∀i,i<=j->f i<np/\Q i (f i)/\∀t,t<i->¬Q t (f i):=by
  intro j
  induction j with
  | zero=>exact λv hv h _=>⟨λ_=>v,λi hi=>by rw [show i=0 by omega];exact ⟨hv,h,λt ht=>absurd ht (Nat.not_lt_zero _)⟩⟩
  | succ j ih=>
   intro v hv h hm;obtain ⟨u,hu,h1,h2⟩:=hQ j v hv h;obtain ⟨f,hf⟩:=ih u hu h1 λi hi q=>hm (i+1) aA (h2 i q);refine ⟨λi=>if i=j+1 then v else f i,λi hi=>?_⟩;by_cases e:i=j+1
   ·subst e;simp only [if_true];exact ⟨hv,h,hm⟩
   ·simp only [if_neg e];exact hf i aA
 obtain ⟨j,h1,h2⟩:=low k v hv h;obtain ⟨f,hf⟩:=chain j v hv h1 h2
 have:=RN np (j+1) f (λi hi=>(hf i aA).1) λi t hit ht e=>by
  have a:=(hf i aA).2.1;rw [e] at a;exact (hf t aA).2.2 i hit a
 exact ⟨j,aA,h1⟩
end
section
variable {bag kinds:Int} {ps:List ByteArray} {ws:List AB} {js:List AK} {ns:List AJ} {p:AC} {x y v k n:Nat} {d w:Int}
theorem NI(bk:Ay bag kinds ps ws js ns){u:Nat}(h:NH ws p u v w):u<ps.length/\v<ps.length:=by
 obtain ⟨k,hk,h2,_⟩:=h;have o:=IU bk.way k hk;have h3:=o.a;have h4:=o.b;unfold wA wB at h2;omega
theorem NJ(bk:Ay bag kinds ps ws js ns)(hp:BF p){u:Nat}(h:NH ws p u v w):Ar ps.length ws p u v<=w:=by
 obtain ⟨k,hk,h2,rfl⟩:=h
 have:=YZ (np:=ps.length) hp (Iv bk.way) hk
 have s:=(G6 (np:=ps.length) hp (Iv bk.way)).s.sym u v;unfold wA wB at h2;rcases h2 with ⟨rfl,rfl⟩ | ⟨rfl,rfl⟩
 ·exact this
 ·rw [s];exact this
theorem trw_far(bk:Ay bag kinds ps ws js ns)(hp:BF p)(hx:x<ps.length)(h:Ma ws p x k v d):Ar ps.length ws p x v<=d:=by
 have fw:=G6 (np:=ps.length) hp (Iv bk.way)
 induction h with
 | nil=>rw [fw.s.diag];exact Int.le_refl _
 | @step k u v d w h0 c ih=>
  have r:=NI bk c;have t:=fw.tri u r.1 x v hx r.2
  have:=NJ bk hp c
  omega
theorem Wu(bk:Ay bag kinds ps ws js ns):∀n,n<=ws.length->∀x y,x<4->y<4->A0 p ws n x y<1048576->∃k,Ma ws p x k y (A0 p ws n x y)
 | 0,_,x,y,hx,hy,h=>by
  have e:A0 p ws 0 x y=JG 4 x y:=rfl;rw [e,Ku] at h ⊢;by_cases c:x<4/\y<4/\x≠y
  ·rw [if_pos c] at h;omega
  ·rw [if_neg c]
   have:x=y:=Decidable.byContradiction λq=>c ⟨hx,hy,q⟩
   subst this;exact ⟨0,.nil⟩
 | n+1,hn,x,y,hx,hy,h=>by
  have r:=(Iv bk.way).rng n aA;have e:A0 p ws (n+1)=Kj p ws (A0 p ws n) n:=Aq _ _ _;rw [e,MP _ _ _ _ aA] at h ⊢;by_cases c:(x=(ws.getD n AB.z).a.toNat/\y=(ws.getD n AB.z).b.toNat)\/(x=(ws.getD n AB.z).b.toNat/\y=(ws.getD n AB.z).a.toNat)
  ·rw [if_pos c]
   have:=Ma.step (.nil (ws:=ws) (p:=p) (x:=x)) (v:=y) (w:=p.ways n) ⟨n,aA,by unfold wA wB;omega,rfl⟩
   rw [Int.zero_add] at this;exact ⟨1,this⟩
  ·rw [if_neg c] at h ⊢;exact Wu bk n aA x y hx hy h
theorem Wv(bk:Ay bag kinds ps ws js ns)(hp:BF p):∀n,n<=ps.length->∀x y,x<ps.length->y<ps.length->Co ps.length (A0 p ws ws.length) n x y<1048576->∃k,Ma ws p x k y (Co ps.length (A0 p ws ws.length) n x y)
 | 0,_,x,y,hx,hy,h=>Wu bk ws.length (Nat.le_refl _) x y (by have:=bk.plen;omega) (by have:=bk.plen;omega) h
 | n+1,hn,x,y,hx,hy,h=>by
  have ih:=Wv bk hp n aA;have s:=(FW.all (Kv hp (Iv bk.way) ws.length (Nat.le_refl _)) n (show n<=ps.length by omega)).s;have e:Co ps.length (A0 p ws ws.length) (n+1)=E8 n ps.length (Co ps.length (A0 p ws ws.length) n) ps.length:=Aq _ _ _;have g:=Rk (np:=ps.length) n (Co ps.length (A0 p ws ws.length) n) (s.diag n) s.ok ps.length x y;rw [if_pos ⟨hx,hy⟩] at g;rw [e,g] at h ⊢;have o1:=s.ok x n;have o2:=s.ok n y;rcases Int.le_total (Co ps.length (A0 p ws ws.length) n x y) (Co ps.length (A0 p ws ws.length) n x n+Co ps.length (A0 p ws ws.length) n n y) with c | c
  ·rw [Int.min_eq_left c] at h ⊢;exact ih x y hx hy h
  ·rw [Int.min_eq_right c] at h ⊢;obtain ⟨k,a⟩:=ih x n hx aA aA;obtain ⟨l,b⟩:=ih n y aA hy aA;exact ⟨_,a.append b⟩
theorem Ww(bk:Ay bag kinds ps ws js ns)(hv:v<ps.length):∃k d,Ma ws p 0 k v d:=by
 have one:∀(c:Fj)(a:AB),a ∈ ws->(∀i,c i=true->∃k d,Ma ws p 0 k i d)->∀i,FI c a i=true->∃k d,Ma ws p 0 k i d:=by
  intro c a ha hc;obtain ⟨q,hq,ea⟩:=List.mem_iff_getElem.1 ha;have ed:NH ws p a.a.toNat a.b.toNat (p.ways q):=⟨q,hq,.inl (by unfold wA wB;rw [B5 AB.z hq,ea];exact ⟨rfl,rfl⟩),rfl⟩;have both:(c a.a.toNat || c a.b.toNat)=true->(∃k d,Ma ws p 0 k a.a.toNat d)/\∃k d,Ma ws p 0 k a.b.toNat d:=λh=>by
   rcases Bool.or_eq_true_iff.1 h with h | h
   ·obtain ⟨k,d,t⟩:=hc _ h;exact ⟨⟨k,d,t⟩,_,_,t.step ed⟩
   ·obtain ⟨k,d,t⟩:=hc _ h;exact ⟨⟨_,_,t.step ed.symm⟩,k,d,t⟩
  intro i hi;unfold FI Fj.set at hi;by_cases e:i=a.b.toNat
  ·rw [if_pos e] at hi;rw [e];by_cases e2:a.b.toNat=a.a.toNat
   ·rw [if_pos e2,if_pos rfl,Bool.or_self] at hi;exact (both hi).2
   ·rw [if_neg e2,if_pos rfl] at hi;rcases Bool.or_eq_true_iff.1 hi with h | h
    ·exact hc _ h
    ·exact (both h).2
  ·rw [if_neg e] at hi;by_cases e2:i=a.a.toNat
   ·rw [if_pos e2] at hi;rw [e2];exact (both hi).1
   ·rw [if_neg e2] at hi;exact hc i hi
 have fold:∀(l:List AB)(c:Fj),(∀a ∈ l,a ∈ ws)->(∀i,c i=true->∃k d,Ma ws p 0 k i d)->∀i,l.foldl FI c i=true->∃k d,Ma ws p 0 k i d:=by
  intro l
  induction l with
  | nil=>exact λc _ hc=>hc
  | cons a l ih=>exact λc hl hc=>ih _ (λb hb=>hl b (List.mem_cons_of_mem _ hb)) (one c a (hl a List.mem_cons_self) hc)
 have all:∀n (c:Fj),(∀i,c i=true->∃k d,Ma ws p 0 k i d)->∀i,EF ws n c i=true->∃k d,Ma ws p 0 k i d:=by
  intro n
  induction n with
  | zero=>exact λc hc=>hc
  | succ n ih=>exact λc hc=>ih _ (fold ws c (λa ha=>ha) hc)
 have led:=bk.led;unfold Ei at led;split at led
 ·cases led
 ·rename_i q
  refine all ps.length (Fj.none.set 0 true) (λi hi=>?_) v ?_
  ·unfold Fj.set Fj.none at hi;by_cases e:i=0
   ·subst e;exact ⟨0,0,.nil⟩
   ·rw [if_neg e] at hi;cases hi
  ·refine Decidable.byContradiction λc=>q (List.any_eq_true.2 ⟨EF ws ps.length (Fj.none.set 0 true) v,?_,?_⟩)
   ·unfold Mw;exact List.mem_map.2 ⟨v,List.mem_range.2 hv,rfl⟩
   ·rw [Bool.eq_false_iff.2 c];rfl
theorem Tu(bk:Ay bag kinds ps ws js ns)(hp:BF p)(hx:x<ps.length)(hv:v<ps.length):∃k,k<ps.length/\Ma ws p x k v (Ar ps.length ws p x v):=by
 have np4:=bk.plen;have fw:=G6 (np:=ps.length) hp (Iv bk.way);have small:Ar ps.length ws p x v<1048576:=by
  obtain ⟨k,d,t⟩:=Ww (p:=p) bk hx;obtain ⟨l,e,t2⟩:=Ww (p:=p) bk hv;obtain ⟨j,hj,d2,t3⟩:=Ck (Q:=λk v=>∃d,Ma ws p x k v d) (np:=ps.length) (λk v _ ⟨d,t⟩=>by
   cases t with
   | @step _ u _ d w t c=>exact ⟨u,(NI bk c).1,⟨_,t⟩,λj ⟨d,t⟩=>⟨_,t.step c⟩⟩) hv (k:=k+l) ⟨_,t.symm.append t2⟩
  have a:=trw_far bk hp hx t3;have b:=t3.le hp;omega
 obtain ⟨k,t⟩:=Wv bk hp ps.length (Nat.le_refl _) x v hx hv small;refine Ck (Q:=λk v=>Ma ws p x k v (Ar ps.length ws p x v)) (np:=ps.length) (λk v hv2 t=>?_) hv t;generalize hd:Ar ps.length ws p x v=D at t;cases t with
 | @step _ u _ d w t c=>
  have r:=NI bk c;have a:=trw_far bk hp hx t;have b:=NJ bk hp c;have tr:=fw.tri u r.1 x v hx hv2;have e:Ar ps.length ws p x u=d:=aA
  exact ⟨u,r.1,by rw [e];exact t,λj t2=>by
   have:=t2.step c
   rw [e] at this;exact this⟩
def K5(o:Nat->Int)(i:Nat)(v:Int):Nat->Int:=λj=>if j=i then v else o j
def KL(ws:List AB)(p:AC)(o:Nat->Int)(k:Nat):Nat->Int:=
 K5 (K5 o (wA ws k) (min (o (wA ws k)) (o (wB ws k)+p.ways k))) (wB ws k) (min (K5 o (wA ws k) (min (o (wA ws k)) (o (wB ws k)+p.ways k)) (wB ws k)) (K5 o (wA ws k) (min (o (wA ws k)) (o (wB ws k)+p.ways k)) (wA ws k)+p.ways k))
def Xm(ws:List AB)(p:AC)(o:Nat->Int):Nat->Nat->Int
 | 0=>o
 | n+1=>KL ws p (Xm ws p o n) n
def S1(ws:List AB)(p:AC)(o:Nat->Int):Nat->Nat->Int
 | 0=>o
 | r+1=>Xm ws p (S1 ws p o r) ws.length
def OD(np x:Nat):Nat->Int:=λv=>if v=x then 0 else 30*(np:Int)
theorem Wx(o:Nat->Int)(k v:Nat):KL ws p o k v<=o v:=by
 unfold KL K5;by_cases h:v=wB ws k
 ·rw [if_pos h];by_cases h2:wB ws k=wA ws k
  ·rw [if_pos h2,if_pos rfl,h,h2];omega
  ·rw [if_neg h2,h];omega
 ·rw [if_neg h];by_cases h2:v=wA ws k
  ·rw [if_pos h2,h2];omega
  ·rw [if_neg h2];exact Int.le_refl _
theorem bfWay_a(o:Nat->Int)(k:Nat):KL ws p o k (wA ws k)<=o (wB ws k)+p.ways k/\KL ws p o k (wB ws k)<=o (wA ws k)+p.ways k:=by
 unfold KL K5;rw [if_pos rfl,if_pos rfl];by_cases h:wA ws k=wB ws k
 ·rw [if_pos h,if_pos h.symm];omega
 ·rw [if_neg h,if_neg (λq=>h q.symm)];omega
theorem Ye(o:Nat->Int)(v:Nat):∀n,Xm ws p o n v<=o v
 | 0=>Int.le_refl _
 | n+1=>Int.le_trans (Wx _ _ _) (Ye o v n)
theorem Wy(o:Nat->Int)(v:Nat):∀d n,Xm ws p o (n+d) v<=Xm ws p o n v
 | 0,n=>Int.le_refl _
 | d+1,n=>Int.le_trans (Wx _ _ _) (Wy o v d n)
theorem bfR_edge(o:Nat->Int){u:Nat}(h:NH ws p u v w):Xm ws p o ws.length v<=o u+w:=by
 obtain ⟨k,hk,h2,rfl⟩:=h;have m:=Wy (ws:=ws) (p:=p) o v (ws.length-(k+1)) (k+1);rw [show k+1+(ws.length-(k+1))=ws.length by omega] at m;refine Int.le_trans m ?_;have a:=bfWay_a (ws:=ws) (p:=p) (Xm ws p o k) k;have l:=Ye (ws:=ws) (p:=p) o u k;show KL ws p (Xm ws p o k) k v<=_;rcases h2 with ⟨rfl,rfl⟩ | ⟨rfl,rfl⟩
 ·have:=a.2;omega
 ·have:=a.1;omega
theorem bfN_walk(np:Nat)(h:Ma ws p x k v d):S1 ws p (OD np x) k v<=d:=by
 induction h with
 | nil=>show OD np x x<=0;unfold OD;rw [if_pos rfl];exact Int.le_refl _
 | step _ c ih=>exact Int.le_trans (bfR_edge _ c) aA
theorem Wz(o:Nat->Int)(v:Nat):∀d r,S1 ws p o (r+d) v<=S1 ws p o r v
 | 0,r=>Int.le_refl _
 | d+1,r=>Int.le_trans (Ye _ _ _) (Wz o v d r)
theorem bfWay_ge(bk:Ay bag kinds ps ws js ns)(hp:BF p)(hx:x<ps.length){o:Nat->Int}(h:∀v,v<ps.length->Ar ps.length ws p x v<=o v)(hk:k<ws.length):∀v,v<ps.length->Ar ps.length ws p x v<=KL ws p o k v:=by
 have fw:=G6 (np:=ps.length) hp (Iv bk.way);have ed:NH ws p (wA ws k) (wB ws k) (p.ways k):=⟨k,hk,.inl ⟨rfl,rfl⟩,rfl⟩;have r:=NI bk ed;have e1:=NJ bk hp ed;have e2:=NJ bk hp ed.symm;have t1:=fw.tri (wB ws k) r.2 x (wA ws k) hx r.1;have t2:=fw.tri (wA ws k) r.1 x (wB ws k) hx r.2;have a:=h _ r.1;have b:=h _ r.2;intro v hv;unfold KL K5;by_cases c:v=wB ws k
 ·rw [if_pos c,if_pos rfl,c];by_cases c2:wB ws k=wA ws k
  ·have a':Ar ps.length ws p x (wB ws k)<=o (wA ws k):=by rw [c2];exact a
   have w0:=hp.ways k;rw [if_pos c2];omega
  ·rw [if_neg c2];omega
 ·rw [if_neg c];by_cases c2:v=wA ws k
  ·rw [if_pos c2,c2];omega
  ·rw [if_neg c2];exact h v hv
theorem bfN_ge(bk:Ay bag kinds ps ws js ns)(hp:BF p)(hx:x<ps.length):∀r v,v<ps.length->Ar ps.length ws p x v<=S1 ws p (OD ps.length x) r v
 | 0,v,hv=>by
  show _<=OD ps.length x v;unfold OD;by_cases c:v=x
  ·rw [if_pos c,c,(G6 (np:=ps.length) hp (Iv bk.way)).s.diag];exact Int.le_refl _
  ·rw [if_neg c];obtain ⟨k,hk,t⟩:=Tu bk hp hx hv
   have:=t.le hp
   omega
 | r+1,v,hv=>by
  have ih:=bfN_ge bk hp hx r
  have:∀n,n<=ws.length->∀v,v<ps.length->Ar ps.length ws p x v<=Xm ws p (S1 ws p (OD ps.length x) r) n v:=by
   intro n
   induction n with
   | zero=>exact λ_=>ih
   | succ n ihn=>exact λhn=>bfWay_ge bk hp hx (ihn aA) aA
  exact this ws.length (Nat.le_refl _) v hv
theorem bf_far(bk:Ay bag kinds ps ws js ns)(hp:BF p)(hx:x<ps.length)(hv:v<ps.length):S1 ws p (OD ps.length x) ps.length v=Ar ps.length ws p x v:=by
 refine Int.le_antisymm ?_ (bfN_ge bk hp hx _ v hv);obtain ⟨k,hk,t⟩:=Tu bk hp hx hv;have m:=Wz (ws:=ws) (p:=p) (OD ps.length x) v (ps.length-k) k;rw [show k+(ps.length-k)=ps.length by omega] at m;exact Int.le_trans m (bfN_walk _ t)
end
end Go.Ns
namespace Go.Ns
def dfs(S:Nat->Int×Int):Nat->Nat->List (List Int)
 | 0,_=>[[]]
 | f+1,i=>(EM (S i).1 (S i).2).flatMap λn=>(dfs S f (i+1)).map λs=>n ::s
def B1(S:Nat->Int×Int):Nat->List (List Int)
 | 0=>[[]]
 | i+1=>(B1 S i).flatMap λx=>(EM (S i).1 (S i).2).map λn=>x++[n]
section
variable {S:Nat->Int×Int}
theorem W0:∀f i,dfs S (f+1) i=(dfs S f i).flatMap λx=>(EM (S (i+f)).1 (S (i+f)).2).map λn=>x++[n]
 | 0,i=>by
  show (EM (S i).1 (S i).2).flatMap (λn=>[[n]])=[[]].flatMap _;rw [List.flatMap_cons,List.flatMap_nil,List.append_nil,Nat.add_zero,List.map_eq_flatMap];rfl
 | f+1,i=>by
  have ih:=W0 f (i+1);show (EM (S i).1 (S i).2).flatMap (λn=>(dfs S (f+1) (i+1)).map λs=>n ::s)=((EM (S i).1 (S i).2).flatMap λn=>(dfs S f (i+1)).map λs=>n ::s).flatMap _;rw [List.flatMap_assoc];congr 1;funext n;rw [ih,List.map_flatMap,List.flatMap_map];congr 1;funext s;rw [List.map_map,show i+1+f=i+(f+1) by omega];rfl
theorem Rw:∀m,B1 S m=dfs S m 0
 | 0=>rfl
 | m+1=>by
  rw [W0,<-Rw m,Nat.zero_add];rfl
end
def Dw(w k:List Int):AC:=⟨λi=>w.getD i 0,λi=>k.getD i 0⟩
def NK(p:AC)(i:Nat)(s:List Int):AC:={ p with ways:=λk=>if i<=k/\k<i+s.length then s.getD (k-i) 0 else p.ways k }
def NL(p:AC)(i:Nat)(s:List Int):AC:={ p with works:=λk=>if i<=k/\k<i+s.length then s.getD (k-i) 0 else p.works k }
theorem W1{f:Nat->Int}{i n:Nat}{v:Int}{s:List Int}:(λk=>if i<=k/\k<i+(v ::s).length then (v ::s).getD (k-i) 0 else f k)=λk=>if i+1<=k/\k<i+1+s.length then s.getD (k-(i+1)) 0 else if k=i then v else f k:=by
 funext k;by_cases h1:k=i
 ·subst h1;rw [if_pos aD,if_neg aA,if_pos rfl,Nat.sub_self];rfl
 ·by_cases h2:i+1<=k/\k<i+1+s.length
  ·rw [if_pos h2,if_pos (by simp only [List.length_cons];omega),show k-i=(k-(i+1))+1 by omega];rfl
  ·rw [if_neg h2,if_neg (by simp only [List.length_cons];omega),if_neg h1]
theorem Rx{p:AC}{nw i:Nat}{v:Int}{s:List Int}(h:i<nw):NK p i (v ::s)=NK (p.put nw i v) (i+1) s:=by
 unfold NK AC.put;rw [if_pos h,W1 (n:=0)];rfl
theorem Yf{p:AC}{nw i:Nat}{v:Int}{s:List Int}(h:nw<=i):NL p (i-nw) (v ::s)=NL (p.put nw i v) (i+1-nw) s:=by
 unfold NL AC.put;rw [if_neg aA,W1 (n:=0),show i-nw+1=i+1-nw by omega];rfl
theorem Tv(p:AC)(i:Nat):NK p i []=p:=by
 unfold NK
 have:(λk=>if i<=k/\k<i+([]:List Int).length then ([]:List Int).getD (k-i) 0 else p.ways k)=p.ways:=funext λk=>if_neg aD
 rw [this]
theorem putsK_nil(p:AC)(i:Nat):NL p i []=p:=by
 unfold NL
 have:(λk=>if i<=k/\k<i+([]:List Int).length then ([]:List Int).getD (k-i) 0 else p.works k)=p.works:=funext λk=>if_neg aD
 rw [this]
def Fv(ws:List AB)(k:Nat):Int×Int:=((ws.getD k AB.z).low,(ws.getD k AB.z).high)
def Ie(js:List AK)(k:Nat):Int×Int:=((js.getD k AK.z).low,(js.getD k AK.z).high)
section
variable {ws:List AB} {js:List AK} {ns:List AJ} {ag:AC->Bool}
theorem Tw:∀(f i:Nat)(p:AC),ws.length<=i->CS ag ws js f i p=(dfs (Ie js) f (i-ws.length)).map (NL p (i-ws.length))
 | 0,i,p,_=>by
  show [p]=[[]].map _;rw [List.map_singleton,putsK_nil]
 | f+1,i,p,h=>by
  rw [EG];have e1:CX ws js i=(Ie js (i-ws.length)).1:=if_neg aA;have e2:GE ws js i=(Ie js (i-ws.length)).2:=if_neg aA;show _=((EM _ _).flatMap _).map _;rw [e1,e2,List.map_flatMap];congr 1;funext n;unfold CG;rw [if_neg aA,Tw f (i+1) _ aA,List.map_map,show i+1-ws.length=i-ws.length+1 by omega];congr 1;funext s;show _=NL p (i-ws.length) (n ::s);rw [Yf h,show i+1-ws.length=i-ws.length+1 by omega]
theorem O6{V β:Type}(q:V->Bool)(F:V->List β):∀l:List V,(l.filter q).flatMap F=l.flatMap λx=>if q x=true then F x else []
 | []=>rfl
 | x ::l=>by
  rw [List.filter_cons,List.flatMap_cons,<-O6 q F l];by_cases h:q x=true
  ·rw [if_pos h,if_pos h,List.flatMap_cons]
  ·rw [if_neg h,if_neg h,List.nil_append]
theorem W3:∀(f i:Nat)(p:AC),i+(f+1)=ws.length->CS ag ws js (f+1+js.length) i p=(dfs (Fv ws) (f+1) i).flatMap λs=>if ag (NK p i s)=true then CS ag ws js js.length ws.length (NK p i s) else []
 | 0,i,p,h=>by
  rw [show 0+1+js.length=js.length+1 by omega,EG];have e1:CX ws js i=(Fv ws i).1:=if_pos aA;have e2:GE ws js i=(Fv ws i).2:=if_pos aA;show _=((EM _ _).flatMap λn=>[[n]]).flatMap _;rw [e1,e2,List.flatMap_assoc];congr 1;funext n;rw [List.flatMap_cons,List.flatMap_nil,List.append_nil,Rx (nw:=ws.length) aA,Tv];unfold CG;cases hb:ag (p.put ws.length i n) with
  | false=>rw [if_pos ⟨aA,rfl⟩];rfl
  | true=>rw [if_neg (λq=>by cases q.2),if_pos rfl,show i+1=ws.length by omega]
 | f+1,i,p,h=>by
  rw [show f+1+1+js.length=(f+1+js.length)+1 by omega,EG];have e1:CX ws js i=(Fv ws i).1:=if_pos aA;have e2:GE ws js i=(Fv ws i).2:=if_pos aA;show _=((EM _ _).flatMap λn=>(dfs (Fv ws) (f+1) (i+1)).map λs=>n ::s).flatMap _;rw [e1,e2,List.flatMap_assoc];congr 1;funext n;unfold CG;rw [if_neg (λq=>aA),W3 f (i+1) _ aA,List.flatMap_map];congr 1;funext s;rw [Rx (nw:=ws.length) aA]
def G7(ws:List AB)(js:List AK)(ns:List AJ):List (List Int×List Int):=
 ((B1 (Fv ws) ws.length).filter λw=>Bn ns (Dw w [])).flatMap λw=>(B1 (Ie js) js.length).map λk=>(w,k)
theorem Tx{w:List Int}:NK AC.zero 0 w=Dw w []:=by
 unfold NK Dw AC.zero;congr 1
 ·funext k;by_cases h:k<w.length
  ·rw [if_pos aA];rfl
  ·rw [if_neg aA,Bc aA]
theorem puts_both{w k:List Int}:NL (Dw w []) 0 k=Dw w k:=by
 unfold NL Dw;congr 1;funext i;by_cases h:i<k.length
 ·rw [if_pos aA];rfl
 ·rw [if_neg aA,Bc aA];rfl
theorem O7:AA ws js ns=(G7 ws js ns).map λx=>Dw x.1 x.2:=by
 have wk:∀w:List Int,CS (Bn ns) ws js js.length ws.length (Dw w [])=(B1 (Ie js) js.length).map λk=>Dw w k:=λw=>by
  rw [Tw _ _ _ (Nat.le_refl _),Nat.sub_self,Rw];congr 1;funext k;exact puts_both
 unfold G7;rw [O6,List.map_flatMap];have rhs:∀w:List Int,(if Bn ns (Dw w [])=true then (B1 (Ie js) js.length).map λk=>(w,k) else []).map (λx=>Dw x.1 x.2)=if Bn ns (Dw w [])=true then CS (Bn ns) ws js js.length ws.length (Dw w []) else []:=λw=>by
  split
  ·rw [wk,List.map_map];rfl
  ·rfl
 simp only [rhs];unfold AA;rcases Nat.eq_zero_or_pos ws.length with h | h
 ·rw [h,Nat.zero_add];show _=[[]].flatMap _;rw [List.flatMap_cons,List.flatMap_nil,List.append_nil];have z:(Dw [] []:AC)=AC.zero:=by rw [<-Tx,Tv]
  rw [z];by_cases c:Bn ns AC.zero=true
  ·rw [if_pos (.inr c),if_pos c]
  ·rw [if_neg (λq=>q.elim aA c),if_neg c]
 ·rw [if_pos (.inl h)]
  have:=W3 (ag:=Bn ns) (ws:=ws) (js:=js) (ws.length-1) 0 AC.zero aA
  rw [show ws.length-1+1=ws.length by omega] at this;rw [this,Rw];congr 1;funext w;rw [Tx]
end
end Go.Ns
namespace Go.Ns
def KN(np:Nat)(o:Nat->Int):List Int:=(List.range np).map o
def bfIf(np x i:Nat):Nat->Int:=λv=>if v<i/\v≠x then 30*(np:Int) else 0
def Tz(np x i:Nat):List Int:=KN np (bfIf np x i)
section
variable {np x i k:Nat} {o:Nat->Int} {v:Int} {ws:List AB} {p:AC}
theorem LU:(KN np o).length=np:=by unfold KN;rw [List.length_map,List.length_range]
theorem bfI_len:(Tz np x i).length=np:=LU
theorem NM(h:i<np):(KN np o).getD i 0=o i:=by
 unfold KN;rw [B5 0 (by rw [List.length_map,List.length_range];exact h),List.getElem_map,List.getElem_range]
theorem Yg{j:Nat}(h:j<(KN np o).length):(KN np o)[j]=o j:=by
 simp only [KN,List.getElem_map,List.getElem_range]
theorem VL(h:i<np):(KN np o).set i v=KN np (K5 o i v):=by
 apply List.ext_getElem
 ·rw [List.length_set,LU,LU]
 ·intro j h1 h2;rw [List.getElem_set,Yg,Yg];unfold K5;by_cases c:i=j
  ·rw [if_pos c,if_pos c.symm]
  ·rw [if_neg c,if_neg (λq=>c q.symm)]
theorem bfI_0:Tz np x 0=List.replicate np 0:=by
 apply List.ext_getElem
 ·rw [bfI_len,List.length_replicate]
 ·intro j h1 h2;rw [List.getElem_replicate];exact (Yg h1).trans (if_neg aA)
theorem bfI_put(hi:i<np)(h:i≠x):(Tz np x i).set i (30*(np:Int))=Tz np x (i+1):=by
 unfold Tz;rw [VL hi];congr 1;funext j;unfold K5 bfIf;by_cases c:j=i
 ·rw [if_pos c,if_pos ⟨aA,aA⟩]
 ·rw [if_neg c];by_cases d:j<i/\j≠x
  ·rw [if_pos d,if_pos ⟨aA,d.2⟩]
  ·rw [if_neg d,if_neg (λq=>d ⟨aA,q.2⟩)]
theorem bfI_skip(h:i=x):Tz np x i=Tz np x (i+1):=by
 unfold Tz;congr 1;funext v;unfold bfIf;by_cases d:v<i/\v≠x
 ·rw [if_pos d,if_pos ⟨aA,d.2⟩]
 ·rw [if_neg d,if_neg (λq=>d ⟨aA,q.2⟩)]
theorem bfI_end(h:np<=i):Tz np x i=KN np (OD np x):=by
 unfold Tz KN;apply List.map_congr_left;intro v hv
 have:=List.mem_range.1 hv
 unfold OD bfIf;by_cases c:v=x
 ·rw [if_neg (λq=>q.2 c),if_pos c]
 ·rw [if_pos ⟨aA,c⟩,if_neg c]
def Yh(np:Nat)(o:Nat->Int):Prop:=∀i,i<np->0<=o i/\o i<=30*(np:Int)
theorem bfZ_ok(x:Nat):Yh np (OD np x):=λi _=>by unfold OD;split <;> omega
theorem bfWay_ok(h:Yh np o)(ha:wA ws k<np)(hb:wB ws k<np)(hp:BF p):Yh np (KL ws p o k):=λi hi=>by
 have w:=hp.ways k;have a:=h _ ha;have b:=h _ hb;have c:=h i hi;unfold KL K5;by_cases e:i=wB ws k
 ·rw [if_pos e,if_pos rfl];by_cases e2:wB ws k=wA ws k
  ·rw [if_pos e2];omega
  ·rw [if_neg e2];omega
 ·rw [if_neg e];by_cases e2:i=wA ws k
  ·rw [if_pos e2];omega
  ·rw [if_neg e2];exact c
theorem Yi(h:Yh np o)(hw:∀k,k<ws.length->wA ws k<np/\wB ws k<np)(hp:BF p):∀n,n<=ws.length->Yh np (Xm ws p o n)
 | 0,_=>h
 | n+1,hn=>bfWay_ok (Yi h hw hp n aA) (hw n aA).1 (hw n aA).2 hp
theorem bfN_ok(x:Nat)(hw:∀k,k<ws.length->wA ws k<np/\wB ws k<np)(hp:BF p):∀r,Yh np (S1 ws p (OD np x) r)
 | 0=>bfZ_ok x
 | r+1=>Yi (bfN_ok x hw hp r) hw hp _ (Nat.le_refl _)
theorem bfL_rng(h:Yh np o)(i:Nat):0<=(KN np o).getD i 0/\(KN np o).getD i 0<=30*(np:Int):=by
 by_cases c:i<np
 ·rw [NM c];exact h i c
 ·rw [Bc (by rw [LU];omega)];omega
theorem bfL_way(ha:wA ws k<np)(hb:wB ws k<np):((KN np o).set (wA ws k) (min ((KN np o).getD (wA ws k) 0) ((KN np o).getD (wB ws k) 0+p.ways k))).set (wB ws k) (min (((KN np o).set (wA ws k) (min ((KN np o).getD (wA ws k) 0) ((KN np o).getD (wB ws k) 0+p.ways k))).getD (wB ws k) 0) (((KN np o).set (wA ws k) (min ((KN np o).getD (wA ws k) 0) ((KN np o).getD (wB ws k) 0+p.ways k))).getD (wA ws k) 0+p.ways k))=KN np (KL ws p o k):=by
 rw [NM ha,NM hb,VL ha,NM hb,NM ha,VL hb];rfl
theorem set_rng{l:List Int}{A:Nat}{b:Int}(h:∀i,0<=l.getD i 0/\l.getD i 0<=b)(hv:0<=v/\v<=b)(i:Nat):0<=(l.set A v).getD i 0/\(l.set A v).getD i 0<=b:=by
 rw [List.getD_eq_getElem?_getD,List.getElem?_set];by_cases c:A=i
 ·subst c;by_cases d:A<l.length
  ·rw [if_pos rfl,if_pos d];exact hv
  ·rw [if_pos rfl,if_neg d];have:=h A;show 0<=(0:Int)/\(0:Int)<=b;omega
 ·rw [if_neg c,<-List.getD_eq_getElem?_getD];exact h i
end
def Ee(np:Nat)(ws:List AB)(p:AC)(x:Nat):List Int:=(List.range np).map (Ar np ws p x)
section
variable {bag kinds:Int} {ps:List ByteArray} {ws:List AB} {js:List AK} {ns:List AJ} {p:AC} {x i:Nat}
theorem way_ab(bk:Ay bag kinds ps ws js ns)(k:Nat)(hk:k<ws.length):wA ws k<ps.length/\wB ws k<ps.length:=by
 have o:=IU bk.way k hk;have h3:=o.a;have h4:=o.b;unfold wA wB;omega
theorem farLn_end(bk:Ay bag kinds ps ws js ns)(hp:BF p)(hx:x<ps.length){r:Nat}(hr:r=ps.length):Ee ps.length ws p x=KN ps.length (S1 ws p (OD ps.length x) r):=by
 subst hr;unfold Ee KN;apply List.map_congr_left;intro v hv;exact (bf_far bk hp hx (List.mem_range.1 hv)).symm
theorem T0:(Ee ps.length ws p x).length=ps.length:=by unfold Ee;rw [List.length_map,List.length_range]
theorem OE(h:i<ps.length):(Ee ps.length ws p x).getD i 0=Ar ps.length ws p x i:=by
 unfold Ee;rw [B5 0 (by rw [List.length_map,List.length_range];exact h),List.getElem_map,List.getElem_range]
end
theorem note_way{nw k q:Nat}{ns:List AJ}(h:Du nw ns k=0)(hq:q<(ns.getD k AJ.z).ways.length):0<=(ns.getD k AJ.z).ways.getD q 0/\(ns.getD k AJ.z).ways.getD q 0<=(nw:Int)-1:=by
 unfold Du at h;split at h
 ·cases h
 ·split at h
  ·cases h
  ·rename_i h6
   have h7:¬∃x ∈ (ns.getD k AJ.z).ways,¬(0<=x/\x<=(nw:Int)-1):=by simpa [List.any_eq_true] using h6
   exact Classical.byContradiction λz=>h7 ⟨_,BL hq,z⟩
def If(l:List Int):Nat->Int
 | 0=>l.getD 0 0
 | k+1=>min (If l k) (l.getD (k+1) 0)
def Ig(l:List Int):Nat->Int
 | 0=>l.getD 0 0
 | k+1=>max (Ig l k) (l.getD (k+1) 0)
section
variable {F:AC->Int} {pq:List AC} {hl:List (List Int×List Int)}
theorem LV{V:Type}{z:V}{G:V->Int}{l:List V}{k:Nat}(h:k<l.length):(l.map G).getD k 0=G (l.getD k z):=by
 rw [B5 0 (by rw [List.length_map];exact h),List.getElem_map,B5 z h]
theorem W4:∀k,k<pq.length->If (pq.map F) k=U6 F pq k
 | 0,h=>LV h
 | k+1,h=>by
  unfold If U6;rw [W4 k aA,LV (z:=AC.zero) h,Ky]
theorem W5:∀k,k<pq.length->Ig (pq.map F) k=RM F pq k
 | 0,h=>LV h
 | k+1,h=>by
  unfold Ig RM;rw [W5 k aA,LV (z:=AC.zero) h,Ky]
theorem NN(h:0<pq.length):If (pq.map F) ((pq.map F).length-1)=BY F pq/\Ig (pq.map F) ((pq.map F).length-1)=A3 F pq:=by
 rw [List.length_map];exact ⟨W4 _ aA,W5 _ aA⟩
end
end Go.Ns
namespace Go.Ns
open Go.Conc
structure P2 where
 w:Sl
 k:Sl
def P2.o:P2:=⟨Sl.z,Sl.z⟩
def eP2(x:P2):Array Value:=#[x.w.1,x.k.1]
def EI(h:GH)(t:TypeId)(l:List P2):Prop:=∀k,Bu h t (l.getD k P2.o).w.1 (l.getD k P2.o).w.2/\Bu h t (l.getD k P2.o).k.1 (l.getD k P2.o).k.2
theorem EI.le{h h':GH}{t:TypeId}{l:List P2}(x:EI h t l)(e:h.Le h'):EI h' t l:=λk=>⟨(x k).1.le e,(x k).2.le e⟩
theorem EI.nil(h:GH)(t:TypeId):EI h t []:=λk=>by
 rw [Bc aD];exact ⟨Bu.nil _ _,Bu.nil _ _⟩
theorem EI.app{h:GH}{t:TypeId}{l l':List P2}(a:EI h t l)(b:EI h t l'):EI h t (l++l'):=λk=>by
 rw [Gc];split
 ·exact a k
 ·exact b _
theorem EI.one{h:GH}{t:TypeId}{x:P2}(a:Bu h t x.w.1 x.w.2)(b:Bu h t x.k.1 x.k.2):EI h t [x]:=λk=>by
 cases k with
 | zero=>exact ⟨a,b⟩
 | succ k=>rw [Bc aD];exact ⟨Bu.nil _ _,Bu.nil _ _⟩
theorem EI.grown{V:Type}{h h' h0:GH}{v v':Value}{t t':TypeId}{n:Nat}{enc:V->Array Value}{ys:List V}(g:GR h h' v v')(o:AM h0 h v t' n enc ys)(ne:t'≠t){l:List P2}(x:EI h t l):EI h' t l:=λk=>⟨(x k).1.grown g o ne,(x k).2.grown g o ne⟩
theorem EI.fine{h:GH}{t:TypeId}{l:List P2}(a:EI h t l):∀y ∈ l,(eP2 y).toList.all (·.oneCell')=true:=λy hy=>by
 obtain ⟨k,hk,e⟩:=List.mem_iff_getElem.1 hy;obtain rfl:l.getD k P2.o=y:=by rw [B5 P2.o hk];exact e
 show (((l.getD k P2.o).w.1.oneCell') && (((l.getD k P2.o).k.1.oneCell') && true))=true;rw [(AO.one (a k).1.1).2,(AO.one (a k).2.1).2];rfl
theorem fill_b2{v0 v1:Value}(h0:v0.cells=#[v0])(h1:v1.cells=#[v1]):Instr.fill (λx=>#[(0,1),(1,1)][x]?) #[Value.slice none 0 0,Value.slice none 0 0] [(0,v0),(1,v1)]=some #[v0,v1]:=by
 simp [Instr.fill,h0,h1]
def rps(l:List P2):List (List Int×List Int):=l.map λx=>(x.w.2,x.k.2)
theorem rps_app(a b:List P2):rps (a++b)=rps a++rps b:=List.map_append
theorem VM(l:List P2):(rps l).length=l.length:=List.length_map _
theorem rps_getD{l:List P2}{k:Nat}(hk:k<l.length):(rps l).getD k ([],[])=((l.getD k P2.o).w.2,(l.getD k P2.o).k.2):=by
 unfold rps;rw [B5 _ (by simpa using hk),B5 P2.o hk,List.getElem_map]
section
variable {S:Nat->Int×Int}
def G8(S:Nat->Int×Int)(i k j:Nat):List (List Int):=(((B1 S i).take k).flatMap λx=>(EM (S i).1 (S i).2).map λn=>x++[n])++(Cc (S i).1 j).map λn=>(B1 S i).getD k []++[n]
theorem W6{i k:Nat}:G8 S i k 0=((B1 S i).take k).flatMap λx=>(EM (S i).1 (S i).2).map λn=>x++[n]:=by
 unfold G8 Cc;rw [List.range_zero,List.map_nil,List.map_nil,List.append_nil]
theorem nextTo_j{i k j:Nat}:G8 S i k (j+1)=G8 S i k j++[(B1 S i).getD k []++[(S i).1+(j:Int)]]:=by
 unfold G8;rw [KW,List.map_append,List.append_assoc];rfl
theorem nextTo_k{i k j:Nat}(hk:k<(B1 S i).length)(h1:¬(S i).1+(j:Int)<=(S i).2)(h2:(j:Int)<=(S i).2-(S i).1+1\/j=0):G8 S i k j=G8 S i (k+1) 0:=by
 rw [W6,B7 [] hk,List.flatMap_append,List.flatMap_cons,List.flatMap_nil,List.append_nil];unfold G8 EM;rw [show j=((S i).2-(S i).1+1).toNat by omega]
theorem Yj{i k:Nat}(hk:(B1 S i).length<=k):G8 S i k 0=B1 S (i+1):=by
 rw [W6,List.take_of_length_le hk];rfl
theorem W7(h:∀i,(S i).2-(S i).1<2):∀i,(B1 S i).length<=2 ^ i
 | 0=>Nat.le_refl 1
 | i+1=>by
  have:=KX (f:=λx=>(EM (S i).1 (S i).2).map λn=>x++[n]) (c:=2) (l:=B1 S i) λx _=>by
   rw [List.length_map];exact MF (h i)
  have h2:=W7 h i;show ((B1 S i).flatMap λx=>(EM (S i).1 (S i).2).map λn=>x++[n]).length<=2 ^ (i+1);rw [Nat.pow_succ];omega
theorem J1(h:∀i,(S i).2-(S i).1<2){i:Nat}(hi:i<=5):(B1 S i).length<=32:=Nat.le_trans (W7 h i) (Nat.pow_le_pow_right aC hi:2 ^ i<=2 ^ 5)
theorem Yk(h:∀i,(S i).2-(S i).1<2){i k j:Nat}(hi:i<=5)(hj:j<=2):(G8 S i k j).length<=66:=by
 have h1:=KX (f:=λx=>(EM (S i).1 (S i).2).map λn=>x++[n]) (c:=2) (l:=(B1 S i).take k) λx _=>by
  rw [List.length_map];exact MF (h i)
 have h2:=J1 h hi;have h3:((B1 S i).take k).length<=32:=Nat.le_trans (List.length_take_le' _ _) h2;unfold G8 Cc;rw [List.length_append,List.length_map,List.length_map,List.length_range];omega
theorem JT:∀(m:Nat)(s:List Int),s ∈ B1 S m->s.length=m/\∀k,k<m->(S k).1<=s.getD k 0/\s.getD k 0<=(S k).2
 | 0,s,h=>by rw [List.mem_singleton.1 h];exact ⟨rfl,λk hk=>absurd hk (Nat.not_lt_zero _)⟩
 | m+1,s,h=>by
  obtain ⟨x,hx,h⟩:=List.mem_flatMap.1 h;obtain ⟨n,hn,rfl⟩:=List.mem_map.1 h;obtain ⟨e,r⟩:=JT m x hx;have hn:=QQ.1 hn;refine ⟨by rw [List.length_append,e];rfl,λk hk=>?_⟩;rw [Gc];by_cases c:k<m
  ·rw [if_pos aA];exact r k c
  ·have:k=m:=aA
   subst this;rw [if_neg aA,e,Nat.sub_self];show (S k).1<=n/\n<=(S k).2;omega
theorem nums_at{i k:Nat}(h:k<(B1 S i).length):((B1 S i).getD k []).length=i:=(JT i _ (BL h)).1
theorem MS{S':Nat->Int×Int}:∀m,(∀k,k<m->S k=S' k)->B1 S m=B1 S' m
 | 0,_=>rfl
 | m+1,h=>by
  unfold B1;rw [MS m λk hk=>h k aA,h m aA]
end
def W8(ws:List AB):List (Int×Int):=ws.map λx=>(x.low,x.high)
def W9(js:List AK):List (Int×Int):=js.map λx=>(x.low,x.high)
section
variable {bag kinds:Int} {ps:List ByteArray} {ws:List AB} {js:List AK} {ns:List AJ} {k:Nat}
theorem J2:(W8 ws).length=ws.length:=List.length_map _
theorem J3:(W9 js).length=js.length:=List.length_map _
theorem spW_next(h:k<ws.length):W8 (ws.take (k+1))=W8 (ws.take k)++[((ws.getD k AB.z).low,(ws.getD k AB.z).high)]:=by
 unfold W8;rw [B7 AB.z h,List.map_append];rfl
theorem spJ_next(h:k<js.length):W9 (js.take (k+1))=W9 (js.take k)++[((js.getD k AK.z).low,(js.getD k AK.z).high)]:=by
 unfold W9;rw [B7 AK.z h,List.map_append];rfl
theorem spW_at(h:k<ws.length):(W8 ws).getD k (0,0)=Fv ws k:=by
 unfold W8 Fv;rw [B5 _ (by rw [List.length_map];exact h),List.getElem_map,B5 AB.z h]
theorem spJ_at(h:k<js.length):(W9 js).getD k (0,0)=Ie js k:=by
 unfold W9 Ie;rw [B5 _ (by rw [List.length_map];exact h),List.getElem_map,B5 AK.z h]
theorem XA:B1 (λk=>(W8 ws).getD k (0,0)) (W8 ws).length=B1 (Fv ws) ws.length:=by
 rw [J2];exact MS _ λk hk=>spW_at hk
theorem XB:B1 (λk=>(W9 js).getD k (0,0)) (W9 js).length=B1 (Ie js) js.length:=by
 rw [J3];exact MS _ λk hk=>spJ_at hk
theorem spW_rng(bk:Ay bag kinds ps ws js ns)(k:Nat):(0<=((W8 ws).getD k (0,0)).1/\((W8 ws).getD k (0,0)).2<=30)/\((W8 ws).getD k (0,0)).2-((W8 ws).getD k (0,0)).1<2:=by
 by_cases h:k<ws.length
 ·have:=(IU bk.way k h).time
  rw [spW_at h];show (0<=(ws.getD k AB.z).low/\(ws.getD k AB.z).high<=30)/\(ws.getD k AB.z).high-(ws.getD k AB.z).low<2;omega
 ·rw [Bc (by rw [J2];omega)];decide
theorem spJ_rng(bk:Ay bag kinds ps ws js ns)(k:Nat):(0<=((W9 js).getD k (0,0)).1/\((W9 js).getD k (0,0)).2<=30)/\((W9 js).getD k (0,0)).2-((W9 js).getD k (0,0)).1<2:=by
 by_cases h:k<js.length
 ·have:=(Kf (bk.job k h)).time
  rw [spJ_at h];show (0<=(js.getD k AK.z).low/\(js.getD k AK.z).high<=30)/\(js.getD k AK.z).high-(js.getD k AK.z).low<2;omega
 ·rw [Bc (by rw [J3];omega)];decide
def El(ns:List AJ)(W K:List (List Int))(i j:Nat):List (List Int×List Int):=(((W.take i).filter λw=>Bn ns (Dw w [])).flatMap λw=>K.map λk=>(w,k))++(K.take j).map λk=>(W.getD i [],k)
section
variable {W K:List (List Int)} {i j:Nat}
theorem LW:El ns W K i 0=(((W.take i).filter λw=>Bn ns (Dw w [])).flatMap λw=>K.map λk=>(w,k)):=by
 unfold El;rw [List.take_zero,List.map_nil,List.append_nil]
theorem VN(h:i<W.length)(hn:Bn ns (Dw (W.getD i []) [])=false):El ns W K i 0=El ns W K (i+1) 0:=by
 rw [LW,LW,B7 [] h,List.filter_append,List.filter_cons,if_neg (by rw [hn];decide),List.filter_nil,List.append_nil]
theorem VO(h:j<K.length):El ns W K i (j+1)=El ns W K i j++[(W.getD i [],K.getD j [])]:=by
 unfold El;rw [B7 [] h,List.map_append,List.append_assoc];rfl
theorem VP(h:i<W.length)(hn:Bn ns (Dw (W.getD i []) [])=true)(hj:K.length<=j):El ns W K i j=El ns W K (i+1) 0:=by
 rw [LW,B7 [] h,List.filter_append,List.filter_cons,if_pos hn,List.filter_nil,List.flatMap_append,List.flatMap_cons,List.flatMap_nil,List.append_nil];unfold El;rw [List.take_of_length_le hj]
theorem XC(h:W.length<=i)(hW:W=B1 (Fv ws) ws.length)(hK:K=B1 (Ie js) js.length):El ns W K i 0=G7 ws js ns:=by
 rw [LW,List.take_of_length_le h];subst hW;subst hK;rfl
theorem XD(hW:W.length<=32)(hK:K.length<=32):(El ns W K i j).length<=1056:=by
 have h1:=KX (f:=λw=>K.map λk=>(w,k)) (c:=32) (l:=(W.take i).filter λw=>Bn ns (Dw w [])) λx _=>by rw [List.length_map];exact hK
 have h2:=List.length_filter_le (λw=>Bn ns (Dw w [])) (W.take i);have h3:=List.length_take_le i W;have h4:=List.length_take_le j K;have h5:=List.length_take_le' i W;have h6:=List.length_take_le' j K;unfold El;rw [List.length_append,List.length_map];omega
end
theorem num_ok(bk:Ay bag kinds ps ws js ns){s:List Int}(hs:s ∈ B1 (Fv ws) ws.length)(k:Nat):0<=s.getD k 0/\s.getD k 0<=30:=by
 obtain ⟨e,r⟩:=JT _ s hs;by_cases h:k<ws.length
 ·have:=(IU bk.way k h).time
  have q:=r k h;unfold Fv at q;omega
 ·rw [Bc aA];decide
theorem numJ_ok(bk:Ay bag kinds ps ws js ns){s:List Int}(hs:s ∈ B1 (Ie js) js.length)(k:Nat):0<=s.getD k 0/\s.getD k 0<=30:=by
 obtain ⟨e,r⟩:=JT _ s hs;by_cases h:k<js.length
 ·have:=(Kf (bk.job k h)).time
  have q:=r k h;unfold Ie at q;omega
 ·rw [Bc aA];decide
theorem toT_ok(bk:Ay bag kinds ps ws js ns){s:List Int}(hs:s ∈ B1 (Fv ws) ws.length):BF (Dw s []):=⟨num_ok bk hs,λk=>by show 0<=([]:List Int).getD k 0/\([]:List Int).getD k 0<=30;rw [Bc (Nat.zero_le _)];decide⟩
theorem pasts_mem(bk:Ay bag kinds ps ws js ns){x:List Int×List Int}(h:x ∈ G7 ws js ns):BF (Dw x.1 x.2)/\x.1.length=ws.length/\x.2.length=js.length:=by
 obtain ⟨w,hw,h⟩:=List.mem_flatMap.1 h;obtain ⟨k,hk,rfl⟩:=List.mem_map.1 h;have hw:=(List.mem_filter.1 hw).1;exact ⟨⟨num_ok bk hw,numJ_ok bk hk⟩,(JT _ w hw).1,(JT _ k hk).1⟩
theorem NO(bk:Ay bag kinds ps ws js ns){pl:List P2}(hrp:rps pl=G7 ws js ns)(hk:k<pl.length):BF (Dw (pl.getD k P2.o).w.2 (pl.getD k P2.o).k.2)/\(pl.getD k P2.o).w.2.length=ws.length/\(pl.getD k P2.o).k.2.length=js.length/\(AA ws js ns).getD k AC.zero=Dw (pl.getD k P2.o).w.2 (pl.getD k P2.o).k.2:=by
 have hl:k<(G7 ws js ns).length:=by rw [<-hrp,VM];exact hk
 have e:(G7 ws js ns).getD k ([],[])=((pl.getD k P2.o).w.2,(pl.getD k P2.o).k.2):=by rw [<-hrp,rps_getD hk]
 have m:=pasts_mem bk (BL (d:=([],[])) hl);rw [e] at m;refine ⟨m.1,m.2.1,m.2.2,?_⟩;rw [O7,B5 _ (by rw [List.length_map];exact hl),List.getElem_map];rw [B5 _ hl] at e;rw [e]
theorem EX{pl:List P2}(hrp:rps pl=G7 ws js ns):(AA ws js ns).length=pl.length:=by
 rw [O7,List.length_map,<-hrp,VM]
end
section
variable {bag kinds:Int} {ps:List ByteArray} {ws:List AB} {js:List AK} {ns:List AJ} {l:List Int} {p:AC}
theorem farLn_rng(hp:BF p)(x i:Nat):0<=(Ee ps.length ws p x).getD i 0/\(Ee ps.length ws p x).getD i 0<=1048576:=by
 by_cases h:i<ps.length
 ·rw [OE h];exact Nz hp x i
 ·rw [Bc (by rw [T0];omega)];decide
theorem pk_at{pw pk:List Int}(i:Nat):(Dw pw pk).works i=pk.getD i 0:=rfl
theorem R0{q:Nat}{j pl w:Int}(hj:j=l.getD q 0)(hpl:pl=(js.getD j.toNat AK.z).place)(hw:p.works j.toNat=w)(hr:pl.toNat<ps.length):Aw ps.length ws js p l q+(Ee ps.length ws p (Dv js l q).toNat).getD pl.toNat 0+w=Aw ps.length ws js p l (q+1):=by
 subst hpl;subst hw;subst hj;rw [OE hr,Int.add_assoc];rfl
end
def Ef(due:Int)(G:AC->Int)(pq:List AC):Nat->Int
 | 0=>0
 | i+1=>if due<G (pq.getD i AC.zero) then Ef due G pq i+1 else Ef due G pq i
section
variable {G:AC->Int} {pq:List AC} {due:Int}
theorem OF:∀i:Nat,0<=Ef due G pq i/\Ef due G pq i<=i
 | 0=>⟨Int.le_refl 0,Int.le_refl 0⟩
 | i+1=>by
  have r:=OF i;unfold Ef;split <;> omega
theorem T1:∀i,(Ef due G pq (i+1)=0↔RM G pq i<=due)/\(Ef due G pq (i+1)=(i:Int)+1↔due<U6 G pq i)
 | 0=>by
  show ((if due<G (pq.getD 0 AC.zero) then (0:Int)+1 else 0)=0↔G (pq.getD 0 AC.zero)<=due)/\((if due<G (pq.getD 0 AC.zero) then (0:Int)+1 else 0)=0+1↔due<G (pq.getD 0 AC.zero));split <;> omega
 | i+1=>by
  obtain ⟨a,b⟩:=T1 i;have r:=OF (due:=due) (G:=G) (pq:=pq) (i+1);have q:U6 G pq (i+1)=min (U6 G pq i) (G (pq.getD (i+1) AC.zero)):=by rw [U6,Ky]
  have q2:RM G pq (i+1)=max (RM G pq i) (G (pq.getD (i+1) AC.zero)):=by rw [RM,Ky]
  rw [Ef,q,q2];split <;> omega
theorem late_all{n:Nat}(hn:n=pq.length)(h0:0<n):(Ef due G pq n=0↔A3 G pq<=due)/\(Ef due G pq n=(n:Int)↔due<BY G pq):=by
 subst hn;unfold BY A3;obtain ⟨m,e⟩:∃m,pq.length=m+1:=⟨pq.length-1,aA⟩;rw [e,Nat.add_sub_cancel];exact T1 m
end
section
variable {bag kinds:Int} {ps:List ByteArray} {ws:List AB} {js:List AK} {ns:List AJ} {l:List Int}
theorem goNow_g(bk:Ay bag kinds ps ws js ns)(q i:Nat)(hq:q<=5):0<=Aw ps.length ws js ((AA ws js ns).getD i AC.zero) l q/\Aw ps.length ws js ((AA ws js ns).getD i AC.zero) l q<=5243030:=by
 have hp:BF ((AA ws js ns).getD i AC.zero):=by
  by_cases h:i<(AA ws js ns).length
  ·exact Ga bk _ (BL h)
  ·rw [Bc aA];exact ⟨λ_=>by show (0:Int)<=0/\(0:Int)<=30;decide,λ_=>by show (0:Int)<=0/\(0:Int)<=30;decide⟩
 have:=LP (ps:=ps) (ws:=ws) (js:=js) (l:=l) hp q
 omega
theorem lateB0{i:Int}(hr:Ja js.length l)(hi:0<=i/\i<=(l.length:Int)-1):BQ js.length l i=0:=by
 unfold BQ;rw [if_neg (λq=>q hr.bell),if_neg (λq=>q hi)]
def Fw(js:List AK)(l:List Int)(k:Nat):Int:=(js.getD (l.getD k 0).toNat AK.z).due
theorem Yl(h0:AS bag kinds ps ws js ns 0=0)(hr:Ja js.length l){k n:Nat}(hk:k<l.length)(hn:n=(AA ws js ns).length)(h1:0<n):D9 bag kinds ps ws js ns l k=if Ef (Fw js l k) (λx=>Aw ps.length ws js x l (k+1)) (AA ws js ns) n=((AA ws js ns).length:Int) then 1 else if Ef (Fw js l k) (λx=>Aw ps.length ws js x l (k+1)) (AA ws js ns) n=0 then 2 else 0:=by
 subst hn;obtain ⟨a,b⟩:=late_all (due:=Fw js l k) (G:=λx=>Aw ps.length ws js x l (k+1)) (pq:=AA ws js ns) rfl h1;unfold D9;rw [lateB0 hr (i:=(k:Int)) aA,if_neg (λq=>q h0),Int.toNat_natCast];simp only [b,a];rfl
end
section
variable {G:AC->Int} {pq:List AC} {due v:Int} {i:Nat}
theorem R1(h:v=G (pq.getD i AC.zero)):Ef due G pq (i+1)=if due<v then Ef due G pq i+1 else Ef due G pq i:=by subst h;rfl
end
end Go.Ns
namespace Go.Ns
section
variable {ws:List AB} {l:List Int} {k j np:Nat} {w:AB} {p q:Int}
theorem R2(h:p=l.getD k 0):q ∈ Hi l k p q:=by
 unfold Hi;split
 ·simp
 ·rename_i e;exact Decidable.byContradiction λn=>e ⟨h,n⟩
theorem VQ(h:w.a=l.getD k 0):w.b ∈ Cz l k w:=(Ib _ _ _ _).subset (R2 h)
theorem VR(hk:k<l.length)(h:w.b=l.getD k 0):w.a ∈ Cz l k w:=R2 (h.trans (Ri (Ib _ _ _ _) hk).symm)
theorem JI(hk:k<l.length):∀n,j<n->((ws.getD j AB.z).a=l.getD k 0->(ws.getD j AB.z).b ∈ Ai ws l k n)/\((ws.getD j AB.z).b=l.getD k 0->(ws.getD j AB.z).a ∈ Ai ws l k n)
 | n+1,h=>by
  by_cases e:j=n
  ·subst e;have hl:=Ft (ws:=ws) (l:=l) (k:=k) j;have e2:=Ri hl hk;exact ⟨λx=>VQ (x.trans e2.symm),λx=>VR (Nat.lt_of_lt_of_le hk hl.length_le) (x.trans e2.symm)⟩
  ·have ih:=JI hk n aA;exact ⟨λx=>(JH _ _ _).subset (ih.1 x),λx=>(JH _ _ _).subset (ih.2 x)⟩
theorem J4(m:Nat):∀d,Ao ws m<+:Ao ws (m+d)
 | 0=>List.prefix_refl _
 | d+1=>by
  refine (J4 m d).trans ?_;show Ao ws (m+d)<+:Ao ws (m+d+1)
  conv=>rhs;unfold Ao
  split
  ·exact Ft _
  ·exact List.prefix_refl _
theorem VS(ok:HX np (C8 ws))(hnp:np<=4)(hj:j<ws.length):(ws.getD j AB.z).a ∈ C8 ws↔(ws.getD j AB.z).b ∈ C8 ws:=by
 have hl:=ok.len;have key:∀{y z:Int},((∀k l,k<l.length->y=l.getD k 0->z ∈ Ai ws l k ws.length))->y ∈ C8 ws->z ∈ C8 ws:=by
  intro y z hz hy;obtain ⟨k,hk,e⟩:=List.mem_iff_getElem.1 hy;have e2:(C8 ws).getD k 0=y:=by rw [List.getD_eq_getElem?_getD,List.getElem?_eq_getElem hk];exact e
  have hkn:k<(Ao ws k).length:=Decidable.byContradiction λn=>by
   have q:=Tp (ws:=ws) (k:=k) aA aA;rw [q] at hk;omega
  have p1:Ao ws k<+:C8 ws:=by
   have q:=J4 (ws:=ws) k (4-k);rw [show k+(4-k)=4 by omega] at q;exact q
  have p2:Ao ws (k+1)<+:C8 ws:=by
   have q:=J4 (ws:=ws) (k+1) (4-(k+1));rw [show k+1+(4-(k+1))=4 by omega] at q;exact q
  refine p2.subset ?_;rw [Ks hkn];exact hz k _ hkn (by rw [<-e2];exact Ri p1 hkn)
 exact ⟨key λk l hk e=>(JI hk ws.length hj).1 e,key λk l hk e=>(JI hk ws.length hj).2 e⟩
theorem canWay_in{R:List Int}{c:Fj}{x:AB}(h:∀v,c v=true->(v:Int) ∈ R)(hx:((x.a.toNat:Nat):Int) ∈ R↔((x.b.toNat:Nat):Int) ∈ R):∀v,FI c x v=true->(v:Int) ∈ R:=by
 have h1:∀v,(c.set x.a.toNat (c x.a.toNat || c x.b.toNat)) v=true->(v:Int) ∈ R:=λv hv=>by
  unfold Fj.set at hv;split at hv
  ·rename_i e;subst e
   rcases Bool.or_eq_true_iff.1 hv with q | q
   ·exact h _ q
   ·exact hx.2 (h _ q)
  ·exact h _ hv
 intro v hv;unfold FI at hv;generalize c.set x.a.toNat (c x.a.toNat || c x.b.toNat)=c' at h1 hv;unfold Fj.set at hv;split at hv
 ·rename_i e;subst e
  rcases Bool.or_eq_true_iff.1 hv with q | q
  ·exact h1 _ q
  ·exact hx.1 (h1 _ q)
 ·exact h1 _ hv
theorem R3{R:List Int}:∀(m:List AB)(c:Fj),(∀v,c v=true->(v:Int) ∈ R)->(∀x ∈ m,((x.a.toNat:Nat):Int) ∈ R↔((x.b.toNat:Nat):Int) ∈ R)->∀v,m.foldl FI c v=true->(v:Int) ∈ R
 | [],_,h,_=>h
 | x ::m,c,h,hx=>R3 m _ (canWay_in h (hx x aD)) λy hy=>hx y (List.mem_cons_of_mem _ hy)
theorem T3{R:List Int}(hx:∀x ∈ ws,((x.a.toNat:Nat):Int) ∈ R↔((x.b.toNat:Nat):Int) ∈ R):∀n (c:Fj),(∀v,c v=true->(v:Int) ∈ R)->∀v,EF ws n c v=true->(v:Int) ∈ R
 | 0,_,h=>h
 | n+1,c,h=>T3 hx n _ (R3 ws c h hx)
theorem VT(hn:0<np)(hnp:np<=4)(hw:MO np ws)(h:Ei np ws=0):¬(C8 ws).length<np:=by
 have ok:HX np (C8 ws):=JQ hn hw 4;have h0:(0:Int) ∈ C8 ws:=(J4 (ws:=ws) 0 4).subset (by simp [Ao]);have hx:∀x ∈ ws,((x.a.toNat:Nat):Int) ∈ C8 ws↔((x.b.toNat:Nat):Int) ∈ C8 ws:=λx hx=>by
  obtain ⟨j,hj,e⟩:=List.mem_iff_getElem.1 hx;have e2:ws.getD j AB.z=x:=by rw [List.getD_eq_getElem?_getD,List.getElem?_eq_getElem hj];exact e
  have r:=hw j hj;rw [e2] at r;rw [Int.toNat_of_nonneg r.1.1,Int.toNat_of_nonneg r.2.1,<-e2];exact VS ok hnp hj
 have all:∀y,y<np->(y:Int) ∈ C8 ws:=λy hy=>by
  refine T3 hx np c0 (λv hv=>?_) y (Decidable.byContradiction λn=>?_)
  ·unfold c0 Fj.set Fj.none at hv;split at hv
   ·rename_i e;subst e;exact h0
   ·cases hv
  ·have:(Mw (EF ws np c0) np).any (λx=>(false==x))=true:=List.any_eq_true.2 ⟨false,by
    unfold Mw;exact List.mem_map.2 ⟨y,List.mem_range.2 hy,by simpa using n⟩,rfl⟩
   unfold Ei at h;rw [show Fj.none.set 0 true=c0 from rfl,if_pos this] at h;cases h
 intro hlt
 have:=RN (C8 ws).length np (λy=>(C8 ws).idxOf (y:Int)) (λi hi=>List.idxOf_lt_length_of_mem (all i hi)) λi j hij hj e=>by
  have a:=List.getElem_idxOf (List.idxOf_lt_length_of_mem (all i aA));have b:=List.getElem_idxOf (List.idxOf_lt_length_of_mem (all j hj));have e2:(C8 ws).idxOf (i:Int)=(C8 ws).idxOf (j:Int):=e
  have:(i:Int)=(j:Int):=by rw [<-a,<-b];congr 1
  omega
 omega
theorem rWays_eq(hn:0<np)(hnp:np<=4):Fu np ws=Ew np ws:=by
 unfold Fu Ew;split
 ·rfl
 ·split
  ·rfl
  ·rename_i b
   have z:=DZ (Decidable.not_not.1 b);have hw:MO np ws:=YY λk hk=>z k (Nat.zero_le _) aA;split
   ·rename_i c
    have:¬Ei np ws=0:=λe=>VT hn hnp hw e c
    unfold Ei at this ⊢;split
    ·rfl
    ·rename_i d;rw [if_neg d] at this;exact absurd rfl this
   ·rename_i c;exact (VI hn hw c).symm
variable {bag kinds:Int} {ps:List ByteArray} {js:List AK} {ns:List AJ}
theorem rCheck_eq:G5 bag kinds ps ws js ns=BV bag kinds ps ws js ns:=by
 unfold G5 BV;simp only [C5,JF];by_cases h0:GW bag kinds=0
 ·rw [if_neg (λn=>n h0),if_pos h0];by_cases h1:BU ps=0
  ·have hp:=Kt h1;rw [if_neg (λn=>n h1),if_pos h1,rWays_eq hp.1 hp.2];by_cases h2:Ew ps.length ws=0
   ·rw [if_neg (λn=>n h2),if_pos h2];by_cases h3:CA ps.length kinds js=0
    ·rw [if_neg (λn=>n h3),if_pos h3];split
     ·rename_i e;exact e
     ·rfl
    ·rw [if_pos h3,if_neg h3]
   ·rw [if_pos h2,if_neg h2]
  ·rw [if_pos h1,if_neg h1]
 ·rw [if_pos h0,if_neg h0]
end
end Go.Ns
namespace Go.Ns
def rdL:Nat->List Int->List Int->List (List Int)
 | 0,kn,_=>[kn]
 | f+1,kn,rs=>kn ::(List.range rs.length).flatMap λi=>rdL f (kn++[rs.getD i 0]) (rs.eraseIdx i)
def rdTo(kn rs:List Int)(k:Nat):List (List Int):=kn ::(List.range k).flatMap λi=>rdL (rs.length-1) (kn++[rs.getD i 0]) (rs.eraseIdx i)
theorem rdTo_next(kn rs:List Int)(k:Nat):rdTo kn rs (k+1)=rdTo kn rs k++rdL (rs.length-1) (kn++[rs.getD k 0]) (rs.eraseIdx k):=by
 unfold rdTo;rw [List.range_succ,List.flatMap_append];simp
theorem rdTo_end{kn rs:List Int}{k:Nat}(h:k=rs.length):rdL rs.length kn rs=rdTo kn rs k:=by
 subst h;unfold rdTo;cases e:rs.length with
 | zero=>rfl
 | succ n=>
  show kn ::(List.range rs.length).flatMap (λi=>rdL n (kn++[rs.getD i 0]) (rs.eraseIdx i))=_;rw [e];rfl
theorem O8{V β:Type}{F G:V->List β}:∀l:List V,(∀x ∈ l,F x=G x)->l.flatMap F=l.flatMap G
 | [],_=>rfl
 | x ::l,h=>by rw [List.flatMap_cons,List.flatMap_cons,h x aD,O8 l λy hy=>h y (List.mem_cons_of_mem _ hy)]
theorem Ym{V β:Type}(d:V)(F:V->List β):∀l:List V,l.flatMap F=(List.range l.length).flatMap λi=>F (l.getD i d):=λl=>by
 have:l=(List.range l.length).map λi=>l.getD i d:=by
  refine List.ext_getElem aD λi h1 h2=>?_;rw [List.getElem_map,List.getElem_range,List.getD_eq_getElem?_getD,List.getElem?_eq_getElem h1];rfl
 conv=>lhs;rw [this]
 rw [List.flatMap_map]
theorem VU{l:List Int}(nd:l.Nodup){i:Nat}(hi:i<l.length):l.eraseIdx i=l.filter λx=> !decide (x=l.getD i 0):=by
 induction l generalizing i with
 | nil=>cases hi
 | cons y l ih=>
  obtain ⟨n1,n2⟩:=List.nodup_cons.1 nd;cases i with
  | zero=>
   show l=_;rw [List.filter_cons];simp only [List.getD_cons_zero,decide_true,Bool.not_true,Bool.false_eq_true,if_false];refine (List.filter_eq_self.2 λx hx=>?_).symm
   have:x≠y:=λe=>n1 (e▸hx)
   simp [this]
  | succ i=>
   have hi2:i<l.length:=by simpa using hi
   show y ::l.eraseIdx i=_;rw [List.filter_cons,List.getD_cons_succ]
   have:y≠l.getD i 0:=λe=>n1 (e▸BL hi2)
   simp only [this,decide_false,Bool.not_false,if_true];rw [ih n2 hi2]
theorem O9{V β:Type}(q:V->Bool)(F:V->List β):∀l:List V,(l.flatMap λx=>if q x=true then [] else F x)=(l.filter λx=> !q x).flatMap F
 | []=>rfl
 | x ::l=>by
  rw [List.flatMap_cons,O9 q F l,List.filter_cons];cases q x <;> simp
theorem XE{jobs:List Int}(nd:jobs.Nodup):∀(f:Nat)(kn:List Int),(jobs.filter λk=> !Fi kn k).length<=f->rdL f kn (jobs.filter λk=> !Fi kn k)=BG jobs f kn
 | 0,kn,_=>rfl
 | f+1,kn,h=>by
  show kn ::_=kn ::_;congr 1;rw [O9 (λk=>Fi kn k) (λk=>BG jobs f (kn++[k])),Ym (0:Int)];have nr:(jobs.filter λk=> !Fi kn k).Nodup:=nd.filter _;refine O8 _ λi hi=>?_;have hi2:=List.mem_range.1 hi;have e:(jobs.filter λk=> !Fi kn k).eraseIdx i=jobs.filter λk=> !Fi (kn++[(jobs.filter λk=> !Fi kn k).getD i 0]) k:=by
   rw [VU nr hi2,List.filter_filter];refine List.filter_congr λx _=>?_;rw [WN];cases Fi kn x <;> simp
  have hl:=List.length_eraseIdx_of_lt hi2;rw [e] at hl ⊢;exact XE nd f _ aA
theorem VV{jobs:List Int}(nd:jobs.Nodup):rdL jobs.length [] jobs=Bm jobs:=by
 have e:jobs.filter (λk=> !Fi [] k)=jobs:=List.filter_eq_self.2 λ_ _=>rfl
 have:=XE nd jobs.length [] (by rw [e];exact Nat.le_refl _)
 rwa [e] at this
section
variable (sf:List Int->Bool) (G:List Int->Int) (l:List (List Int))
def Sj:Nat->Nat
 | 0=>0
 | k+1=>if (sf (l.getD (k+1) [])=true/\¬(l.getD (k+1) []).length<(l.getD (Sj k) []).length)/\((l.getD (Sj k) []).length<(l.getD (k+1) []).length\/G (l.getD (k+1) [])<G (l.getD (Sj k) [])) then k+1 else Sj k
variable {sf G l}
theorem VW:∀k,Sj sf G l k<=k
 | 0=>Nat.le_refl _
 | k+1=>by unfold Sj;split;exact Nat.le_refl _;have:=VW k;omega
theorem rbI_is(h0:sf (l.getD 0 [])=true):∀k,sf (l.getD (Sj sf G l k) [])=true/\∀j,j<=k->sf (l.getD j [])=true->(l.getD j []).length<=(l.getD (Sj sf G l k) []).length/\((l.getD j []).length=(l.getD (Sj sf G l k) []).length->G (l.getD (Sj sf G l k) [])<=G (l.getD j [])/\(j<Sj sf G l k->G (l.getD (Sj sf G l k) [])<G (l.getD j [])))
 | 0=>⟨h0,λj hj _=>by rw [show j=0 by omega];exact ⟨Nat.le_refl _,λ_=>⟨Int.le_refl _,λq=>absurd q (Nat.lt_irrefl _)⟩⟩⟩
 | k+1=>by
  obtain ⟨h1,h2⟩:=rbI_is h0 k;have hl:=VW (sf:=sf) (G:=G) (l:=l) k;unfold Sj;split
  ·rename_i c
   refine ⟨c.1.1,λj hj hs=>?_⟩;by_cases e:j=k+1
   ·subst e;exact ⟨Nat.le_refl _,λ_=>⟨Int.le_refl _,λq=>absurd q (Nat.lt_irrefl _)⟩⟩
   ·have q:=h2 j aA hs
    have:=c.1.2
    refine ⟨aA,λe2=>?_⟩;have e3:(l.getD j []).length=(l.getD (Sj sf G l k) []).length:=aA
    have:=q.2 e3
    rcases c.2 with d | d
    ·omega
    ·exact ⟨aA,λ_=>aA⟩
  ·rename_i c
   refine ⟨h1,λj hj hs=>?_⟩;by_cases e:j=k+1
   ·subst e;by_cases c1:(l.getD (k+1) []).length<(l.getD (Sj sf G l k) []).length
    ·exact ⟨aA,λe2=>aA⟩
    ·have c2:¬((l.getD (Sj sf G l k) []).length<(l.getD (k+1) []).length\/G (l.getD (k+1) [])<G (l.getD (Sj sf G l k) [])):=λq=>c ⟨⟨hs,c1⟩,q⟩;exact ⟨aA,λ_=>⟨aA,λq=>aA⟩⟩
   ·exact h2 j aA hs
variable (G l)
def H3(n:Nat):Nat->Bool×List Int
 | 0=>(false,[])
 | k+1=>if (l.getD k []).length=n/\((H3 n k).1=false\/G (l.getD k [])<G (H3 n k).2) then (true,l.getD k []) else H3 n k
variable {G l}
theorem PA(x:List Int):∀k,k<l.length->CH G (l++[x]) k=CH G l k
 | 0,h=>by unfold CH;rw [Gc,if_pos h]
 | k+1,h=>by
  unfold CH;rw [PA x k aA,LT,LT,Gc,if_pos h]
theorem PB:∀k,(CH G l k).2=G (CH G l k).1
 | 0=>rfl
 | k+1=>by unfold CH;split;rfl;exact PB k
theorem Yn{x:List Int}(h:0<l.length):CZ G (l++[x])=if G x<G (CZ G l) then x else CZ G l:=by
 unfold CZ;have e:CH G (l++[x]) (l.length-1+1)=if G x<(CH G l (l.length-1)).2 then (x,G x) else CH G l (l.length-1):=by
  show (if G (((l++[x]).drop 1).getD (l.length-1) [])<(CH G (l++[x]) (l.length-1)).2 then (((l++[x]).drop 1).getD (l.length-1) [],G (((l++[x]).drop 1).getD (l.length-1) [])) else CH G (l++[x]) (l.length-1))=_;rw [PA x _ aA,LT,Gc,if_neg (show¬l.length-1+1<l.length by omega),show l.length-1+1-l.length=0 by omega];rfl
 rw [List.length_append,List.length_singleton,show l.length+1-1=(l.length-1)+1 by omega,e,PB];split <;> rfl
theorem rsTo_is{n:Nat}:∀k,k<=l.length->H3 G l n k=if ((l.take k).filter λq=>decide (q.length=n))=[] then (false,[]) else (true,CZ G ((l.take k).filter λq=>decide (q.length=n)))
 | 0,_=>by simp [H3]
 | k+1,h=>by
  have ih:=rsTo_is (n:=n) k aA;rw [B7 [] (show k<l.length by omega),List.filter_append];unfold H3;by_cases hn:(l.getD k []).length=n
  ·rw [show [l.getD k []].filter (λq=>decide (q.length=n))=[l.getD k []] by rw [List.filter_cons,if_pos (by simpa using hn)];rfl,if_neg (show¬(_++[l.getD k []]=[]) by simp)];by_cases e:((l.take k).filter λq=>decide (q.length=n))=[]
   ·rw [if_pos e] at ih;rw [ih,if_pos ⟨hn,.inl rfl⟩,e];rfl
   ·rw [if_neg e] at ih;rw [ih,Yn (List.length_pos_iff.2 e)];by_cases c:G (l.getD k [])<G (CZ G ((l.take k).filter λq=>decide (q.length=n)))
    ·rw [if_pos ⟨hn,.inr c⟩,if_pos c]
    ·rw [if_neg (by rintro ⟨_,q | q⟩;cases q;exact c q),if_neg c]
  ·rw [if_neg (λq=>hn q.1),ih,show [l.getD k []].filter (λq=>decide (q.length=n))=[] by rw [List.filter_cons,if_neg (by simpa using hn)];rfl,List.append_nil]
theorem rsTo_end{n k:Nat}(hk:k<=l.length)(hk2:l.length<=k)(h:0<(l.filter λq=>decide (q.length=n)).length):(H3 G l n k).2=CZ G (l.filter λq=>decide (q.length=n)):=by
 rw [rsTo_is k hk,List.take_of_length_le hk2,if_neg (List.length_pos_iff.1 h)]
end
def Da(sf:List Int->Bool)(l:List (List Int))(k:Nat):List Int:=((l.take k).filter sf).flatten
theorem NP{c c':Fj}:∀q,(∀i,i<q->c i=c' i)->DH c q=DH c' q
 | 0,_=>rfl
 | q+1,h=>by unfold DH;rw [NP q λi hi=>h i aA,h q aA]
section
variable {sf:List Int->Bool} {l:List (List Int)} {k:Nat}
theorem doneTo_t(hk:k<l.length)(h:sf (l.getD k [])=true):Da sf l (k+1)=Da sf l k++l.getD k []:=by
 unfold Da;rw [B7 [] hk,List.filter_append,List.flatten_append,List.filter_cons,if_pos h];simp
theorem doneTo_f(hk:k<l.length)(h:sf (l.getD k [])=false):Da sf l (k+1)=Da sf l k:=by
 unfold Da;rw [B7 [] hk,List.filter_append,List.filter_cons,if_neg (by rw [h];simp)];simp
theorem Yo{n:Nat}(h:∀x ∈ l,x.length<=4)(hl:l.length<=n):∀k,(Da sf l k).length<=4*n:=λk=>by
 have:∀m:List (List Int),(∀x ∈ m,x.length<=4)->m.flatten.length<=4*m.length:=λm=>by
  induction m with
  | nil=>intro _;simp
  | cons x m ih=>
   intro hx
   have:=ih λy hy=>hx y (List.mem_cons_of_mem _ hy)
   have:=hx x aD
   rw [List.flatten_cons,List.length_append,List.length_cons];omega
 have h1:=this ((l.take k).filter sf) λx hx=>h x (List.mem_of_mem_take (List.mem_filter.1 hx).1);have h2:=List.length_filter_le sf (l.take k);rw [List.length_take] at h2;unfold Da;omega
end
section
variable {bag kinds:Int} {ps:List ByteArray} {ws:List AB} {js:List AK} {ns:List AJ} {l:List Int} {k:Nat}
def openL(bag kinds:Int)(ps:List ByteArray)(ws:List AB)(js:List AK)(ns:List AJ)(s:Int):List (List Int×List Int):=if AS bag kinds ps ws js ns s=0 then G7 ws js ns else []
theorem HY{s:Int}(h:AS bag kinds ps ws js ns s=0):openL bag kinds ps ws js ns s=G7 ws js ns:=if_pos h
theorem R4{s:Int}(h:¬AS bag kinds ps ws js ns s=0):openL bag kinds ps ws js ns s=[]:=if_neg h
theorem R5{s:Int}(h:AS bag kinds ps ws js ns s=0):BV bag kinds ps ws js ns=0:=Decidable.byContradiction λn=>n ((M4 n).symm.trans h)
abbrev CB(ps:List ByteArray)(ws:List AB)(js:List AK)(ns:List AJ):List Int->Int:=λl=>A3 (λx=>AI ps.length ws js x l) (AA ws js ns)
abbrev B3(bag kinds:Int)(ps:List ByteArray)(ws:List AB)(js:List AK)(ns:List AJ):List Int->Bool:=λl=>Bw ps.length ws js (AA ws js ns) l bag kinds
abbrev CN(js:List AK):List (List Int):=Bm (CD js.length)
theorem allR_0:(CN js).getD 0 []=[]:=by unfold CN Bm;rw [EH];rfl
theorem rb_best(h0:AS bag kinds ps ws js ns 0=0)(hk:k=(CN js).length-1):(CN js).getD (Sj (B3 bag kinds ps ws js ns) (CB ps ws js ns) (CN js) k) []=BX bag kinds ps ws js ns:=by
 have hz:BV bag kinds ps ws js ns=0:=R5 h0;have bk:=(C1 h0).1;subst hk;have s0:B3 bag kinds ps ws js ns ((CN js).getD 0 [])=true:=by rw [allR_0];exact Wa bk.hbag.1
 obtain ⟨b1,b2⟩:=rbI_is (sf:=B3 bag kinds ps ws js ns) (G:=CB ps ws js ns) (l:=CN js) s0 ((CN js).length-1);have hbl:=VW (sf:=B3 bag kinds ps ws js ns) (G:=CB ps ws js ns) (l:=CN js) ((CN js).length-1);generalize Sj (B3 bag kinds ps ws js ns) (CB ps ws js ns) (CN js) ((CN js).length-1)=b at b1 b2 hbl;have hpos:0<(CN js).length:=by unfold CN Bm;rw [EH];simp
 obtain ⟨v1,v2⟩:=best_val hz h0;obtain ⟨p,hp,ep⟩:=List.mem_iff_getElem.1 (Rs v1);have ep2:(CN js).getD p []=BX bag kinds ps ws js ns:=by rw [List.getD_eq_getElem?_getD,List.getElem?_eq_getElem hp];exact ep
 have hb:b<(CN js).length:=aA
 have hp2:p<(CN js).length:=hp;have vb:Ja js.length ((CN js).getD b []):=VK (BL hb);have t:=best_top hz h0 vb (by rw [Ws h0 vb];exact b1);rw [h0] at t;simp only [Hn] at t;have u:=b2 p aA (by rw [ep2];exact v2);rw [ep2] at u;have el:((CN js).getD b []).length=(BX bag kinds ps ws js ns).length:=Nat.le_antisymm t.1 u.1;have t2:=t.2 el;have u2:=u.2 el.symm;have eg:CB ps ws js ns (BX bag kinds ps ws js ns)=CB ps ws js ns ((CN js).getD b []):=Int.le_antisymm t2.1 u2.1;have asc:(CN js).Pairwise λa b=>Hf a b<0:=MQ (MR js.length) (CD js.length).length [];rcases Nat.lt_trichotomy b p with z | z | z
 ·have q:=(List.pairwise_iff_getElem.1 asc) b p hb hp z;have e3:(CN js).getD b []=(CN js)[b]:=by rw [List.getD_eq_getElem?_getD,List.getElem?_eq_getElem hb];rfl
  rw [<-e3,ep] at q;exact absurd q (t2.2 eg)
 ·rw [z];exact ep2
 ·have:=u2.2 z;omega
theorem rs_swift(h0:AS bag kinds ps ws js ns (AV js.length l)=0)(hk:k<=(Bm (C6 l)).length)(hk2:(Bm (C6 l)).length<=k):(H3 (CB ps ws js ns) (Bm (C6 l)) l.length k).2=BN bag kinds ps ws js ns l:=by
 rw [rsTo_end hk hk2 (Tl (Kr (C1 h0).2.1))];exact (if_neg (λn=>n h0)).symm
theorem rn_never(h0:AS bag kinds ps ws js ns 0=0){q:Nat}(hk:(CN js).length<=k)(hq:q=js.length):DH (λi=>decide ((i:Int) ∈ Da (B3 bag kinds ps ws js ns) (CN js) k)) q=EV bag kinds ps ws js ns:=by
 subst hq;rw [neverR_eq h0];refine NP _ λi hi=>?_;rw [Bool.eq_iff_iff,decide_eq_true_iff,Wr _ (Nat.le_refl _),List.take_length];unfold Da;rw [List.take_of_length_le hk];show (i:Int) ∈ (Ek bag kinds ps ws js ns).flatten↔_;rw [List.mem_flatten];refine ⟨λ⟨l,hl,hm⟩=>?_,λ⟨l,hl,j,hj,e⟩=>⟨l,hl,?_⟩⟩
 ·obtain ⟨j,hj,e⟩:=List.mem_iff_getElem.1 hm;exact ⟨l,hl,j,hj,by rw [B5 0 hj,e];exact Int.toNat_natCast i⟩
 ·have q:=(K0.1 hl).1.at j hj;rw [show (i:Int)=l.getD j 0 by omega];exact BL hj
theorem K6{n:Nat}(h:AV n l=0):Ja n l:=⟨Kr h,λx hx=>by
 obtain ⟨i,hi,e⟩:=List.mem_iff_getElem.1 hx
 have:=E1 h i hi
 rw [B5 0 hi,e] at this;exact this⟩
theorem Ih{s:Int}(h:AS bag kinds ps ws js ns s=0):AS bag kinds ps ws js ns 0=0:=
 U4 (λn=>n (R5 h)) aD (by have:=(C1 h).2.2;omega)
theorem Yp(h:0<(AA ws js ns).length){n:Nat}(hn:n=(AA ws js ns).length){F:List Int}(hF:F=((AA ws js ns).take n).map (λx=>Aw ps.length ws js x l (k+1))):Fh ps.length ws js (AA ws js ns) l (k+1)=Fh ps.length ws js (AA ws js ns) l k++[(If F (F.length-1),Ig F (F.length-1))]:=by
 subst hF;rw [hn,List.take_of_length_le (Nat.le_refl _),(NN h).1,(NN h).2];rfl
def OnTo(js:List AK)(np:Nat)(ws:List AB)(pq:List AC)(l:List Int)(i:Nat):Prop:=∀j,j<i->∀k,k<l.length->Aw np ws js (pq.getD j AC.zero) l (k+1)<=Fw js l k
theorem OnTo.next{np:Nat}{pq:List AC}{i:Nat}(h:OnTo js np ws pq l i)(h2:∀k,k<l.length->Aw np ws js (pq.getD i AC.zero) l (k+1)<=Fw js l k):OnTo js np ws pq l (i+1):=λj hj=>by
 by_cases e:j=i
 ·subst e;exact h2
 ·exact h j aA
theorem safe_not{pq:List AC}{np i:Nat}(hi:i<pq.length)(hk:k<l.length)(h:Fw js l k<Aw np ws js (pq.getD i AC.zero) l (k+1)):Bw np ws js pq l bag kinds=false:=by
 refine TZ hk (Int.lt_of_lt_of_le h ?_);exact fMax_ge (F:=λx=>Aw np ws js x l (k+1)) (BL hi)
theorem safe_yes{pq:List AC}{np i:Nat}(hp:0<pq.length)(hi:pq.length<=i)(h:OnTo js np ws pq l i):Bw np ws js pq l bag kinds=decide ((CK kinds js l).sum<=bag):=by
 unfold Bw;rw [List.all_eq_true.2 (λk hk=>?_),Bool.and_true];obtain ⟨x,hx,e⟩:=fMax_mem (F:=λx=>Aw np ws js x l (k+1)) hp;obtain ⟨j,hj,e2⟩:=List.mem_iff_getElem.1 hx;have e3:pq.getD j AC.zero=x:=by rw [List.getD_eq_getElem?_getD,List.getElem?_eq_getElem hj];exact e2
 have:=h j aA k (List.mem_range.1 hk)
 unfold N0 endHi;refine decide_eq_true ?_;rw [e,<-e3];exact this
theorem lateB_1{i:Int}(h:AV js.length l=0)(h2:¬(0<=i/\i<=(l.length:Int)-1)):BQ js.length l i=1:=by unfold BQ;rw [if_neg (λn=>n h),if_pos h2]
theorem lateB_0{i:Int}(h:AV js.length l=0)(h2:0<=i/\i<=(l.length:Int)-1):BQ js.length l i=AV js.length l:=by unfold BQ;rw [if_neg (λn=>n h),if_neg (λn=>n h2),h]
theorem lateB_x{i:Int}(h:¬(AV js.length l=0/\¬(0<=i/\i<=(l.length:Int)-1))):BQ js.length l i=AV js.length l:=by
 by_cases h1:AV js.length l=0
 ·exact lateB_0 h1 (Decidable.byContradiction λn=>h ⟨h1,n⟩)
 ·exact if_pos h1
end
section
variable {sf:List Int->Bool} {G:List Int->Int} {xl:List Sl} {i:Nat} {all:List (List Int)}
def H4(sf:List Int->Bool)(G:List Int->Int)(l:List (List Int))(i:Nat):Nat:=Sj sf G l (i-1)
theorem Yq(h:1<=i)(h2:i<=xl.length):H4 sf G all i<xl.length:=by have:=VW (sf:=sf) (G:=G) (l:=all) (i-1);unfold H4;omega
theorem rbT_t(e:Ap xl=all)(h:1<=i)(hi:i<xl.length)(hs:sf (xl.getD i Sl.z).2=true)(hl:¬(xl.getD i Sl.z).2.length<(xl.getD (H4 sf G all i) Sl.z).2.length)(hc:(xl.getD (H4 sf G all i) Sl.z).2.length<(xl.getD i Sl.z).2.length\/G (xl.getD i Sl.z).2<G (xl.getD (H4 sf G all i) Sl.z).2):H4 sf G all (i+1)=i:=by
 have hb:=Yq (sf:=sf) (G:=G) (all:=all) h (aA:i<=xl.length);rw [<-CC hi,<-CC hb,e] at hl hc;rw [<-CC hi,e] at hs;unfold H4 at hl hc ⊢;rw [show i+1-1=(i-1)+1 by omega];unfold Sj;rw [show i-1+1=i by omega,if_pos ⟨⟨hs,hl⟩,hc⟩]
theorem rbT_f(e:Ap xl=all)(h:1<=i)(hi:i<xl.length)(hc:sf (xl.getD i Sl.z).2=false\/(xl.getD i Sl.z).2.length<(xl.getD (H4 sf G all i) Sl.z).2.length\/(¬(xl.getD (H4 sf G all i) Sl.z).2.length<(xl.getD i Sl.z).2.length/\¬G (xl.getD i Sl.z).2<G (xl.getD (H4 sf G all i) Sl.z).2)):H4 sf G all (i+1)=H4 sf G all i:=by
 have hb:=Yq (sf:=sf) (G:=G) (all:=all) h (aA:i<=xl.length);rw [<-CC hi,<-CC hb,e] at hc;unfold H4 at hc ⊢;rw [show i+1-1=(i-1)+1 by omega]
 conv=>lhs;unfold Sj
 rw [show i-1+1=i by omega,if_neg];rintro ⟨⟨h1,h2⟩,h3⟩;rcases hc with c | c | c
 ·rw [h1] at c;cases c
 ·exact h2 c
 ·rcases h3 with q | q
  ·exact c.1 q
  ·exact c.2 q
theorem rsT_t{n k:Nat}(e:Ap xl=all)(hk:k<xl.length)(h1:(xl.getD k Sl.z).2.length=n)(h2:(H3 G all n k).1=false\/G (xl.getD k Sl.z).2<G (H3 G all n k).2):H3 G all n (k+1)=(true,(xl.getD k Sl.z).2):=by
 rw [<-CC hk,e] at h1 h2 ⊢
 conv=>lhs;unfold H3
 rw [if_pos ⟨h1,h2⟩]
theorem rsT_f{n k:Nat}(e:Ap xl=all)(hk:k<xl.length)(h:¬((xl.getD k Sl.z).2.length=n/\((H3 G all n k).1=false\/G (xl.getD k Sl.z).2<G (H3 G all n k).2))):H3 G all n (k+1)=H3 G all n k:=by
 rw [<-CC hk,e] at h
 conv=>lhs;unfold H3
 rw [if_neg h]
end
end Go.Ns
namespace Go.Ns
open Go.Conc
universe u
theorem Z{V:Sort u}{a:V}:a=a:=rfl
theorem Lr{h:GH}:GH.Le h h:=GH.Le.refl h
theorem Ln{h h':GH}(l:h.Le h'){r:Nat}(hr:h' r=none):h r=none:=l.nothing hr
theorem Cq{h:GH}{b r:Nat}{p:Bool}{o:Obj}(hb:h b=some (p,o))(hr:h r=none):b≠r:=GH.ne_of hb hr
theorem Nb{a b:Nat}(h:Nat.ble a b=true):a<=b:=Nat.le_of_ble_eq_true h
theorem Dn{p:Prop}[Decidable p](h:¬¬p):p:=Decidable.not_not.1 h
theorem Et{V:Sort u}{a b c:V}(x:a=b)(y:b=c):a=c:=x.trans y
theorem Kl{h0 h:GH}(k:KeepD (λb=>h0 b=none) h0 h):h0.Le h:=k.leOf
theorem Bx{h:GH}{b:Nat}{p:Bool}{c:Array Value}{t:TypeId}{f:Nat×Nat}(hb:h b=some (p,.cells c t f)){n:Nat}(hn:c.size=n):AT h b 0 n c:=AT.box hb hn
abbrev lE(v:Value):Law2:=λ_ u _=>u=v
abbrev lF(v:Value):TG:=λu _=>u=v
abbrev zP:Array Value:=#[.int .i64 0,.int .i64 0,.slice none 0 0,.slice none 0 0,.slice none 0 0,.slice none 0 0,.map none]
section
variable {P:Program} {E:Gq P} {O:Nat->Value} {ds:List Deferred} {h:GH} {Q:Post} {T:(Nat->Value)->List Deferred->GH->Prop}
variable {dst:Option Nat} {ty:TypeId} {pos:String} {af:Array Edge} {ops:Array Oper} {o:Oper} {l:List Oper}
theorem Sq{x y:Code}(a:Tr E x O ds h (λe σ' ds' h'=>match e with | .normal=>Tr E y σ' ds' h' Q | e=>Q e σ' ds' h')):Tr E (.seq x y) O ds h Q:=tr_seq a
theorem Rg{id:Nat}{l:List Oper}(a:DQ E l.toArray l O ds h Q):Tr E (.region id l.toArray false) O ds h Q:=tr_region a
theorem Nl(q:Q .normal O ds h):DQ E ops [] O ds h Q:=trL_nil q
abbrev Rt:=@tr_ret
abbrev Bk:=@tr_block
abbrev Sk:=@tr_skip
abbrev Xt:=@tr_exit
def plainB(N:Nat)(o:Oper):Bool:=o.guard.isNone && !DD o.op && C9 o.dst N
theorem Pl(hp:plainB E.N o=true)(x:Bb E o O ds h λσ' ds' h'=>DQ E ops l σ' ds' h' Q):DQ E ops (o ::l) O ds h Q:=by
 simp only [plainB,Bool.and_eq_true,Option.isNone_iff_eq_none,Bool.not_eq_true'] at hp;exact Gt hp.1.1 hp.1.2 hp.2 x
theorem Mv{x:Operand}(v:Value)(hp:C9 dst E.N=true)(hx:AQ O x=v)(k:DQ E ops l (putS O dst v) ds h Q):DQ E ops (⟨dst,.move x,ty,pos,af,none⟩ ::l) O ds h Q:=Gt rfl rfl hp (Ug hx k)
theorem As{x:Operand}(v:Value)(hp:C9 dst E.N=true)(hx:AQ O x=v)(k:DQ E ops l (putS O dst v) ds h Q):DQ E ops (⟨dst,.assign x,ty,pos,af,none⟩ ::l) O ds h Q:=Gt rfl rfl hp (Do hx k)
theorem Ld{t:TypeId}{x:Operand}{b off:Nat}(v:Value)(hp:C9 dst E.N=true)(hx:AQ O x=.pointer (some ⟨b,off,none⟩))(hr:Rd P h t b off v)(k:DQ E ops l (putS O dst v) ds h Q):DQ E ops (⟨dst,.load t x,ty,pos,af,none⟩ ::l) O ds h Q:=
 Gt rfl rfl hp (BS hx hr k)
theorem Fa{s:TypeId}{x:Operand}{f o b off:Nat}(hf:Dr P s f=some o)(hp:C9 dst E.N=true)(hx:AQ O x=.pointer (some ⟨b,off,none⟩))(k:DQ E ops l (putS O dst (.pointer (some ⟨b,off+o,none⟩))) ds h Q) :
  DQ E ops (⟨dst,.fieldAddr s x f,ty,pos,af,none⟩ ::l) O ds h Q:=Gt rfl rfl hp (AH hf hx k)
theorem Pk{c a b:Operand}(t:Bool)(v:Value)(hp:C9 dst E.N=true)(hc:AQ O c=.bool t)(hv:(if t then AQ O a else AQ O b)=v)(k:DQ E ops l (putS O dst v) ds h Q):DQ E ops (⟨dst,.pick c a b,ty,pos,af,none⟩ ::l) O ds h Q:=
 Gt rfl rfl hp (BA hc hv k)
theorem Ad{xt yt:TypeId}{x y:Operand}(a b:Int)(hp:C9 dst E.N=true)(hx:AQ O x=.int .i64 a)(hy:AQ O y=.int .i64 b)(hr: -9223372036854775808<=a+b/\a+b<=9223372036854775807)(k:DQ E ops l (putS O dst (.int .i64 (a+b))) ds h Q) :
  DQ E ops (⟨dst,.binOp .add xt x y yt,ty,pos,af,none⟩ ::l) O ds h Q:=Gt rfl rfl hp (I9 hx hy hr k)
def skipB(N:Nat)(ops:Array Oper)(o:Oper)(j d:Nat)(is:Bool):Bool:=(match o.guard with
 | some (i,w)=>i==j && w !=is
 | none=>false) && (match ops[j]? with
 | some oj=>(match oj.dst with
  | some e=>e==d
  | none=>false)
 | none=>false) && Nat.blt d N && C9 o.dst N
theorem Gs(j d:Nat){is:Bool}(hv:O d=.bool is)(hs:skipB E.N ops o j d is=true)(x:DQ E ops l (putS O o.dst undef) ds h Q):DQ E ops (o ::l) O ds h Q:=by
 simp only [skipB,Bool.and_eq_true] at hs;obtain ⟨⟨⟨h1,h2⟩,h3⟩,h4⟩:=hs;cases hg:o.guard with
 | none=>rw [hg] at h1;cases h1
 | some q=>
  obtain ⟨i,w⟩:=q;rw [hg] at h1;simp only [Bool.and_eq_true,beq_iff_eq,bne_iff_ne,ne_eq] at h1;obtain ⟨rfl,hne⟩:=h1;cases hj:ops[i]? with
  | none=>rw [hj] at h2;cases h2
  | some oj=>
   cases hd:oj.dst with
   | none=>simp [hj,hd] at h2
   | some e=>
    obtain rfl:e=d:=by simpa [hj,hd] using h2
    exact Pu hg hj hd hv h3 hne h4 x
def goB(N:Nat)(ops:Array Oper)(o:Oper)(j d:Nat)(is:Bool):Bool:=(match o.guard with
 | some (i,w)=>i==j && w==is
 | none=>false) && (match ops[j]? with
 | some oj=>(match oj.dst with
  | some e=>e==d
  | none=>false)
 | none=>false) && Nat.blt d N && !DD o.op && C9 o.dst N
theorem Gg(j d:Nat){is:Bool}(hv:O d=.bool is)(hs:goB E.N ops o j d is=true)(x:Bb E o O ds h λσ' ds' h'=>DQ E ops l σ' ds' h' Q):DQ E ops (o ::l) O ds h Q:=by
 simp only [goB,Bool.and_eq_true,Bool.not_eq_true'] at hs;obtain ⟨⟨⟨⟨h1,h2⟩,h3⟩,h5⟩,h4⟩:=hs;cases hg:o.guard with
 | none=>rw [hg] at h1;cases h1
 | some q=>
  obtain ⟨i,w⟩:=q;rw [hg] at h1;simp only [Bool.and_eq_true,beq_iff_eq] at h1;obtain ⟨rfl,rfl⟩:=h1;cases hj:ops[i]? with
  | none=>rw [hj] at h2;cases h2
  | some oj=>
   cases hd:oj.dst with
   | none=>simp [hj,hd] at h2
   | some e=>
    obtain rfl:e=d:=by simpa [hj,hd] using h2
    exact trL_opg hg hj hd hv h3 (.inr h5) h4 x
end
section
variable {S:Nat->Prop} {Pre:Nat->GH->Prop} {Φ:List Law2} {cl:List Nat} {k d:Nat} {h h':GH} {O:Nat->Value} {ds:List Deferred} {v:Value}
theorem fL{Φ:List TG}(p:Mj Φ k v h):ds=ds/\GH.Le h h/\∃w,putS O (some d) v=putS O (some d) w/\Mj Φ k w h:=⟨rfl,GH.Le.refl _,_,rfl,p⟩
theorem K1{R:GH->GH->Prop}{Φ:List TG}{a:Value}(x:GP R Φ):GP R (lF a ::Φ):=⟨λ_ _ _ _ y=>y,x⟩
theorem K2{R:GH->GH->Prop}{Φ:List TG}{a b:Value}(x:GP R Φ):GP R (lF a ::lF b ::Φ):=K1 (K1 x)
theorem K4{R:GH->GH->Prop}{Φ:List TG}{a b c d:Value}(x:GP R Φ):GP R (lF a ::lF b ::lF c ::lF d ::Φ):=K2 (K2 x)
theorem K8{R:GH->GH->Prop}{Φ:List TG}{a b c d a' b' c' d':Value}(x:GP R Φ):GP R (lF a ::lF b ::lF c ::lF d ::lF a' ::lF b' ::lF c' ::lF d' ::Φ):=K4 (K4 x)
end
end Go.Ns
namespace Go.Ns
open Go.Conc
section
variable {P:Program} {E:Gq P} {O:Nat->Value} {ds:List Deferred} {h:GH} {Q:Post} {T:(Nat->Value)->List Deferred->GH->Prop}
variable {dst:Option Nat} {ty:TypeId} {pos:String} {af:Array Edge} {ops:Array Oper} {o:Oper} {l:List Oper} {gd:Option (Nat×Bool)}
theorem Mz{x:Operand}(v:Value)(e:(C9 dst E.N,AQ O x)=(true,v))(k:DQ E ops l (putS O dst v) ds h Q):DQ E ops (⟨dst,.move x,ty,pos,af,none⟩ ::l) O ds h Q:=Mv v (congrArg Prod.fst e) (congrArg Prod.snd e) k
theorem Az{x:Operand}(v:Value)(e:(C9 dst E.N,AQ O x)=(true,v))(k:DQ E ops l (putS O dst v) ds h Q):DQ E ops (⟨dst,.assign x,ty,pos,af,none⟩ ::l) O ds h Q:=As v (congrArg Prod.fst e) (congrArg Prod.snd e) k
theorem Lz{t:TypeId}{x:Operand}{b off:Nat}(v:Value)(e:(C9 dst E.N,AQ O x)=(true,.pointer (some ⟨b,off,none⟩)))(hr:Rd P h t b off v)(k:DQ E ops l (putS O dst v) ds h Q):DQ E ops (⟨dst,.load t x,ty,pos,af,none⟩ ::l) O ds h Q:=
 Ld v (congrArg Prod.fst e) (congrArg Prod.snd e) hr k
theorem Fz{s:TypeId}{x:Operand}{f o b off:Nat}(hf:Dr P s f=some o)(e:(C9 dst E.N,AQ O x)=(true,.pointer (some ⟨b,off,none⟩)))(k:DQ E ops l (putS O dst (.pointer (some ⟨b,off+o,none⟩))) ds h Q) :
  DQ E ops (⟨dst,.fieldAddr s x f,ty,pos,af,none⟩ ::l) O ds h Q:=Fa hf (congrArg Prod.fst e) (congrArg Prod.snd e) k
theorem Pz{c a b:Operand}(t:Bool)(v:Value)(e:(C9 dst E.N,AQ O c,(if t then AQ O a else AQ O b))=(true,.bool t,v))(k:DQ E ops l (putS O dst v) ds h Q):DQ E ops (⟨dst,.pick c a b,ty,pos,af,none⟩ ::l) O ds h Q:=
 Pk t v (congrArg Prod.fst e) (congrArg (λq=>q.2.1) e) (congrArg (λq=>q.2.2) e) k
theorem Yd{xt yt:TypeId}{x y:Operand}{a b:Int}(e:(C9 dst E.N,AQ O x,AQ O y)=(true,.int .i64 a,.int .i64 b))(hr: -9223372036854775808<=a+b/\a+b<=9223372036854775807)(k:DQ E ops l (putS O dst (.int .i64 (a+b))) ds h Q) :
  DQ E ops (⟨dst,.binOp .add xt x y yt,ty,pos,af,none⟩ ::l) O ds h Q:=Ad a b (congrArg Prod.fst e) (congrArg (λq=>q.2.1) e) (congrArg (λq=>q.2.2) e) hr k
theorem Mo{x:Operand}(v:Value)(hx:AQ O x=v)(k:T (putS O dst v) ds h):Bb E ⟨dst,.move x,ty,pos,af,gd⟩ O ds h T:=Ug hx k
theorem Lo{t:TypeId}{x:Operand}{b off:Nat}(v:Value)(hx:AQ O x=.pointer (some ⟨b,off,none⟩))(hr:Rd P h t b off v)(k:T (putS O dst v) ds h):Bb E ⟨dst,.load t x,ty,pos,af,gd⟩ O ds h T:=BS hx hr k
theorem Ex{x:Operand}{n:Nat}{vs:Array Value}(v:Value)(e:(AQ O x,vs[n]?)=(.tuple vs,some v))(k:T (putS O dst v) ds h):Bb E ⟨dst,.extract x n,ty,pos,af,gd⟩ O ds h T:=Xu (congrArg Prod.fst e) (congrArg Prod.snd e) k
theorem Bo{t:TypeId}{x:Operand}{v:Value}(c:Array Value)(hx:AQ O x=v)(hc:v.cells=c)
  (k:∀r h',h r=none->h.Le h'->h' r=some (true,.cells c t (0,0))->(∀b,b≠r->h' b=h b)->T (putS O dst (.pointer (some ⟨r,0,none⟩))) ds h'):Bb E ⟨dst,.box t x,ty,pos,af,gd⟩ O ds h T:=Uh hx hc k
theorem So{t:TypeId}{a x:Operand}{b off n:Nat}{g:Bool}{c:Array Value}{et:TypeId}(v:Value)(c':Array Value)(ht:Cm P t=some (g,n))(e:(AQ O a,AQ O x)=(.pointer (some ⟨b,off,none⟩),v))(hb:h b=some (true,.cells c et (0,0)))
  (e2:(v.cells.size,Value.fine v)=(n,true)) (hn:off+n<=c.size) (hc:Bj c off v.cells.toList=c') (k:∀h',h' b=some (true,.cells c' et (0,0))->(∀x,x≠b->h' x=h x)->T (putS O dst undef) ds h') :
  Bb E ⟨dst,.store t a x,ty,pos,af,gd⟩ O ds h T:=Ae ht (congrArg Prod.fst e) (congrArg Prod.snd e) hb (congrArg Prod.fst e2) (congrArg Prod.snd e2) hn hc k
theorem Ot{fn:Func}{R:Value->GH->Prop}{t:Tmp}(v:Value)(e:(fn.results,O t)=(#[.tmp t],v))(x:R v h):Gr P fn O R [] h:=Ll (congrArg Prod.fst e) (congrArg Prod.snd e) x
theorem Ou{fn:Func}{R:Value->GH->Prop}{t u:Tmp}(v v':Value)(e:(fn.results,O t,O u)=(#[.tmp t,.tmp u],v,v'))(x:R (.tuple #[v,v']) h):Gr P fn O R [] h:=outs2 (congrArg Prod.fst e) (congrArg (λq=>q.2.1) e) (congrArg (λq=>q.2.2) e) x
theorem Sr{id:Nat}{y:Code}(a:DQ E l.toArray l O ds h (λe σ' ds' h'=>match e with | .normal=>Tr E y σ' ds' h' Q | e=>Q e σ' ds' h')):Tr E (.seq (.region id l.toArray false) y) O ds h Q:=Sq (Rg a)
theorem S2{id:Nat}{y z:Code}(a:DQ E l.toArray l O ds h (λe σ' ds' h'=>match e with | .normal=>Tr E y σ' ds' h' (λe σ' ds' h'=>match e with | .normal=>Tr E z σ' ds' h' Q | e=>Q e σ' ds' h') | e=>(λe σ' ds' h'=>match e with | .normal=>Tr E z σ' ds' h' Q | e=>Q e σ' ds' h') e σ' ds' h')) :
  Tr E (.seq (.seq (.region id l.toArray false) y) z) O ds h Q:=Sq (Sq (Rg a))
theorem Zr{V:Type}{a b:V}:a=b\/a=a:=.inr rfl
theorem M2{x x':Operand}{dst':Option Nat}{ty':TypeId}{pos':String}{af':Array Edge}(v v':Value)(e:(C9 dst E.N,AQ O x,C9 dst' E.N,AQ (putS O dst v) x')=(true,v,true,v'))(k:DQ E ops l (putS (putS O dst v) dst' v') ds h Q):DQ E ops (⟨dst,.move x,ty,pos,af,none⟩ ::⟨dst',.move x',ty',pos',af',none⟩ ::l) O ds h Q:=
 Mv v (congrArg Prod.fst e) (congrArg (λq=>q.2.1) e) (Mv v' (congrArg (λq=>q.2.2.1) e) (congrArg (λq=>q.2.2.2) e) k)
theorem A2{x x':Operand}{dst':Option Nat}{ty':TypeId}{pos':String}{af':Array Edge}(v v':Value)(e:(C9 dst E.N,AQ O x,C9 dst' E.N,AQ (putS O dst v) x')=(true,v,true,v'))(k:DQ E ops l (putS (putS O dst v) dst' v') ds h Q):DQ E ops (⟨dst,.assign x,ty,pos,af,none⟩ ::⟨dst',.assign x',ty',pos',af',none⟩ ::l) O ds h Q:=
 As v (congrArg Prod.fst e) (congrArg (λq=>q.2.1) e) (As v' (congrArg (λq=>q.2.2.1) e) (congrArg (λq=>q.2.2.2) e) k)
theorem Ct{W:Wk P}{f:FuncId}{fn:Func}{c:Code}{args:Array Value}{R:Value->GH->Prop}(hf:P.funcs[f]? =some fn)(e:(fn.body,Nat.ble args.size fn.ntmps)=(some c,true))
  (x:Tr ⟨W,f,none,fn.ntmps⟩ c (λi=>args.getD i undef) [] h (λe O ds h'=>(e=.normal\/e=.ret)/\Gr P fn O R ds h')):AZ W f args h R:=Xs hf (congrArg Prod.fst e) (Nat.le_of_ble_eq_true (congrArg Prod.snd e)) x
end
section
variable {P:Program} {E:Gq P} {l:List Oper} {n:Nat} {fl:Bool} {hs:GH} {ds:List Deferred} {Lw:Nat->Value->GH->Prop} {F:(Nat->Value)->GH->Prop} {π:List Nat} {O:Nat->Value} {h:GH} {m k g d:Nat} {dst:Option Nat} {op:Op} {ty:TypeId} {pos:String} {af:Array Edge} {v:Value} {w is:Bool} {og:Oper}
theorem Rz(e:(Lf m,l[k]?)=((.r,k),some ⟨dst,op,ty,pos,af,none⟩))(x:Um E ⟨dst,op,ty,pos,af,none⟩ O ds h v)(y:TD E l n fl hs ds Lw F (dK π) (putS O dst v) h):TD E l n fl hs ds Lw F (dK (m ::π)) O h:=tR (congrArg Prod.fst e) (congrArg Prod.snd e) x y
theorem Rm{x:Operand}(v:Value)(e:(Lf m,l[k]?,AQ O x)=((.r,k),some ⟨dst,.move x,ty,pos,af,none⟩,v))(y:TD E l n fl hs ds Lw F (dK π) (putS O dst v) h):TD E l n fl hs ds Lw F (dK (m ::π)) O h:=
 tR (congrArg Prod.fst e) (congrArg (λq=>q.2.1) e) (Ug (congrArg (λq=>q.2.2) e) vz) y
theorem Rl{t:TypeId}{x:Operand}{b off:Nat}(v:Value)(e:(Lf m,l[k]?,AQ O x)=((.r,k),some ⟨dst,.load t x,ty,pos,af,none⟩,.pointer (some ⟨b,off,none⟩)))(hr:Rd P h t b off v)(y:TD E l n fl hs ds Lw F (dK π) (putS O dst v) h):TD E l n fl hs ds Lw F (dK (m ::π)) O h:=
 tR (congrArg Prod.fst e) (congrArg (λq=>q.2.1) e) (BS (congrArg (λq=>q.2.2) e) hr vz) y
theorem Py(e:(Lf m,l[k]?)=((.p,k),some ⟨dst,op,ty,pos,af,none⟩))(x:∀hx,Um E ⟨dst,op,ty,pos,af,none⟩ O ds hx v)(y:TD E l n fl hs ds Lw F (dK π) (putS O dst v) h):TD E l n fl hs ds Lw F (dK (m ::π)) O h:=tP (congrArg Prod.fst e) (congrArg Prod.snd e) x y
theorem Ry(e:(Lf m,l[k]?,l[g]?,og.dst)=((.r,k),some ⟨dst,op,ty,pos,af,some (g,w)⟩,some og,some d))(h3:O d=.bool w)(x:Um E ⟨dst,op,ty,pos,af,some (g,w)⟩ O ds h v)
  (y:TD E l n fl hs ds Lw F (dK π) (putS O dst v) h):TD E l n fl hs ds Lw F (dK (m ::π)) O h:=tRg (congrArg Prod.fst e) (congrArg (λq=>q.2.1) e) (congrArg (λq=>q.2.2.1) e) (congrArg (λq=>q.2.2.2) e) h3 x y
theorem Sz{kd:Kd}(e:(Lf m,l[k]?,l[g]?,og.dst)=((kd,k),some ⟨dst,op,ty,pos,af,some (g,w)⟩,some og,some d))(h3:O d=.bool is)(hne:(is==w)=false)
  (y:TD E l n fl hs ds Lw F (dK π) (putS O dst undef) h) (hl:(kd !=Kd.l)=true:=by rfl):TD E l n fl hs ds Lw F (dK (m ::π)) O h:=tS (congrArg Prod.fst e) (congrArg (λq=>q.2.1) e) (congrArg (λq=>q.2.2.1) e) (congrArg (λq=>q.2.2.2) e) h3 hne y hl
end
end Go.Ns
namespace Go.Ns
open Go.Conc
structure EY(h:GH)(ps:List ByteArray)(psv:Value)(ws:List AB)(wsv:Value)(js:List AK)(jsv:Value)(ns:List AJ)(nsv:Value):Prop where
 a:AO h psv 1 FD ps
 b:AO h wsv 4 Di ws
 c:AO h jsv 5 Cu js
 d:Ci h js
 e:AO h nsv 3 CJ ns
 f:At h ns
theorem EY.le{h h':GH}{ps:List ByteArray}{psv:Value}{ws:List AB}{wsv:Value}{js:List AK}{jsv:Value}{ns:List AJ}{nsv:Value}(x:EY h ps psv ws wsv js jsv ns nsv)(l:h.Le h'):EY h' ps psv ws wsv js jsv ns nsv:=⟨x.1.le l,x.2.le l,x.3.le l,x.4.le l,x.5.le l,x.6.le l⟩
abbrev J(x:Int):Value:=.int .i64 x
abbrev Pt(b:Nat):Value:=.pointer (some ⟨b,0,none⟩)
abbrev Sc(b:Nat)(n c:Nat):Value:=.slice (some ⟨b,0,none⟩) n c
abbrev Q0:Array Value:=#[J 0,J 0,.slice none 0 0,.slice none 0 0,.slice none 0 0,.slice none 0 0,.slice none 0 0,.map none]
abbrev Q1(a:Int)(b:Int)(c:List ByteArray)(d:List AB)(e:List AK)(f:List AJ)(g:List Int):=AS a b c d e f (AV e.length g)
abbrev Q2(a:List AB)(b:List AK)(c:List AJ)(d:Nat):Array Value:=#[J (((AA a b c).getD (((d:Int)-1).toNat) AC.zero).ways 0),J (((AA a b c).getD (((d:Int)-1).toNat) AC.zero).ways 1),J (((AA a b c).getD (((d:Int)-1).toNat) AC.zero).ways 2),J (((AA a b c).getD (((d:Int)-1).toNat) AC.zero).ways 3),J (((AA a b c).getD (((d:Int)-1).toNat) AC.zero).ways 4)]
abbrev Q3(a:List AB)(b:Nat):Array Value:=#[J ((a.getD b AB.z).a),J ((a.getD b AB.z).b),J ((a.getD b AB.z).low),J ((a.getD b AB.z).high)]
abbrev Q4(a:List AB)(b:List AK)(c:List AJ)(d:Nat):Array Value:=#[J (((AA a b c).getD d AC.zero).ways 0),J (((AA a b c).getD d AC.zero).ways 1),J (((AA a b c).getD d AC.zero).ways 2),J (((AA a b c).getD d AC.zero).ways 3),J (((AA a b c).getD d AC.zero).ways 4)]
abbrev Q5(a:ByteArray)(b:Nat):=decide (¬(((97<=((bytesOf a).getD b 0))/\(((bytesOf a).getD b 0)<=122))\/(((0<(b:Int))/\(48<=((bytesOf a).getD b 0)))/\(((bytesOf a).getD b 0)<=57))))
abbrev Q6:Value:=.slice none 0 0
abbrev Q7(a:List AJ)(b:Nat):Array Value:=#[(a.getD b AJ.z).wv,J ((a.getD b AJ.z).low),J ((a.getD b AJ.z).high)]
abbrev Q8(a:ByteArray)(b:Nat):=(bytesOf a).getD b 0
abbrev Q9(a:List AK)(b:Nat):=decide ((¬(((0<=((a.getD b AK.z).low)/\((a.getD b AK.z).low)<=((a.getD b AK.z).high))/\((a.getD b AK.z).high)<=30)/\((a.getD b AK.z).high)-((a.getD b AK.z).low)<2))\/(¬(0<=((a.getD b AK.z).due)/\((a.getD b AK.z).due)<=200)))
abbrev Qa(a:List AK)(b:List Int):=AV a.length b
abbrev Qb(a:Int)(b:Int)(c:List ByteArray)(d:List AB)(e:List AK)(f:List AJ):=decide (((EV a b c d e f)=(EV a b c d e f))/\((AS a b c d e f 0)=(AS a b c d e f 0)))
abbrev Qc(a:List AB)(b:Nat):=(a.getD b AB.z).b
abbrev Qd(a:List AK)(b:Nat):Array Value:=#[J ((a.getD b AK.z).place),J ((a.getD b AK.z).low),J ((a.getD b AK.z).high),J ((a.getD b AK.z).due),(a.getD b AK.z).pv]
abbrev Qe(a:List AC)(b:Nat):=(a.drop (1)).getD b AC.zero
abbrev Qf(a:List AB)(b:Nat):=(a.getD b AB.z).a
abbrev Qg(a:List AK)(b:Nat):=(a.getD b AK.z).high
abbrev Qh(a:List ByteArray)(b:List AB)(c:List AK)(d:List AJ):=decide ((((20<(a.length:Int))\/(20<(b.length:Int)))\/(20<(c.length:Int)))\/(20<(d.length:Int)))
abbrev Qi(a:Int)(b:Int)(c:List ByteArray)(d:List AB)(e:List AK)(f:List AJ)(g:List Int)(h:Int):=AS a b c d e f (BQ e.length g h)
abbrev Qj(a:List AB)(b:Nat):Array Value:=#[J ((a.getD b AB.z).low),J ((a.getD b AB.z).high)]
abbrev Qk(a:List AB)(b:List AK)(c:List AJ):=AA a b c
abbrev Ql(a:List P2)(b:Nat):=Dw ((a.getD b P2.o).w.2) ((a.getD b P2.o).k.2)
abbrev Qm(a:Int)(b:Int):=decide ((¬(0<=a/\a<=9))\/(¬(0<=b/\b<=3)))
abbrev Qn(a:Int)(b:Int):Value:=.bool (decide (a<=b))
abbrev Qo(a:Int)(b:Int)(c:Int)(d:Int):=decide ((((0<=a)/\(a<=b))/\(b<=c))/\((b-a)<d))
abbrev Qp(a:List ByteArray)(b:List AB)(c:Nat):=J (B9 a.length [(b.getD c AB.z).a,(b.getD c AB.z).b])
abbrev Qq(a:List AC):=a.getD 0 AC.zero
abbrev Qr(a:List Int)(b:Nat):=J (a.getD b 0)
abbrev Qs(a:List AB)(b:List AK)(c:List AJ)(d:Nat):Value:=.agg (Ak ((AA a b c).getD d AC.zero))
abbrev Qt(a:List ByteArray)(b:Int)(c:Int):=B9 a.length [b,c]
abbrev Qu(a:List AK)(b:Nat):=(a.getD b AK.z).low
abbrev Qv(a:List AJ)(b:Nat):Array Value:=#[J ((a.getD b AJ.z).low),J ((a.getD b AJ.z).high)]
abbrev Qw(a:List AK)(b:Int):=EP a.length b
abbrev Qx(a:List AJ)(b:Nat)(c:Nat):=((a.getD b AJ.z).ways).getD c 0
abbrev Qy(a:Int)(b:Int):=decide (((0<=a/\a<=b)/\b<=30)/\((b-a)<2))
abbrev Qz(a:Int)(b:Int)(c:List ByteArray)(d:List AB)(e:List AK)(f:List AJ):=AS a b c d e f 0
abbrev Q10(a:Int)(b:Int)(c:Int):=decide ((a<=b)/\(b<=c))
abbrev Q11(a:Int)(b:Int)(c:Int)(d:Int):=decide (((a<=b)/\(b<=c))/\(c<=d))
abbrev Q12:Value:=.agg #[J 0,J 0]
abbrev Q13(a:Nat)(b:Nat)(c:Array Int):=decide (((a:Int)<(b:Int))/\((c[b]!)<(c[((b:Int)-1).toNat]!)))
abbrev Q14(a:List AK)(b:Nat):=(a.getD b AK.z).due
abbrev Q15(a:List AJ)(b:Nat):=(a.getD b AJ.z).wv
abbrev Q16:Array Value:=#[J 0,J 0,.slice none 0 0,.slice none 0 0,.slice none 0 0,.slice none 0 0]
abbrev Q17(a:List Int):=decide (20<(a.length:Int))
abbrev Q18(a:ByteArray):=decide (((a.size:Int)<1)\/(10<(a.size:Int)))
abbrev Q19(a:Int):=decide ((97<=a)/\(a<=122))
abbrev XF(a:Int)(b:Int)(c:Value)(d:Value)(e:Value)(f:Value):Array Value:=#[.agg #[J a,J b,c,d,e,f]]
abbrev Q1b(a:Int):=decide (¬(0<=a/\a<=3))
abbrev Q1c(a:Nat):Value:=.func (.func 139) #[] #[Pt a]
abbrev Q1d(a:List Int)(b:Nat)(c:List Int):=J (In (a.getD b 0) (c.getD b 0))
abbrev Q1e(a:List Sl)(b:Nat):=((a.drop (1)).getD b Sl.z).1
abbrev Q1f(a:List Int):Array Value:=#[J (a.getD 0 0),J (a.getD 0 0)]
abbrev Q1g(a:Int):=decide ((48<=a)/\(a<=57))
abbrev Q1h(a:Nat):Value:=.func (.func 77) #[] #[Pt a]
abbrev Q1i:=Ak AC.zero
abbrev Q1j(a:Nat)(b:Nat):Value:=.func (.func 68) #[] #[Pt a,Pt b]
abbrev Q1k(a:List AK)(b:List Int)(c:Nat):=J (EP a.length (b.getD c 0))
abbrev Q1l(a:List AB)(b:Nat):=Di (a.getD b AB.z)
end Go.Ns
