/- Rules and walks, part 3 of 6. No conditions. -/
import Derived.Carry
import Derived.Conc.LeavingOf
import Derived.LaidMore
import Derived.OpenShut
import Derived.ProofKit
import Derived.Test.YtecpfaceomflkaaGreatDoorPYB
import Derived.Test.YtecpfaceomflkaaGreatDoorProg
set_option linter.unusedVariables false
set_option linter.unusedSimpArgs false
set_option linter.unnecessarySimpa false
set_option linter.unusedSectionVars false
namespace Go.Ns
open Go.Conc
section
variable {P:Program} {E:GE P} {O:Nat->Value} {ds:List Deferred} {h:GH} {T:(Nat->Value)->List Deferred->GH->Prop}
variable {dst:Option Nat} {ty:TypeId} {pos:String} {af:Array Edge} {gd:Option (Nat×Bool)}
def MF(P:Program)(e:TypeId):Option Nat:=(P.info? e).map (·.bytes)
theorem T5(z:Value)(n:Nat):(Array.range n).map (λi=>(#[z]:Array Value)[i%(#[z]:Array Value).size]!)=Array.replicate n z:=by
 apply Array.ext
 ·simp
 ·intro i h1 h2;simp [Nat.mod_one]
theorem MG{t:TypeId}{l c:Operand}{N by_:Nat}{z:Value}{e:TypeId}(hs:DP P t=some (1,#[z],e))(hby:MF P e=some by_)(hl:AN O l=.int .i64 N)(hc:AN O c=.int .i64 N)(hb:by_*N<=281474976710656)(hN2:N<=16777216)
  (k:∀r h',h r=none->h.Le h'->h' r=some (true,.cells (Array.replicate N z) e (0,0))->(∀b,b≠r->h' b=h b)->T (putS O dst (.slice (some ⟨r,0,none⟩) N N)) ds h'):BU E ⟨dst,.makeSlice t l c,ty,pos,af,gd⟩ O ds h T:=by
 unfold BU execOp;refine Fu ?_;unfold DP at hs;unfold Instr.makeSlice;rw [hl,hc];cases hu:P.underlying t with
 | none=>rw [hu] at hs;cases hs
 | some d=>
  rw [hu] at hs;cases d <;> first | (cases hs;done) | skip
  rename_i e'
  simp only at hs;cases ht:CZ P e' with
  | none=>rw [ht] at hs;cases hs
  | some x=>
   cases hz:Bt P e' with
   | none=>rw [ht,hz] at hs;cases hs
   | some z'=>
    rw [ht,hz] at hs;simp only [Option.some.injEq,Prod.mk.injEq] at hs;obtain ⟨hx2,rfl,rfl⟩:=hs;refine AD _ _ (Ai hu ?_);refine AD _ _ (Aq ?_);refine AD _ _ (Aq ?_);unfold MF at hby;unfold Bt at hz;cases hi:P.info? e' with
    | none=>rw [hi] at hz;cases hz
    | some i=>
    rw [hi] at hz hby;simp only [Option.map_some,Option.some.injEq] at hby;simp only [Option.map_eq_some_iff] at hz;obtain ⟨v,hv,hvz⟩:=hz;refine AD _ _ (Cf hi ?_);have hw:IntKind.i64.wrap (N:Int)=N:=IntWalk.i64_in _ aA;simp only [hw,hby];have hb':((by_:Int)*(N:Int))<=281474976710656:=by rw [<-Int.natCast_mul];exact Int.ofNat_le.2 hb
    rw [if_neg (by simp;omega)];simp only [Int.toNat_natCast];have hask:∀(m:Nat)(Q:Unit->GH->Prop),Q () h->(askRoom m).gh P h Q:=λm Q q=>by
     unfold askRoom;split
     ·exact ⟨rfl,q⟩
     ·exact q
    refine AD _ _ (hask _ _ ?_);refine AD _ _ (GP (by rw [ht];rfl) ?_);dsimp only;rw [hx2,Nat.mul_one];by_cases hN:N=0
    ·subst hN;rw [if_pos rfl];refine AD _ _ (Aq ?_);rw [show (Array.range 0).map (λi=>(#[]:Array Value)[i%(#[]:Array Value).size]!)=Array.replicate 0 z from aD];refine AD _ _ ?_;unfold newRow;refine AD _ _ (λr hr=>?_);exact k r _ hr (GH.Le.new hr _ _) (GH.set_same _ _ _ _) λb hb=>GH.set_ne _ _ _ hb
    rw [if_neg hN];unfold zeroValue;refine AD _ _ (AD _ _ (AD _ _ (Cf hi ?_)));rw [hv];refine Aq ?_;refine AD _ _ (Aq ?_);rw [hvz,T5];refine AD _ _ ?_;unfold newRow;refine AD _ _ (λr hr=>?_);exact k r _ hr (GH.Le.new hr _ _) (GH.set_same _ _ _ _) λb hb=>GH.set_ne _ _ _ hb
theorem Jz{V:Type}{enc:V->Array Value}{x:V}{z:Value}(he:enc x=#[z]):∀N:Nat,DX enc (List.replicate N x)=List.replicate N z
 | 0=>rfl
 | N+1=>by
  have:=Jz he N
  unfold DX at this ⊢;rw [List.replicate_succ,List.flatMap_cons,this,he];rfl
theorem AO.made{V:Type}{h h':GH}{r N:Nat}{t:TypeId}{enc:V->Array Value}{x:V}{z:Value}(hr:h r=none)(hb:h' r=some (true,.cells (Array.replicate N z) t (0,0)))(hN:N<=16777216)(he:enc x=#[z]) :
  AO h h' (.slice (some ⟨r,0,none⟩) N N) t 1 enc (List.replicate N x):=
 .inr ⟨r,N,_,by rw [List.length_replicate],hr,hb,aD,aD,by rw [List.length_replicate];omega,by rw [Jz he,List.length_replicate,Nat.mul_one];simp,λy hy=>by rw [(List.mem_replicate.1 hy).2,he];rfl⟩
end
def E9(nj:Nat)(k:Int):Int:=if¬(0<=k/\k<=(nj:Int)-1) then 6 else 0
def HX(nj:Nat)(l:List Int)(k:Nat):Int:=if¬E9 nj (l.getD k 0)=0 then E9 nj (l.getD k 0) else if (l.take k).any (λx=>decide (l.getD k 0=x))=true then 5 else 0
def AU(nj:Nat)(l:List Int):Int:=Cv (HX nj l) 0 l.length
def F7(bag kinds:Int)(ps:List ByteArray)(ws:List AB)(js:List AK)(ns:List AE)(l:List Int):Int:=
 if¬A0 bag kinds ps ws js ns=0 then A0 bag kinds ps ws js ns else AU js.length l
theorem N4{nj:Nat}{k:Int}(h:E9 nj k=0):0<=k/\k<nj:=by
 unfold E9 at h;split at h
 ·cases h
 ·omega
theorem FA{nj:Nat}{l:List Int}(h:AU nj l=0)(k:Nat)(hk:k<l.length):0<=l.getD k 0/\l.getD k 0<nj:=by
 have h1:=DM h k (Nat.zero_le _) aA;unfold HX at h1;split at h1
 ·rename_i a;exact absurd h1 a
 ·rename_i a;exact N4 (Decidable.not_not.1 a)
def F8(out ps:List Int):Nat->List Int
 | 0=>out
 | i+1=>(F8 out ps i).set i ((F8 out ps i).getD i 0+ps.getD i 0)
def CK(kinds:Int)(js:List AK)(l:List Int):Nat->List Int
 | 0=>List.replicate kinds.toNat 0
 | q+1=>F8 (CK kinds js l q) (js.getD (l.getD q 0).toNat AK.z).parts (js.getD (l.getD q 0).toNat AK.z).parts.length
def DB(kinds:Int)(js:List AK)(l:List Int):List Int:=CK kinds js l l.length
theorem MH(out ps:List Int):∀i,(F8 out ps i).length=out.length
 | 0=>rfl
 | i+1=>by rw [F8,List.length_set,MH out ps i]
theorem Pi(out ps:List Int)(hl:ps.length=out.length):∀i,i<=ps.length->∀j,(F8 out ps i).getD j 0=if j<i then out.getD j 0+ps.getD j 0 else out.getD j 0
 | 0,_,j=>by rw [if_neg aA];rfl
 | i+1,h,j=>by
  have e:=Pi out ps hl i aA;have hn:=MH out ps i;unfold F8;rw [List.getD_eq_getElem?_getD,List.getElem?_set];by_cases hij:i=j
  ·subst hij;rw [if_pos rfl,if_pos aA,if_pos aA,Option.getD_some,e i,if_neg aA]
  ·rw [if_neg hij,<-List.getD_eq_getElem?_getD,e j];by_cases h1:j<i
   ·rw [if_pos h1,if_pos aA]
   ·rw [if_neg h1,if_neg aA]
section
variable {bag kinds:Int} {ps:List ByteArray} {ws:List AB} {js:List AK} {ns:List AE} {l:List Int}
theorem My(b:Ap bag kinds ps ws js ns){k:Int}(h:0<=k/\k<js.length):JobOK ps.length kinds (js.getD k.toNat AK.z):=MB (b.job k.toNat aA)
theorem I9(b:Ap bag kinds ps ws js ns):∀q,(CK kinds js l q).length=kinds.toNat
 | 0=>List.length_replicate
 | q+1=>by rw [CK,MH,I9 b q]
theorem LP(b:Ap bag kinds ps ws js ns)(hr:∀k,k<l.length->0<=l.getD k 0/\l.getD k 0<js.length):∀q,q<=l.length->∀j,0<=(CK kinds js l q).getD j 0/\(CK kinds js l q).getD j 0<=5*(q:Int)
 | 0,_,j=>by
  unfold CK;rw [List.getD_eq_getElem?_getD,List.getElem?_replicate];split <;> simp
 | q+1,h,j=>by
  have e:=LP b hr q aA j;have x:=My b (hr q aA);have x2:=x.part j;have x3:=x.len;unfold CK;rw [Pi _ _ (by rw [I9 b q];omega) _ (Nat.le_refl _)];split <;> omega
theorem addP_rng(b:Ap bag kinds ps ws js ns)(hr:∀k,k<l.length->0<=l.getD k 0/\l.getD k 0<js.length){q:Nat}(hq:q<l.length){i:Nat}(hi:i<(js.getD (l.getD q 0).toNat AK.z).parts.length) :
  (F8 (CK kinds js l q) (js.getD (l.getD q 0).toNat AK.z).parts i).length=(js.getD (l.getD q 0).toNat AK.z).parts.length/\0<=(F8 (CK kinds js l q) (js.getD (l.getD q 0).toNat AK.z).parts i).getD i 0/\(F8 (CK kinds js l q) (js.getD (l.getD q 0).toNat AK.z).parts i).getD i 0<=5*(q:Int)/\
  0<=(js.getD (l.getD q 0).toNat AK.z).parts.getD i 0/\(js.getD (l.getD q 0).toNat AK.z).parts.getD i 0<=5:=by
 have x:=My b (hr q hq);have e:=LP b hr q aA i;have x3:=x.len;have hl:=I9 (l:=l) b q;refine ⟨by rw [MH,hl];omega,?_⟩;rw [Pi _ _ (by rw [hl];omega) i aA,if_neg aA];exact ⟨e.1,e.2,x.part i⟩
theorem Ws(b:Ap bag kinds ps ws js ns):(DB kinds js l).length=kinds.toNat:=I9 b _
theorem Wt(b:Ap bag kinds ps ws js ns)(hr:∀k,k<l.length->0<=l.getD k 0/\l.getD k 0<js.length)(j:Nat):0<=(DB kinds js l).getD j 0/\(DB kinds js l).getD j 0<=5*(l.length:Int):=LP b hr _ (Nat.le_refl _) j
theorem sum_take(xs:List Int){k:Nat}(h:k<xs.length):(xs.take (k+1)).sum=(xs.take k).sum+xs.getD k 0:=by
 rw [List.take_add_one,List.sum_append,List.getD_eq_getElem?_getD,List.getElem?_eq_getElem h];simp
theorem sum_all(xs:List Int){k:Nat}(h:xs.length<=k):(xs.take k).sum=xs.sum:=by rw [List.take_of_length_le h]
theorem U3(h:F7 bag kinds ps ws js ns l=0):Ap bag kinds ps ws js ns/\∀k,k<l.length->0<=l.getD k 0/\l.getD k 0<js.length:=by
 unfold F7 at h;split at h
 ·rename_i a;exact absurd h a
 ·rename_i a;exact ⟨B2 (Decidable.not_not.1 a),FA h⟩
def SI(bag kinds:Int)(ps:List ByteArray)(ws:List AB)(js:List AK)(ns:List AE)(l:List Int):List Int:=if¬F7 bag kinds ps ws js ns l=0 then [] else DB kinds js l
def Yn(bag kinds:Int)(ps:List ByteArray)(ws:List AB)(js:List AK)(ns:List AE)(l:List Int):Bool:=if¬F7 bag kinds ps ws js ns l=0 then false else decide ((DB kinds js l).sum<=bag)
end
end Go.Ns
namespace Go.Ns
open Go.Conc
section
variable {P:Program} {E:GE P} {O:Nat->Value} {ds:List Deferred} {h:GH} {T:(Nat->Value)->List Deferred->GH->Prop}
variable {dst:Option Nat} {ty:TypeId} {pos:String} {af:Array Edge} {gd:Option (Nat×Bool)}
theorem LQ{t kt vt:TypeId}{x ix:Operand}{r np:Nat}{ws:List AB}{pq:List AC}{q:AC}{a b:Int}{z:Value}(ht:Ly P t=some (kt,vt))(hx:AN O x=.map (some r))(hk:AN O ix=El (q.w5,a,b))(hm:D8 h r np ws pq)
  (hc:∀a:E8,ckP P 4 kt (El a)=true)
  (he:∀a b:E8,O5 P 4 kt (El a) (El b)=some ((a.1.1==b.1.1 && (a.1.2.1==b.1.2.1 && (a.1.2.2.1==b.1.2.2.1 && (a.1.2.2.2.1==b.1.2.2.2.1 && (a.1.2.2.2.2==b.1.2.2.2.2 && true))))) && (a.2.1==b.2.1 && (a.2.2==b.2.2 && true))))
  (hz:(P.info? vt).bind (·.zero)=some z) (hq:q ∈ pq) (ha:0<=a/\a<np) (hb:0<=b/\b<np)
  (k:T (putS O dst (.int .i64 (AX np ws q a.toNat b.toNat))) ds h):BU E ⟨dst,.lookup t x ix false,ty,pos,af,gd⟩ O ds h T:=by
 obtain ⟨pm,M,hM,hF⟩:=hm;have e:=hF q hq a.toNat b.toNat aA aA;rw [Int.toNat_of_nonneg ha.1,Int.toNat_of_nonneg hb.1] at e;refine R6 (d:=3) (a:=(q.w5,a,b)) ht hx hk hM rfl (hc _) (λb=>by rw [he,E8.eq_iff]) hz ?_;rw [e];exact k
theorem SJ{V:Type}{t:TypeId}{x:Operand}{olo ohi:Option Operand}{n:Nat}{enc:V->Array Value}{xs:List V}{v:Value}{hk:GH}(lo hi:Nat)(ht:Ef P t=some n)(hs:AL hk v n enc xs)(hx:AN O x=v)
  (hlo:match olo with | none=>lo=0 | some o=>∃kd,AN O o=.int kd lo) (hhi:match ohi with | none=>hi=xs.length | some o=>∃kd,AN O o=.int kd hi) (h1:lo<=hi) (h2:hi<=xs.length)
  (k:∀v',AL hk v' n enc ((xs.take hi).drop lo)->T (putS O dst v') ds h):BU E ⟨dst,.slice t x olo ohi none,ty,pos,af,gd⟩ O ds h T:=by
 have hs':=hs;obtain ⟨a,cap,rfl,hc,_,_⟩:=hs';exact KR lo hi ht hc hx hlo hhi h1 h2 (k _ (hs.part h1 h2))
end
def U4(F:AC->Int)(l:List AC):Nat->Int
 | 0=>F (l.getD 0 AC.zero)
 | k+1=>min (U4 F l k) (F ((l.drop 1).getD k AC.zero))
def U5(F:AC->Int)(l:List AC):Nat->Int
 | 0=>F (l.getD 0 AC.zero)
 | k+1=>max (U5 F l k) (F ((l.drop 1).getD k AC.zero))
def CC(F:AC->Int)(l:List AC):Int:=U4 F l (l.length-1)
def BA(F:AC->Int)(l:List AC):Int:=U5 F l (l.length-1)
theorem M0{l:List AC}{k:Nat}(h:k<l.length-1):(l.drop 1).getD k AC.zero ∈ l:=List.mem_of_mem_drop (BO (by rw [List.length_drop];exact h))
def DR(s v:Int):Int:=if s=0 then v else 0
theorem Hz(v:Int):DR 0 v=v:=if_pos rfl
theorem ID{s v:Int}(h:¬s=0):DR s v=0:=if_neg h
end Go.Ns
namespace Go.Ns
open Go.Conc
theorem T6:∀(n m:Nat)(f:Nat->Nat),(∀i,i<m->f i<n)->(∀i j,i<j->j<m->f i≠f j)->m<=n
 | 0,m,f,h,_=>by
  rcases Nat.eq_zero_or_pos m with e | e
  ·omega
  ·exact absurd (h 0 e) (Nat.not_lt_zero _)
 | n+1,m,f,h,d=>by
  rcases Nat.eq_zero_or_pos m with e | e
  ·omega
  ·have x:=T6 n (m-1) (λi=>if f i=n then f (m-1) else f i) (λi hi=>by
    have h1:=h i aA;have h2:=h (m-1) aA;have h3:=d i (m-1) hi aA;show (if f i=n then f (m-1) else f i)<n;split <;> omega) (λi j hij hj=>by
    have h1:=d i j hij aA;have h2:=d i (m-1) aA aA;have h3:=d j (m-1) aA aA;show (if f i=n then f (m-1) else f i)≠(if f j=n then f (m-1) else f j);split <;> split <;> omega)
   omega
theorem Hk{nj:Nat}{l:List Int}(h:AU nj l=0):l.length<=nj:=by
 refine T6 nj l.length (λk=>(l.getD k 0).toNat) (λi hi=>?_) λi j hij hj=>?_
 ·have:=FA h i hi
  show (l.getD i 0).toNat<nj;omega
 ·have hi:=FA h i aA;have hj':=FA h j hj;have h1:=DM h j (Nat.zero_le _) aA;unfold HX at h1;split at h1
  ·rename_i a;exact absurd h1 a
  ·split at h1
   ·cases h1
   ·rename_i a b
    show (l.getD i 0).toNat≠(l.getD j 0).toNat;intro e;refine b (List.any_eq_true.2 ⟨l.getD i 0,?_,decide_eq_true aA⟩);rw [List.mem_iff_getElem];refine ⟨i,by rw [List.length_take];omega,?_⟩;rw [List.getElem_take,List.getD_eq_getElem?_getD,List.getElem?_eq_getElem aA];rfl
def GX(js:List AK)(l:List Int):Nat->Int
 | 0=>0
 | q+1=>(js.getD (l.getD q 0).toNat AK.z).place
def Bn(np:Nat)(ws:List AB)(js:List AK)(p:AC)(l:List Int):Nat->Int
 | 0=>0
 | q+1=>Bn np ws js p l q+(AX np ws p (GX js l q).toNat (js.getD (l.getD q 0).toNat AK.z).place.toNat+p.works (l.getD q 0).toNat)
def Em(np:Nat)(ws:List AB)(js:List AK)(p:AC)(l:List Int):Nat->List Int
 | 0=>[]
 | q+1=>Em np ws js p l q++[Bn np ws js p l (q+1)]
def Aa(np:Nat)(ws:List AB)(js:List AK)(p:AC)(l:List Int):Int:=Bn np ws js p l l.length+AX np ws p (GX js l l.length).toNat 0
theorem JA(np:Nat)(ws:List AB)(js:List AK)(p:AC)(l:List Int):∀q,(Em np ws js p l q).length=q
 | 0=>rfl
 | q+1=>by rw [Em,List.length_append,JA np ws js p l q];rfl
theorem Pj(np:Nat)(ws:List AB)(js:List AK)(p:AC)(l:List Int):∀q i,i<q->(Em np ws js p l q).getD i 0=Bn np ws js p l (i+1)
 | 0,i,h=>absurd h (Nat.not_lt_zero _)
 | q+1,i,h=>by
  have hl:=JA np ws js p l q;rw [Em,List.getD_eq_getElem?_getD];by_cases e:i<q
  ·rw [List.getElem?_append_left aA,<-List.getD_eq_getElem?_getD];exact Pj np ws js p l q i e
  ·have e2:i=q:=aA
   subst e2;rw [List.getElem?_append_right aA,hl,Nat.sub_self];rfl
section
variable {bag kinds:Int} {ps:List ByteArray} {ws:List AB} {js:List AK} {ns:List AE} {l:List Int} {p:AC}
theorem SK{np:Nat}(hp:BH p):(AX np ws p).ok:=U1 (LO hp)
theorem Pm(b:Ap bag kinds ps ws js ns)(hr:∀k,k<l.length->0<=l.getD k 0/\l.getD k 0<js.length):∀q,q<=l.length->0<=GX js l q/\GX js l q<ps.length
 | 0,_=>by have:=b.plen;show (0:Int)<=0/\(0:Int)<_;omega
 | q+1,h=>by have:=(My b (hr q aA)).place;show 0<=(js.getD (l.getD q 0).toNat AK.z).place/\(js.getD (l.getD q 0).toNat AK.z).place<ps.length;omega
theorem SL(hp:BH p):∀q,0<=Bn ps.length ws js p l q/\Bn ps.length ws js p l q<=1048606*(q:Int)
 | 0=>⟨Int.le_refl 0,Int.le_refl 0⟩
 | q+1=>by
  have e:=SL hp q;have f:=SK (np:=ps.length) (ws:=ws) hp (GX js l q).toNat (js.getD (l.getD q 0).toNat AK.z).place.toNat;have w:=hp.works (l.getD q 0).toNat;unfold Bn;omega
end
end Go.Ns
namespace Go.Ns
open Go.Conc
theorem D8.store{h h':GH}{q r np:Nat}{ws:List AB}{pq:List AC}(x:D8 h r np ws pq)(ho:∀b,b≠q->h' b=h b)(n:r≠q):D8 h' r np ws pq:=by
 obtain ⟨pm,M,⟨es,clk,hb,hl⟩,hM⟩:=x;exact ⟨pm,M,⟨es,clk,(ho r n).trans hb,hl⟩,hM⟩
def eSp(x:Int×Int):Array Value:=#[.int .i64 x.1,.int .i64 x.2]
section
variable (np:Nat) (ws:List AB) (js:List AK) (pq:List AC) (l:List Int)
def endLo(i:Nat):Int:=CC (λx=>Bn np ws js x l (i+1)) pq
def endHi(i:Nat):Int:=BA (λx=>Bn np ws js x l (i+1)) pq
def GY:Nat->List (Int×Int)
 | 0=>[]
 | q+1=>GY q++[(endLo np ws js pq l q,endHi np ws js pq l q)]
theorem Pn:∀q,(GY np ws js pq l q).length=q
 | 0=>rfl
 | q+1=>by rw [GY,List.length_append,Pn q];rfl
def LR(i:Nat):Bool:=decide (endHi np ws js pq l i<=(js.getD (l.getD i 0).toNat AK.z).due)
def Bv(bag kinds:Int):Bool:=decide ((DB kinds js l).sum<=bag) && (List.range l.length).all (LR np ws js pq l)
variable {np ws js pq l}
theorem Ze{q:Nat}(h:¬(js.getD (l.getD q 0).toNat AK.z).due<BA (λx=>Bn np ws js x l ((q:Int).toNat+1)) pq):LR np ws js pq l q=true:=decide_eq_true (Int.not_lt.1 h)
theorem Zf{q:Nat}(h:(js.getD (l.getD q 0).toNat AK.z).due<BA (λx=>Bn np ws js x l ((q:Int).toNat+1)) pq):LR np ws js pq l q=false:=decide_eq_false (Int.not_le.2 h)
variable {bag kinds:Int}
theorem Wu(h:¬(DB kinds js l).sum<=bag):Bv np ws js pq l bag kinds=false:=by unfold Bv;rw [decide_eq_false h];rfl
theorem Zg{k:Nat}(hk:k<l.length)(h:(js.getD (l.getD k 0).toNat AK.z).due<BA (λx=>Bn np ws js x l ((k:Int).toNat+1)) pq):Bv np ws js pq l bag kinds=false:=by
 unfold Bv;rw [Bool.and_eq_false_iff];refine .inr (Bool.eq_false_iff.2 λe=>?_)
 have:=List.all_eq_true.1 e k (List.mem_range.2 hk)
 rw [Zf h] at this;cases this
theorem safe_all{k:Nat}(h:¬¬(DB kinds js l).sum<=bag)(hs:∀j,j<k->LR np ws js pq l j=true)(hk:l.length<=k):Bv np ws js pq l bag kinds=true:=by
 unfold Bv;rw [decide_eq_true (Decidable.not_not.1 h),Bool.true_and];exact List.all_eq_true.2 λj hj=>hs j (by have:=List.mem_range.1 hj;omega)
end
def CA:Nat->List Int
 | 0=>[]
 | k+1=>CA k++[(k:Int)]
theorem Ce:∀n,(CA n).length=n
 | 0=>rfl
 | n+1=>by rw [CA,List.length_append,Ce n];rfl
def Cb(nj:Nat)(l:List Int)(i:Int):Int:=if¬AU nj l=0 then AU nj l else if¬(0<=i/\i<=(l.length:Int)-1) then 1 else 0
theorem U6{nj:Nat}{l:List Int}{i:Int}(h:Cb nj l i=0):AU nj l=0/\0<=i/\i<l.length:=by
 unfold Cb at h;split at h
 ·rename_i a;exact absurd h a
 ·rename_i a
  split at h
  ·cases h
  ·exact ⟨Decidable.not_not.1 a,aA⟩
section
variable (bag kinds:Int) (ps:List ByteArray) (ws:List AB) (js:List AK) (ns:List AE) (l:List Int)
def En:List (Int×Int):=if¬AH bag kinds ps ws js ns (AU js.length l)=0 then [] else GY ps.length ws js (AA ws js ns) l l.length
def Da:Bool:=if¬AH bag kinds ps ws js ns (AU js.length l)=0 then false else Bv ps.length ws js (AA ws js ns) l bag kinds
def K5(i:Int):Int:=
 if¬AH bag kinds ps ws js ns (Cb js.length l i)=0 then 0 else if (js.getD (l.getD i.toNat 0).toNat AK.z).due<endLo ps.length ws js (AA ws js ns) l i.toNat then 1
 else if endHi ps.length ws js (AA ws js ns) l i.toNat<=(js.getD (l.getD i.toNat 0).toNat AK.z).due then 2 else 0
variable {bag kinds ps ws js ns l} {i:Int}
theorem late_yes(h0:AH bag kinds ps ws js ns (Cb js.length l i)=0)(h:(js.getD (l.getD i.toNat 0).toNat AK.z).due<CC (λx=>Bn ps.length ws js x l (i.toNat+1)) (AA ws js ns)):(1:Int)=K5 bag kinds ps ws js ns l i:=by
 unfold K5;rw [if_neg (λx=>x h0)];exact (if_pos h).symm
theorem late_no(h0:AH bag kinds ps ws js ns (Cb js.length l i)=0)(h:¬(js.getD (l.getD i.toNat 0).toNat AK.z).due<CC (λx=>Bn ps.length ws js x l (i.toNat+1)) (AA ws js ns))
  (h2:BA (λx=>Bn ps.length ws js x l (i.toNat+1)) (AA ws js ns)<=(js.getD (l.getD i.toNat 0).toNat AK.z).due):(2:Int)=K5 bag kinds ps ws js ns l i:=by
 unfold K5;rw [if_neg (λx=>x h0)];exact ((if_neg h).trans (if_pos h2)).symm
theorem Zh(h0:AH bag kinds ps ws js ns (Cb js.length l i)=0)(h:¬(js.getD (l.getD i.toNat 0).toNat AK.z).due<CC (λx=>Bn ps.length ws js x l (i.toNat+1)) (AA ws js ns))
  (h2:¬BA (λx=>Bn ps.length ws js x l (i.toNat+1)) (AA ws js ns)<=(js.getD (l.getD i.toNat 0).toNat AK.z).due):(0:Int)=K5 bag kinds ps ws js ns l i:=by
 unfold K5;rw [if_neg (λx=>x h0)];exact ((if_neg h).trans (if_neg h2)).symm
theorem late_bad(h0:¬AH bag kinds ps ws js ns (Cb js.length l i)=0):(0:Int)=K5 bag kinds ps ws js ns l i:=by unfold K5;rw [if_pos h0]
end
end Go.Ns
namespace Go.Ns
open Go.Conc
def Gm(i:Nat)(pq:List AC):Nat->List Int
 | 0=>[]
 | k+1=>Gm i pq k++[(pq.getD k AC.zero).works i]
theorem Gz(i:Nat)(pq:List AC):∀k,(Gm i pq k).length=k
 | 0=>rfl
 | k+1=>by rw [Gm,List.length_append,Gz i pq k];rfl
theorem Po{i:Nat}{pq:List AC}{k:Nat}(h:0<k):Gm i pq k≠[]:=λe=>by
 have:=Gz i pq k
 rw [e] at this;simp at this;omega
def M1(bag kinds:Int)(ps:List ByteArray)(ws:List AB)(js:List AK)(ns:List AE)(i:Int):List Int:=
 if¬AH bag kinds ps ws js ns (E9 js.length i)=0 then [] else Dh (FO (Gm i.toNat (AA ws js ns) (AA ws js ns).length))
end Go.Ns
namespace Go.Ns
open Go.Conc
theorem U7{h:GH}{r:Nat}{M:Int->Option Int}(x:Cl h r Dk Dk M):∃y,h r=some y:=by
 obtain ⟨es,clk,hb,_⟩:=x;exact ⟨_,hb⟩
def Db(ns:List AE)(mask:Int)(k:Nat):List AE:=((List.range k).filter (Nu mask)).map λ(i:Nat)=>ns.getD i AE.z
section
variable {ns:List AE} {mask:Int} {k:Nat} {h:GH}
theorem pickN_t(hb:mask.fdiv (2 ^ k)%2=1):Db ns mask (k+1)=Db ns mask k++[ns.getD k AE.z]:=by
 unfold Db;rw [Jp (by unfold Nu;rw [decide_eq_true hb]),List.map_append];rfl
theorem pickN_f(hb:¬mask.fdiv (2 ^ k)%2=1):Db ns mask (k+1)=Db ns mask k:=by
 unfold Db;rw [Jq (by unfold Nu;rw [decide_eq_false hb])]
theorem SM(ns:List AE)(mask:Int)(k:Nat):(Db ns mask k).length<=k:=by
 unfold Db;rw [List.length_map]
 have:=List.length_filter_le (Nu mask) (List.range k)
 rwa [List.length_range] at this
theorem U8(ns:List AE)(mask:Int)(k q:Nat)(hq:q<(Db ns mask k).length):∃i,i<k/\(Db ns mask k).getD q AE.z=ns.getD i AE.z:=by
 have hm:(Db ns mask k).getD q AE.z ∈ Db ns mask k:=BO hq;unfold Db at hm ⊢;obtain ⟨i,hi,e⟩:=List.mem_map.1 hm;exact ⟨i,List.mem_range.1 (List.mem_filter.1 hi).1,e.symm⟩
theorem Ao.pick(x:Ao h ns)(mask:Int)(k:Nat):Ao h (Db ns mask k):=λq=>by
 by_cases hq:q<(Db ns mask k).length
 ·obtain ⟨i,_,e⟩:=U8 ns mask k q hq;rw [e];exact x i
 ·rw [List.getD_eq_getElem?_getD,List.getElem?_eq_none aA];exact Ao.nil h 0
theorem Ao.fine1(x:Ao h ns)(k:Nat):(B6 (ns.getD k AE.z)).toList.all (·.oneCell')=true:=by
 show (((ns.getD k AE.z).wv.oneCell') && (true && (true && true)))=true;rw [(AL.one (x k)).2];rfl
theorem Ao.fine(x:Ao h ns):∀y ∈ ns,(B6 y).toList.all (·.oneCell')=true:=λy hy=>by
 obtain ⟨i,hi,e⟩:=List.mem_iff_getElem.1 hy
 have:=x.fine1 i
 rw [List.getD_eq_getElem?_getD,List.getElem?_eq_getElem hi] at this;rw [<-e];exact this
theorem MI{nw:Nat}{ns ns':List AE}{k i:Nat}(e:ns'.getD k AE.z=ns.getD i AE.z):Cq nw ns' k=Cq nw ns i:=by unfold Cq;rw [e]
theorem Ap.pick{bag kinds:Int}{ps:List ByteArray}{ws:List AB}{js:List AK}(b:Ap bag kinds ps ws js ns)(mask:Int):Ap bag kinds ps ws js (Db ns mask ns.length):=
 { b with
  nlen:=Nat.le_trans (SM ns mask ns.length) b.nlen
  note:=λk hk=>by
   obtain ⟨i,hi,e⟩:=U8 ns mask ns.length k hk;rw [MI e];exact b.note i hi }
end
section
variable (ws:List AB) (js:List AK) (ns:List AE)
def EI(x:Bool×List Int)(l:List Int):Bool:=x.1 && (decide ((x.2.length:Int)<l.length) || (decide ((l.length:Int)=x.2.length) && decide (0<HU l x.2)))
def BT:Nat->Bool×List Int
 | 0=>(false,[])
 | q+1=>if EI (BT q) (BI (q:Int) ns.length)=true then BT q else if (AA ws js (Db ns (q:Int) ns.length)).length=0 then (true,BI (q:Int) ns.length) else BT q
variable {ws js ns} {q:Nat}
theorem G0(h:EI (BT ws js ns q) (BI (q:Int) ns.length)=true):BT ws js ns (q+1)=BT ws js ns q:=if_pos h
theorem IE(h:EI (BT ws js ns q) (BI (q:Int) ns.length)=false)(h2:((AA ws js (Db ns (q:Int) ns.length)).length:Int)=0):BT ws js ns (q+1)=(true,BI (q:Int) ns.length):=by
 rw [BT,if_neg (by rw [h];simp),if_pos aA]
theorem IF(h:EI (BT ws js ns q) (BI (q:Int) ns.length)=false)(h2:¬((AA ws js (Db ns (q:Int) ns.length)).length:Int)=0):BT ws js ns (q+1)=BT ws js ns q:=by
 rw [BT,if_neg (by rw [h];simp),if_neg aA]
theorem SN{x:Bool×List Int}{l:List Int}(h:x.1=false):EI x l=false:=by unfold EI;rw [h];rfl
theorem Zi{x:Bool×List Int}{l:List Int}(h:¬(x.2.length:Int)<l.length)(h2:¬(l.length:Int)=x.2.length):EI x l=false:=by
 unfold EI;rw [decide_eq_false h,decide_eq_false h2];simp
theorem Zj{x:Bool×List Int}{l:List Int}(h:¬(x.2.length:Int)<l.length)(h2:¬0<HU l x.2):EI x l=false:=by
 unfold EI;rw [decide_eq_false h,decide_eq_false h2];simp
theorem SO{x:Bool×List Int}{l:List Int}(h:x.1=true)(h1:(x.2.length:Int)<l.length):EI x l=true:=by
 unfold EI;rw [h,decide_eq_true h1];simp
theorem SP{x:Bool×List Int}{l:List Int}(h:x.1=true)(h1:(l.length:Int)=x.2.length)(h2:0<HU l x.2):EI x l=true:=by
 unfold EI;rw [h,decide_eq_true h1,decide_eq_true h2];simp
theorem pow_16:∀{n:Nat},n<=4->(1:Int)<=(2:Int) ^ n/\(2:Int) ^ n<=16
 | 0,_=>aC
 | 1,_=>aC
 | 2,_=>aC
 | 3,_=>aC
 | 4,_=>aC
theorem Pp:∀q,(BT ws js ns q).2.length<=ns.length
 | 0=>Nat.zero_le _
 | q+1=>by
  have e:=Pp q;unfold BT;split
  ·exact e
  ·split
   ·exact Mq _ _
   ·exact e
def Cg(bag kinds:Int)(ps:List ByteArray)(ws:List AB)(js:List AK)(ns:List AE):List Int:=
 if¬A0 bag kinds ps ws js ns=0 then [] else if (0:Int)<(AA ws js ns).length then [] else (BT ws js ns (2 ^ ns.length)).2
end
section
variable {bag kinds:Int} {ps:List ByteArray} {ws:List AB} {js:List AK} {ns:List AE} {q:Nat}
theorem U9(h:¬A0 bag kinds ps ws js ns=0):Cg bag kinds ps ws js ns=[]:=if_pos h
theorem JB(h:(0:Int)<(AA ws js ns).length):Cg bag kinds ps ws js ns=[]:=by
 unfold Cg;rw [if_pos h];exact ite_self _
theorem VA(h:A0 bag kinds ps ws js ns=0)(h1:¬(0:Int)<(AA ws js ns).length)(hq:¬(q:Int)<(2:Int) ^ ((ns.length:Int)).toNat)(hq2:(q:Int)<=(2:Int) ^ ((ns.length:Int)).toNat):Cg bag kinds ps ws js ns=(BT ws js ns q).2:=by
 have e:((2 ^ ns.length:Nat):Int)=(2:Int) ^ ((ns.length:Int)).toNat:=by rw [Int.toNat_natCast,Int.natCast_pow];rfl
 rw [<-e] at hq hq2
 have:2 ^ ns.length=q:=aA
 unfold Cg;rw [if_neg (λx=>x h),if_neg h1,this]
end
section
variable (ws:List AB) (js:List AK) (ns:List AE)
abbrev Kr(pq:List AC)(i:Nat):Nat->Int:=λk=>(pq.getD k AC.zero).ways i
def VB(pq:List AC)(i:Nat):Int:=K0 (Kr pq i) pq.length
def HY(pq:List AC)(k:Nat):Int×Int:=askTo (VB pq) (pq.length:Int) k
theorem SQ{pq:List AC}{k:Nat}(h:VB pq k<(HY pq k).2):HY pq (k+1)=((k:Int),VB pq k):=if_pos h
theorem SR{pq:List AC}{k:Nat}(h:¬VB pq k<(HY pq k).2):HY pq (k+1)=HY pq k:=if_neg h
def T7(bag kinds:Int)(ps:List ByteArray)(ws:List AB)(js:List AK)(ns:List AE):Int:=if¬AH bag kinds ps ws js ns 0=0 then 0 else (HY (AA ws js ns) ws.length).1
def Og(bag kinds:Int)(ps:List ByteArray)(ws:List AB)(js:List AK)(ns:List AE):Int:=if¬AH bag kinds ps ws js ns 0=0 then 0 else (HY (AA ws js ns) ws.length).2
end
end Go.Ns
namespace Go.Ns
open Go.Conc
def OU(hs:GH)(k0 ln:Nat)(c:Array Value)(t:TypeId)(k:Nat)(v:Value)(h:GH):Prop:=k=k0->∃r,v=.slice (some ⟨r,0,none⟩) ln ln/\hs r=none/\h r=some (true,.cells c t (0,0))
theorem OU.mono(hs:GH)(k0 ln:Nat)(c:Array Value)(t:TypeId):∀k v h1 h2,GH.Le h1 h2->OU hs k0 ln c t k v h1->OU hs k0 ln c t k v h2:=λ_ _ _ _ l x e=>by
 obtain ⟨r,q1,q2,q3⟩:=x e;exact ⟨r,q1,q2,l.keep q3 rfl⟩
theorem M3{P:Program}{E:GE P}{O:Nat->Value}{ds:List Deferred}{hs hx:GH}{dst:Option Nat}{ty:TypeId}{pos:String}{af:Array Edge}{gd:Option (Nat×Bool)}{t:TypeId}{len n k0 k:Nat}{z cells:Array Value}{e:TypeId}{parts:Array (Nat×Operand)}
  (h0:DP P t=some (n,z,e)) (hl:len*n<=2 ^ 24) (hn:(len*n=0)=False) (hf:Instr.fill (λi=>some (i*n,n)) ((Array.range (len*n)).map (z[·%z.size]!)) (parts.map λ(i,x)=>(i,AN O x)).toList=some cells) (l:hs.Le hx) :
  BU E ⟨dst,.buildSlice t len parts,ty,pos,af,gd⟩ O ds hx λσ' ds' h'=>ds'=ds/\∃v,σ'=putS O dst v/\hx.Le h'/\OU hs k0 len cells e k v h':=
 AS h0 hl hn hf λr h' hr le bx _=>⟨rfl,_,rfl,le,λ_=>⟨r,rfl,GH.Le.nothing l hr,bx⟩⟩
def LfW(hs:GH)(k0 ln:Nat)(c:Array Value)(t:TypeId)(n:Nat)(Fr:GH->Prop)(k:Nat)(v:Value)(h:GH):Prop:=OU hs k0 ln c t k v h/\(k=n->Fr h)
theorem LfW.mono(hs:GH)(k0 ln:Nat)(c:Array Value)(t:TypeId)(n:Nat){Fr:GH->Prop}(m:∀h1 h2,GH.Le h1 h2->Fr h1->Fr h2):∀k v h1 h2,GH.Le h1 h2->LfW hs k0 ln c t n Fr k v h1->LfW hs k0 ln c t n Fr k v h2:=λ_ _ _ _ l x=>⟨OU.mono _ _ _ _ _ _ _ _ _ l x.1,λe=>m _ _ l (x.2 e)⟩
theorem Wv{P:Program}{E:GE P}{O:Nat->Value}{ds:List Deferred}{hs hx:GH}{dst:Option Nat}{ty:TypeId}{pos:String}{af:Array Edge}{gd:Option (Nat×Bool)}{t:TypeId}{len n k0 N:Nat}{z cells:Array Value}{e:TypeId}{parts:Array (Nat×Operand)}{Fr:GH->Prop}(hk:k0≠N)
  (h0:DP P t=some (n,z,e)) (hl:len*n<=2 ^ 24) (hn:(len*n=0)=False) (hf:Instr.fill (λi=>some (i*n,n)) ((Array.range (len*n)).map (z[·%z.size]!)) (parts.map λ(i,x)=>(i,AN O x)).toList=some cells) (l:hs.Le hx) :
  BU E ⟨dst,.buildSlice t len parts,ty,pos,af,gd⟩ O ds hx λσ' ds' h'=>ds'=ds/\∃v,σ'=putS O dst v/\hx.Le h'/\LfW hs k0 len cells e N Fr k0 v h':=
 AS h0 hl hn hf λr h' hr le bx _=>⟨rfl,_,rfl,le,λ_=>⟨r,rfl,GH.Le.nothing l hr,bx⟩,λe=>absurd e hk⟩
theorem tFg{P:Program}{E:GE P}{l:List Oper}{n:Nat}{fl:Bool}{hs:GH}{ds:List Deferred}{Lw:Nat->Value->GH->Prop}{F:(Nat->Value)->GH->Prop}{π:List Nat}{O:Nat->Value}{h:GH}{m k g d:Nat}{dst:Option Nat}{op:Op}{ty:TypeId}{pos:String}{af:Array Edge}{v:Value}{w:Bool}{og:Oper}
  (hk:Kv m=(.p,k)) (ho:l[k]? =some ⟨dst,op,ty,pos,af,some (g,w)⟩) (h1:l[g]? =some og) (h2:og.dst=some d) (h3:O d=.bool w) (x:∀hx,Lw n undef hx->Tk E ⟨dst,op,ty,pos,af,some (g,w)⟩ O ds hx v)
  (y:TD E l n fl hs ds Lw F (dK π) (putS O dst v) h):TD E l n fl hs ds Lw F (dK (m ::π)) O h:=by
 unfold dK;rw [hk];exact ⟨_,true,ho,HT h1 h2 h3,λe=>(by cases e),λ_=>⟨v,x,y⟩⟩
theorem tWLg{P:Program}{E:GE P}{l:List Oper}{n:Nat}{hs:GH}{ds:List Deferred}{Lw:Nat->Value->GH->Prop}{F:(Nat->Value)->GH->Prop}{π:List Nat}{O:Nat->Value}{h:GH}{m k g d:Nat}{dst:Option Nat}{op:Op}{ty:TypeId}{pos:String}{af:Array Edge}{w:Bool}{og:Oper}(hk:Kv m=(.w,k))(ho:l[k]? =some ⟨dst,op,ty,pos,af,some (g,w)⟩)(h1:l[g]? =some og)(h2:og.dst=some d)(h3:O d=.bool w)
  (x:BU E ⟨dst,op,ty,pos,af,some (g,w)⟩ O ds h λσ' ds' h'=>ds'=ds/\∃v,σ'=putS O dst v/\Lw n undef h'/\TD E l n false hs ds Lw F (dK π) (putS O dst v) h'):TD E l n false hs ds Lw F (dK (m ::π)) O h:=by
 unfold dK;rw [hk];exact ⟨_,true,ho,HT h1 h2 h3,λe=>(by cases e),λ_ hx hg=>by rw [hg.2 rfl];exact x⟩
def Ty(h:GH)(t:TypeId)(v:Value):Prop:=∀b,CP v=some b->∃p c f,h b=some (p,.cells c t f)
def Bz(h:GH)(t:TypeId)(v:Value)(xs:List Int):Prop:=AL h v 1 eI xs/\Ty h t v
theorem Bz.le{h h':GH}{t:TypeId}{v:Value}{xs:List Int}(x:Bz h t v xs)(l:h.Le h'):Bz h' t v xs:=⟨x.1.le l,λb hb=>by
 obtain ⟨p,c,f,q⟩:=x.2 b hb;exact ⟨p,c,f,l.keep q rfl⟩⟩
theorem Bz.nil(h:GH)(t:TypeId):Bz h t (.slice none 0 0) []:=⟨AL.nil _ _ _,λb hb=>by cases hb⟩
theorem Bz.own{h0 h:GH}{t:TypeId}{v:Value}{xs:List Int}(o:AO h0 h v t 1 eI xs):Bz h t v xs:=⟨o.sl,λb hb=>by
 rcases o with ⟨rfl,_⟩ | ⟨b1,cap,c,rfl,_,h2,_⟩
 ·cases hb
 ·simp only [CP,Option.some.injEq] at hb;subst hb;exact ⟨_,_,_,h2⟩⟩
theorem Bz.same{h h':GH}{t:TypeId}{w:Value}{xs:List Int}(x:Bz h t w xs)(key:∀b,CP w=some b->h' b=h b):Bz h' t w xs:=by
 refine ⟨?_,λb hb=>by rw [key b hb];exact x.2 b hb⟩;obtain ⟨a,cap,hv,hc,hm,he⟩:=x.1;refine ⟨a,cap,hv,hc,hm,λi hi=>?_⟩;obtain ⟨b,off,h1,h2⟩:=he i hi;exact ⟨b,off,h1,h2.same (key b (by rw [hv,h1];rfl))⟩
theorem Bz.grown{V:Type}{h h' h0:GH}{v v':Value}{t t':TypeId}{n:Nat}{enc:V->Array Value}{ys:List V}(g:Fy h h' v v')(o:AO h0 h v t' n enc ys)(ne:t'≠t){w:Value}{xs:List Int}(x:Bz h t w xs):Bz h' t w xs:=
 x.same λb hb=>by
  obtain ⟨p,c,f,q⟩:=x.2 b hb;rw [q];refine g.1 b _ q λe=>?_;rcases o with ⟨rfl,_⟩ | ⟨b1,cap,c1,rfl,_,h2,_⟩
  ·cases e
  ·simp only [CP,Option.some.injEq] at e;subst e;rw [q] at h2;cases h2;exact ne rfl
theorem Bz.keepX{X:Nat->Prop}{h h':GH}{t:TypeId}{w:Value}{xs:List Int}(x:Bz h t w xs)(k:Bp X h h')(n:∀b,CP w=some b->¬X b):Bz h' t w xs:=
 x.same λb hb=>by
  obtain ⟨p,c,f,q⟩:=x.2 b hb;rw [q];exact k.box q (n b hb) rfl
theorem Bz.store{h h':GH}{t t':TypeId}{w:Value}{xs:List Int}{r:Nat}{p:Bool}{c:Array Value}{f:Nat×Nat}(x:Bz h t w xs)(hr:h r=some (p,.cells c t' f))(ne:t'≠t)(ho:∀b,b≠r->h' b=h b):Bz h' t w xs:=
 x.same λb hb=>ho b λe=>by
  obtain ⟨p2,c2,f2,q⟩:=x.2 b hb;rw [e,hr] at q;cases q;exact ne rfl
def Bu(h:GH)(t:TypeId)(l:List Sl):Prop:=∀k,Bz h t (l.getD k Sl.z).1 (l.getD k Sl.z).2
theorem Bu.le{h h':GH}{t:TypeId}{l:List Sl}(x:Bu h t l)(e:h.Le h'):Bu h' t l:=λk=>(x k).le e
theorem Bu.nil(h:GH)(t:TypeId):Bu h t []:=λk=>by
 rw [BZ aD];exact Bz.nil _ _
theorem Ii{V:Type}(z:V)(a b:List V)(k:Nat):(a++b).getD k z=if k<a.length then a.getD k z else b.getD (k-a.length) z:=by
 simp only [List.getD_eq_getElem?_getD,List.getElem?_append];split <;> rfl
theorem Bu.app{h:GH}{t:TypeId}{l l':List Sl}(a:Bu h t l)(b:Bu h t l'):Bu h t (l++l'):=λk=>by
 rw [Ii];split
 ·exact a k
 ·exact b _
theorem Bu.one{h:GH}{t:TypeId}{x:Sl}(a:Bz h t x.1 x.2):Bu h t [x]:=λk=>by
 cases k with
 | zero=>exact a
 | succ k=>rw [BZ aD];exact Bz.nil _ _
theorem Bu.fine{h:GH}{t:TypeId}{l:List Sl}(a:Bu h t l):∀y ∈ l,(Je y).toList.all (·.oneCell')=true:=λy hy=>by
 obtain ⟨i,hi,e⟩:=List.mem_iff_getElem.1 hy;have z:=a i;rw [List.getD_eq_getElem?_getD,List.getElem?_eq_getElem hi] at z;have z2:Bz h t l[i].1 l[i].2:=z;rw [<-e];show ((l[i].1.oneCell') && true)=true;rw [(AL.one z2.1).2];rfl
theorem M4(a b:List Sl):Ax (a++b)=Ax a++Ax b:=by simp [Ax]
section
variable {V:Type} {hB:GH} {I:List V->(Nat->Prop)->GH->Prop} {S:GH->Prop} {X0 X X1:Nat->Prop} {h hc h':GH} {pre l:List V} {v v':Value}
def JC(hB:GH)(X0 X:Nat->Prop)(h:GH)(v:Value):Prop:=∀b,CP v=some b->¬X b/\(X0 b\/h b=none)/\hB b=none
theorem EO.old(y:EO hB I X0 h pre X hc){b:Nat}(e:hc b=none):X0 b\/h b=none:=by
 by_cases q:X0 b
 ·exact .inl q
 ·refine .inr ?_;cases hb:h b with
  | none=>rfl
  | some x=>
   obtain ⟨o',h1,_⟩:=y.keep b x.1 x.2 hb q;rw [e] at h1;cases h1
theorem EO.fresh(P:GF hB I)(y:EO hB I X0 h pre X hc)(o:∀b,CP v=some b->hc b=none):JC hB X0 X h v:=λb hb=>⟨P.off y.inv (o b hb),y.old (o b hb),y.base.nothing (o b hb)⟩
theorem JC.grown(f:JC hB X0 X h v)(P:GF hB I)(y:EO hB I X0 h pre X hc)(g:Fy hc h' v v'):JC hB X0 X h v':=λb hb=>by
 rcases g.2 with e | ⟨⟨r,e1,e2⟩,_⟩
 ·exact f b (e▸hb)
 ·rw [e1] at hb;cases hb;exact ⟨P.off y.inv e2,y.old e2,y.base.nothing e2⟩
theorem EO.app(P:GF hB I)(y:EO hB I X0 h pre X hc)(g:Fy hc h' v v')(f:JC hB X0 X h v):EO hB I X0 h pre X h':=by
 have lB:hB.Le h':=λb p o hb=>by
  obtain ⟨o1,h1,h2⟩:=y.base b p o hb;exact ⟨o1,g.1 b _ h1 λe=>(by rw [(f b e).2.2] at hb;cases hb),h2⟩
 refine ⟨P.stable _ _ hc h' y.inv (λb hb=>?_) lB,y.sub,λb p o hb hn=>?_,lB⟩
 ·obtain ⟨p,o,h1,_⟩:=P.dom _ _ _ b y.inv hb;rw [h1];exact g.1 b _ h1 λe=>(f b e).1 hb
 ·obtain ⟨o1,h1,h2⟩:=y.keep b p o hb hn;exact ⟨o1,g.1 b _ h1 λe=>(f b e).2.1.elim hn λq=>(by rw [q] at hb;cases hb),h2⟩
theorem EO.callL(y:EO hB I X0 h pre X hc)(f:JC hB X0 X h v){u:Value}(r:ET hB I S pre (λb=>X b\/CP v=some b) hc l u h') :
  ∃ok X',u=.bool ok/\(∀b,X' b->(X b\/CP v=some b)\/hc b=none)/\Bp (λb=>X b\/CP v=some b) hc h'/\(ok=true->EO hB I X0 h (pre++l) X' h')/\(ok=false->∀l',ET hB I S pre X0 h l' (.bool false) h'):=by
 obtain ⟨ok,X',hv,hs,hk,hl,h1,h2⟩:=r;have s:∀b,(X b\/CP v=some b)->X0 b\/h b=none:=λb q=>q.elim (y.sub b) λe=>(f b e).2.1;have kk:Bp X0 h h':=y.keep.trans s hk;have ss:=subX s y.keep hs;exact ⟨ok,X',hv,hs,hk,λe=>⟨h1 e,ss,kk,hl⟩,λe l'=>⟨false,X',rfl,ss,kk,hl,(λx=>by cases x),λ_=>h2 e⟩⟩
end
structure Pq{P:Program}(W:Wk P)(hB:GH)(yv:Value)(t:TypeId)(I:List (List Int)->(Nat->Prop)->GH->Prop)(S:GH->Prop)(all:List (List Int)):Prop where
 prom:GF hB I
 one:yv.cells=#[yv]
 call:∀pre p post X h v,all=pre++p ::post->I pre X h->hB.Le h->Bz h t v p->(∀b,CP v=some b->¬X b/\hB b=none)->Bw W yv #[v] h (ET hB I S pre (λb=>X b\/CP v=some b) h [p])
section
variable {P:Program} {E:GE P} {O:Nat->Value} {ds:List Deferred}
theorem SS{t0:TypeId}{all:List (List Int)}{hB hc:GH}{J:List (List Int)->(Nat->Prop)->GH->Prop}{Stop:Code->GH->Prop}{Y0:Nat->Prop}{par:Tmp}{f:Operand}{assign body:Code}{Q:Post}
  (hrd:E.rd=none) (hpar:Nat.blt par E.N=true) (hJ:GF hB J) (hB0:hB.Le hc) (j0:J [] Y0 hc)
  (hS:∀c (h h':GH) l lo,Stop c h->h l=some (true,.loop lo)->(∀b,b≠l->h' b=h b)->Stop c h')
  (src:∀(yv:Value)(I:List (List Int)->(Nat->Prop)->GH->Prop)(Sp:GH->Prop)(X:Nat->Prop)(h:GH),Pq E.wk hB yv t0 I Sp all->hB.Le h->I [] X h->Bw E.wk (AN O f) #[yv] h λ_ h'=>YEnd hB I Sp all X h h')
  (round:∀(l d:Nat)(lo:Loop)(pre:List (List Int))(p:List Int)(post:List (List Int))(Y:Nat->Prop)(h:GH)(v:Value),all=pre++p ::post->J pre Y h->hB.Le h->hB l=none->¬Y l->h l=some (true,.loop lo)->Bz h t0 v p->(∀b,CP v=some b->¬Y b/\hB b=none)->
   Tr ⟨E.wk,E.fn,some l,E.N⟩ assign (upd O par v) [] h λe σ' ds' h1=>e=.normal/\h1 l=some (true,.loop lo)/\∀h2,h2 l=some (true,.loop { lo with state:=.busy })->(∀b,b≠l->h2 b=h1 b)->
    Tr ⟨E.wk,E.fn,some l,E.N⟩ body σ' ds' h2 (Uq hB J Stop (pre++[p]) (λb=>Y b\/CP v=some b) h l lo))
  (fin:∀(d l:Nat)(h':GH),hB.Le h'->hB d=none->hB l=none->hc d=none->h' d=some (true,.deferred (some []))->
   (∀Y,J all Y h'->(∀b,Y b->b≠d)->Q .normal O ({ target:=.collected d,args:=#[] } ::ds) h')/\
   (∀c,Stop c h'->match c with
    | .exit id=>Q (.exit id) O ({ target:=.collected d,args:=#[] } ::ds) h'
    | .ret=>Q .ret O ({ target:=.collected d,args:=#[] } ::ds) h'
    | _=>False)):Tr E (.rangeFunc f #[par] assign body) O ds hc Q:=by
 refine L1 hrd λt d l hs hd hl hne=>?_;have hl':hB l=none:=hB0.nothing hl;have hd':hB d=none:=hB0.nothing hd;let lo:Loop:={ state:=.ready,pending:=none,fn:=E.fn,tmps:=t,params:=#[par],assign,body,defers:=d };have nYl:¬Y0 l:=hJ.off j0 hl;have nYd:¬Y0 d:=hJ.off j0 hd;have hL1:((hc.set d true (.deferred (some []))).set l true (.loop lo)) l=some (true,.loop lo):=GH.set_same _ _ _ _;have hL2:((hc.set d true (.deferred (some []))).set l true (.loop lo)) d=some (true,.deferred (some [])):=by rw [GH.set_ne _ _ _ (Ne.symm hne)];exact GH.set_same _ _ _ _
 have hL3:∀b,b≠l->b≠d->((hc.set d true (.deferred (some []))).set l true (.loop lo)) b=hc b:=λb h1 h2=>by rw [GH.set_ne _ _ _ h1,GH.set_ne _ _ _ h2]
 have hLB:hB.Le ((hc.set d true (.deferred (some []))).set l true (.loop lo)):=(hB0.trans (GH.Le.new hd _ _)).trans (GH.Le.new (by rw [GH.set_ne _ _ _ hne];exact hl) _ _);have hI0:Nt J l d lo [] (λb=>Y0 b\/b=l\/b=d) ((hc.set d true (.deferred (some []))).set l true (.loop lo)):=by
  refine ⟨Y0,hJ.stable _ _ hc _ j0 (λb hb=>hL3 b (λe=>nYl (e▸hb)) (λe=>nYd (e▸hb))) hLB,λb=>Iff.rfl,nYl,nYd,hL1,hL2⟩
 have prom:GF hB (Nt J l d lo):=by
  refine ⟨?_,?_⟩
  ·rintro pre X h b ⟨Y,j,hX,_,_,h1,h2⟩ hb;rcases (hX b).1 hb with h3 | rfl | rfl
   ·exact hJ.dom _ _ _ _ j h3
   ·exact ⟨_,_,h1,rfl⟩
   ·exact ⟨_,_,h2,rfl⟩
  ·rintro pre X h h' ⟨Y,j,hX,n1,n2,h1,h2⟩ same lB;refine ⟨Y,hJ.stable _ _ h h' j (λb hb=>same b ((hX b).2 (.inl hb))) lB,hX,n1,n2,?_,?_⟩
   ·rw [same l ((hX l).2 (.inr (.inl rfl)))];exact h1
   ·rw [same d ((hX d).2 (.inr (.inr rfl)))];exact h2
 have yk:Pq E.wk hB (.func (.yield l) #[] #[]) t0 (Nt J l d lo) (SB Stop l d lo) all:=by
  refine ⟨prom,rfl,?_⟩;rintro pre p post X h v hall ⟨Y,j,hX,n1,n2,h1,h2⟩ lB hsv hvX;have nvl:CP v≠some l:=λe=>by obtain ⟨_,_,_,q⟩:=hsv.2 l e;rw [h1] at q;cases q
  have nvd:CP v≠some d:=λe=>by obtain ⟨_,_,_,q⟩:=hsv.2 d e;rw [h2] at q;cases q
  refine O8 h1 rfl ?_;have ef:(lo.params.zip #[v]).foldl (λtmps x=>tmps.setIfInBounds x.1 x.2) lo.tmps=t.setIfInBounds par v:=by simp [lo]
  rw [ef];show Bb E.wk l E.fn (t.setIfInBounds par v) assign body h _;have hs':=hs.put hpar v;refine Nm (N:=E.N) hs'.1 ?_;have e0:(λi=>(t.setIfInBounds par v).getD i undef)=upd O par v:=funext hs'.2;rw [e0];refine KN ?_ (round l d lo pre p post Y h v hall j lB hl' n1 h1 hsv λb hb=>⟨λq=>(hvX b hb).1 ((hX b).2 (.inl q)),(hvX b hb).2⟩);rintro e σ' ds' ha ⟨rfl,ha1,hb⟩;refine ⟨rfl,lo,ha1,rfl,?_⟩;refine KN ?_ (hb _ (GH.set_same _ _ _ _) λb hb=>GH.set_ne _ _ _ hb);rintro e σ2 ds2 h3 ⟨g1,Y',g2,g3,g4,g5⟩;have hd3:h3 d=some (true,.deferred (some [])):=g3.box h2 (λq=>q.elim (λq=>q.elim n2 nvd) (λe=>hne e.symm)) rfl;have nl:¬Y' l:=λq=>(g2 l q).elim (λq=>q.elim n1 nvl) λe=>by rw [h1] at e;cases e
  have nd:¬Y' d:=λq=>(g2 d q).elim (λq=>q.elim n2 nvd) λe=>by rw [h2] at e;cases e
  have key:∀(lo2:Loop)(ok:Bool),(if ok then J (pre++[p]) Y' (h3.set l true (.loop lo2))/\lo2=lo else SB Stop l d lo (h3.set l true (.loop lo2)))->ET hB (Nt J l d lo) (SB Stop l d lo) pre (λb=>X b\/CP v=some b) h [p] (.bool ok) (h3.set l true (.loop lo2)):=by
   intro lo2 ok hok;refine ⟨ok,λb=>Y' b\/b=l\/b=d,rfl,?_,?_,?_,?_,?_⟩
   ·rintro b (hb | rfl | rfl)
    ·exact (g2 b hb).imp (λq=>q.imp (λq=>(hX b).2 (.inl q)) id) id
    ·exact .inl (.inl ((hX _).2 (.inr (.inl rfl))))
    ·exact .inl (.inl ((hX _).2 (.inr (.inr rfl))))
   ·intro b q o hb hn;have nb:b≠l:=λe=>hn (.inl ((hX b).2 (.inr (.inl e))));rw [GH.set_ne _ _ _ nb];exact g3 b q o hb λq=>q.elim (λz=>z.elim (λz=>hn (.inl ((hX b).2 (.inl z)))) λz=>hn (.inr z)) nb
   ·exact g4.upd hl' λb hb=>GH.set_ne _ _ _ hb
   ·rintro rfl;simp only [if_true] at hok;obtain ⟨hj,rfl⟩:=hok;exact ⟨Y',hj,λb=>Iff.rfl,nl,nd,GH.set_same _ _ _ _,by rw [GH.set_ne _ _ _ (Ne.symm hne)];exact hd3⟩
   ·rintro rfl;simpa using hok
  have js:∀(lo2:Loop),J (pre++[p]) Y' h3->J (pre++[p]) Y' (h3.set l true (.loop lo2)):=λlo2 hj=>hJ.store hj nl (λb hb=>GH.set_ne _ _ _ hb) (g4.upd hl' λb hb=>GH.set_ne _ _ _ hb);have ss:∀c (lo2:Loop),Stop c h3->Stop c (h3.set l true (.loop lo2)):=λc lo2 hc=>hS c h3 _ l _ hc g1 λb hb=>GH.set_ne _ _ _ hb;refine ⟨_,g1,?_⟩;cases e with
  | normal=>exact key _ true (by simp only [if_true];exact ⟨js _ g5,rfl⟩)
  | exit id=>exact key _ false (by simp only [Bool.false_eq_true,if_false];exact ⟨_,ss _ _ g5,GH.set_same _ _ _ _,by rw [GH.set_ne _ _ _ (Ne.symm hne)];exact hd3⟩)
  | ret=>exact key _ false (by simp only [Bool.false_eq_true,if_false];exact ⟨_,ss _ _ g5,GH.set_same _ _ _ _,by rw [GH.set_ne _ _ _ (Ne.symm hne)];exact hd3⟩)
  | goto _=>exact g5.elim
  | panic _=>exact g5.elim
  | outgrown=>exact g5.elim
 refine (src _ _ _ _ _ yk hLB hI0).mono ?_;rintro v h' ⟨X',hs',hk,hl2,hor⟩;rcases hor with ⟨Y,j,hX,n1,n2,h1,h2⟩ | ⟨c,hst,h1,h2⟩
 ·refine ⟨lo,h1,rfl,?_⟩;show Q .normal O _ _;have hB':=hl2.upd hl' (λb hb=>GH.set_ne h' true (.loop { lo with state:=.exhausted }) hb);refine (fin d l _ hB' hd' hl' hd (by rw [GH.set_ne _ _ _ (Ne.symm hne)];exact h2)).1 Y (hJ.store j n1 (λb hb=>GH.set_ne _ _ _ hb) hB') λb hb e=>n2 (e▸hb)
 ·refine ⟨_,h1,rfl,?_⟩;have hB':=hl2.upd hl' (λb hb=>GH.set_ne h' true (.loop { { lo with state:=.done,pending:=some c } with state:=.exhausted }) hb)
  have:=(fin d l _ hB' hd' hl' hd (by rw [GH.set_ne _ _ _ (Ne.symm hne)];exact h2)).2 c (hS c h' _ l _ hst h1 λb hb=>GH.set_ne _ _ _ hb)
  cases c with
  | exit id=>exact this
  | ret=>exact this
  | _=>exact this.elim
end
def HZ(l:List Int)(k:Int):Bool:=l.any (λx=>decide (k=x))
def BD(jobs:List Int):Nat->List Int->List (List Int)
 | 0,l=>[l]
 | f+1,l=>l ::jobs.flatMap λk=>if HZ l k=true then [] else BD jobs f (l++[k])
def CF(jobs:List Int):Nat->List Int->Int->List (List Int)
 | 0,_,_=>[]
 | f+1,l,k=>if HZ l k=true then [] else BD jobs f (l++[k])
theorem FT(jobs:List Int)(f:Nat)(l:List Int):BD jobs f l=l ::jobs.flatMap (CF jobs f l):=by
 cases f with
 | zero=>simp [BD,CF]
 | succ f=>rfl
def C4(jobs:List Int):List (List Int):=BD jobs jobs.length []
def LS(jobs l:List Int):Nat:=(jobs.filter λk=> !HZ l k).length
theorem hasI_app(l:List Int)(k j:Int):HZ (l++[k]) j=(HZ l j || decide (j=k)):=by simp [HZ]
theorem N5{jobs l:List Int}{k:Int}(hk:k ∈ jobs)(h:HZ l k=false):LS jobs (l++[k])<LS jobs l:=by
 unfold LS;have key:∀js:List Int,(js.filter λj=> !HZ (l++[k]) j).length<=(js.filter λj=> !HZ l j).length/\(k ∈ js->(js.filter λj=> !HZ (l++[k]) j).length<(js.filter λj=> !HZ l j).length):=by
  intro js
  induction js with
  | nil=>exact ⟨Nat.le_refl _,λe=>by cases e⟩
  | cons j js ih=>
   obtain ⟨ih1,ih2⟩:=ih;rw [List.filter_cons,List.filter_cons,hasI_app];by_cases e:j=k
   ·subst e;simp only [h,Bool.false_or,decide_true,Bool.not_true,Bool.false_eq_true,if_false,Bool.not_false,if_true,List.length_cons];exact ⟨aA,λ_=>aA⟩
   ·rw [decide_eq_false e,Bool.or_false];split
    ·simp only [List.length_cons];exact ⟨aA,λq=>by have:=ih2 ((List.mem_cons.1 q).resolve_left λz=>e z.symm);omega⟩
    ·exact ⟨ih1,λq=>ih2 ((List.mem_cons.1 q).resolve_left λz=>e z.symm)⟩
 exact (key jobs).2 hk
theorem Ww{jobs:List Int}{i:Nat}{F:Int->List (List Int)}(hi:i<jobs.length):(jobs.take (i+1)).flatMap F=(jobs.take i).flatMap F++F (jobs.getD i 0):=by
 rw [Dd 0 hi,List.flatMap_append];simp
theorem CN.job{all pre:List (List Int)}{jobs:List Int}{f i:Nat}{l:List Int}(w:CN all pre (BD jobs f l))(hi:i<jobs.length):CN all (pre++[l]++(jobs.take i).flatMap (CF jobs f l)) (CF jobs f l (jobs.getD i 0)):=by
 rw [FT] at w;have w2:CN all pre ([l]++((jobs.take i).flatMap (CF jobs f l)++(CF jobs f l (jobs.getD i 0)++(jobs.drop (i+1)).flatMap (CF jobs f l)))):=by
  rw [<-List.append_assoc (List.flatMap _ _),<-Ww hi,<-List.flatMap_append,List.take_append_drop];exact w
 exact (w2.right.right).left
theorem CN.head{all pre:List (List Int)}{jobs:List Int}{f:Nat}{l:List Int}(w:CN all pre (BD jobs f l)):CN all pre [l]:=by
 rw [FT] at w;exact CN.left (a:=[l]) w
section
variable {jobs l:List Int} {f f' i:Nat} {k:Int} {all pre:List (List Int)}
theorem Wx(hk:k ∈ jobs)(h:HZ l k=false)(hu:LS jobs l<=f):∃f',f=f'+1:=⟨f-1,by have:=N5 hk h;omega⟩
theorem MJ(hf:f=f'+1)(h:HZ l k=false):CF jobs f l k=BD jobs f' (l++[k]):=by
 subst hf;exact if_neg (by rw [h];simp)
theorem Rc(h:HZ l k=true):CF jobs f l k=[]:=by
 cases f with
 | zero=>rfl
 | succ f=>exact if_pos h
theorem Re(hi:i<jobs.length)(h:HZ l (jobs.getD i 0)=true):pre++[l]++(jobs.take (i+1)).flatMap (CF jobs f l)=pre++[l]++(jobs.take i).flatMap (CF jobs f l):=by
 rw [Ww hi,Rc h,List.append_nil]
theorem T8(hi:i<jobs.length)(hf:f=f'+1)(h:HZ l (jobs.getD i 0)=false):pre++[l]++(jobs.take (i+1)).flatMap (CF jobs f l)=(pre++[l]++(jobs.take i).flatMap (CF jobs f l))++BD jobs f' (l++[jobs.getD i 0]):=by
 rw [Ww hi,MJ hf h,<-List.append_assoc]
theorem Zk(hi:jobs.length<=i):pre++BD jobs f l=pre++[l]++(jobs.take i).flatMap (CF jobs f l):=by
 rw [List.take_of_length_le hi,FT];simp
theorem CN.go(w:CN all pre (BD jobs f l))(hi:i<jobs.length)(hf:f=f'+1)(h:HZ l (jobs.getD i 0)=false):CN all (pre++[l]++(jobs.take i).flatMap (CF jobs f l)) (BD jobs f' (l++[jobs.getD i 0])):=by
 have z:=w.job hi
 rwa [MJ hf h] at z
end
end Go.Ns
namespace Go.Ns
open Go.Conc
theorem HI.mem{h:GH}{l:List Sl}(a:HI h l){x:Sl}(hx:x ∈ l):AL h x.1 1 eI x.2:=by
 obtain ⟨i,hi,e⟩:=List.mem_iff_getElem.1 hx;have z:=a i;rw [List.getD_eq_getElem?_getD,List.getElem?_eq_getElem hi] at z;have z2:AL h l[i].1 1 eI l[i].2:=z;rw [<-e];exact z2
theorem Bu.all{h:GH}{t:TypeId}{l:List Sl}(a:Bu h t l):HI h l:=λk=>(a k).1
theorem Bu.drop1{h:GH}{t:TypeId}{l:List Sl}(a:Bu h t l):Bu h t (l.drop 1):=λk=>by
 rw [List.getD_eq_getElem?_getD,List.getElem?_drop,<-List.getD_eq_getElem?_getD];exact a (1+k)
theorem Wy{l:List Sl}{k:Nat}(h:k<l.length-1):(l.drop 1).getD k Sl.z ∈ l:=List.mem_of_mem_drop (BO (by rw [List.length_drop];exact h))
section
variable (G:List Int->Int) (l:List (List Int))
def DC:Nat->List Int×Int
 | 0=>(l.getD 0 [],G (l.getD 0 []))
 | k+1=>if G ((l.drop 1).getD k [])<(DC k).2 then ((l.drop 1).getD k [],G ((l.drop 1).getD k [])) else DC k
def Cw:List Int:=(DC G l (l.length-1)).1
end
section
variable {G:List Int->Int} {l:List Sl} {k:Nat}
theorem Wz(l:List Sl):(Ax l).length=l.length:=List.length_map _
theorem N6(hk:k<l.length-1):((Ax l).drop 1).getD k []=((l.drop 1).getD k Sl.z).2:=by
 have e:(Ax l).drop 1=Ax (l.drop 1):=by unfold Ax;rw [List.map_drop]
 rw [e,Fc (by rw [List.length_drop];exact hk)]
theorem MK(hk:k<l.length-1)(h:G ((l.drop 1).getD k Sl.z).2<(DC G (Ax l) k).2):DC G (Ax l) (k+1)=(((l.drop 1).getD k Sl.z).2,G ((l.drop 1).getD k Sl.z).2):=by
 rw [DC,N6 hk,if_pos h]
theorem ML(hk:k<l.length-1)(h:¬G ((l.drop 1).getD k Sl.z).2<(DC G (Ax l) k).2):DC G (Ax l) (k+1)=DC G (Ax l) k:=by
 rw [DC,N6 hk,if_neg h]
theorem VC(hk:k=l.length-1):Cw G (Ax l)=(DC G (Ax l) k).1:=by unfold Cw;rw [Wz,hk]
end
theorem N7{G:List Int->Int}{l:List (List Int)}:∀k,k<l.length->(DC G l k).1 ∈ l
 | 0,h=>BO h
 | k+1,h=>by
  unfold DC;split
  ·exact List.mem_of_mem_drop (BO (by rw [List.length_drop];omega))
  ·exact N7 k aA
theorem W0{G:List Int->Int}{l:List (List Int)}(h:0<l.length):Cw G l ∈ l:=N7 _ aA
theorem LT:∀(n k:Nat),k<n->(CA n).getD k 0=(k:Int)
 | 0,k,h=>absurd h (Nat.not_lt_zero _)
 | n+1,k,h=>by
  have hl:=Ce n;rw [CA,List.getD_eq_getElem?_getD];by_cases e:k<n
  ·rw [List.getElem?_append_left aA,<-List.getD_eq_getElem?_getD];exact LT n k e
  ·have e2:k=n:=aA
   subst e2;rw [List.getElem?_append_right aA,hl,Nat.sub_self];rfl
theorem JD{n:Nat}{x:Int}(h:x ∈ CA n):0<=x/\x<n:=by
 obtain ⟨i,hi,e⟩:=List.mem_iff_getElem.1 h;have hl:=Ce n
 have:=LT n i aA
 rw [List.getD_eq_getElem?_getD,List.getElem?_eq_getElem hi,Option.getD_some,e] at this;omega
theorem J0{jobs:List Int}:∀(f:Nat)(l:List Int),(∀x ∈ l,x ∈ jobs)->∀r ∈ BD jobs f l,(∀x ∈ r,x ∈ jobs)/\r.length<=l.length+f
 | 0,l,h,r,hr=>by
  rw [BD,List.mem_singleton] at hr;subst hr;exact ⟨h,Nat.le_refl _⟩
 | f+1,l,h,r,hr=>by
  rw [BD,List.mem_cons] at hr;rcases hr with rfl | hr
  ·exact ⟨h,aA⟩
  ·obtain ⟨k,hk,hr⟩:=List.mem_flatMap.1 hr;split at hr
   ·cases hr
   ·have:=J0 f (l++[k]) (λx hx=>by
     rcases List.mem_append.1 hx with hx | hx
     ·exact h x hx
     ·rw [List.mem_singleton.1 hx];exact hk) r hr
    refine ⟨this.1,?_⟩;have e:=this.2;rw [List.length_append,List.length_singleton] at e;omega
theorem T9{jobs r:List Int}(h:r ∈ C4 jobs):(∀x ∈ r,x ∈ jobs)/\r.length<=jobs.length:=by
 have:=J0 jobs.length [] (λx hx=>by cases hx) r h
 simpa using this
def UA(nj:Nat)(l:List Int):Prop:=(∀k,k<l.length->0<=l.getD k 0/\l.getD k 0<nj)/\l.length<=4
theorem J1{n:Nat}{jobs r:List Int}(hj:∀x ∈ jobs,0<=x/\x<(n:Int))(hl:jobs.length<=4)(h:r ∈ C4 jobs):UA n r:=by
 obtain ⟨h1,h2⟩:=T9 h;exact ⟨λk hk=>hj _ (h1 _ (BO hk)),aA⟩
theorem J2{jobs:List Int}(hj:jobs.length<=4):∀(f:Nat)(l:List Int),f<=4->(BD jobs f l).length<=5 ^ f*1
 | 0,l,_=>Nat.le_refl _
 | f+1,l,hf=>by
  have key:∀js:List Int,(js.flatMap λk=>if HZ l k=true then [] else BD jobs f (l++[k])).length<=js.length*5 ^ f:=by
   intro js
   induction js with
   | nil=>simp
   | cons j js ih=>
    rw [List.flatMap_cons,List.length_append,List.length_cons,Nat.add_mul,Nat.one_mul,Nat.add_comm];refine Nat.add_le_add ih ?_;split
    ·exact Nat.zero_le _
    ·have:=J2 hj f (l++[j]) aA;omega
  rw [BD,List.length_cons];have h1:=key jobs;have h2:jobs.length*5 ^ f<=4*5 ^ f:=Nat.mul_le_mul_right _ hj;have h3:1<=5 ^ f:=Nat.one_le_pow _ _ aC;rw [Nat.pow_succ];omega
theorem Ha{jobs:List Int}(hj:jobs.length<=4):(C4 jobs).length<=625:=by
 have h:=J2 hj jobs.length [] hj;have h2:5 ^ jobs.length<=5 ^ 4:=Nat.pow_le_pow_right aC hj;unfold C4;omega
end Go.Ns
namespace Go.Ns
open Go.Conc
section
variable {P:Program} {M:Type} {F:Ms P M} {i:Option (Cj M)} {O:Nat->Value} {ds:List Deferred} {h:GH} {Q:PU M}
theorem trI_td{id:Nat}{l:List Oper}(n:Nat)(fl:Bool)(π:List Nat)(hm:P.follows .mixedOrders=true)
  (ok:PE l (l.take n) 0 [] (λcls=>PG P F.N l n cls fl (dK π))=true) (x:TD (F.env i) l n fl h ds (λ_ _ _=>True) (λσ' h'=>GG F l.toArray (l.drop n) i σ' ds h' Q) (dK π) O h):OT F (.region id l.toArray true) i O ds h Q:=by
 obtain ⟨cls,h1⟩:=Hr ok;intro b k cs L t hb hr hl hs hq;exact Yb (E:=F.env i) n cls fl (dK π) hm (λ_ _ _ _ _ y=>y) trivial h1 x hb hr hs λσ' h' f t' ht'=>f n b k cs L t' (λj=>aD) hb hr hl ht' hq
def JE(P:Program):Frame:={ (default:Frame) with fn:=P.funcs.size,defers:=[],mode:=.panicking [goexitEntry] }
theorem quit_bot:QuitsIn P 1 (G (JE P) []):=.inr ⟨rfl,{ G (JE P) [] with status:=.finished },λw=>by
 show unwind P false (JE P) [] none w=_;have hcat:(JE P).catches P=false:=by
  unfold Frame.catches
  have:P.funcs[(JE P).fn]? =none:=Array.getElem?_eq_none (Nat.le_refl _)
  rw [this];rfl
 have hd:(JE P).defers=[]:=rfl;have hmd:(JE P).mode=.panicking [goexitEntry]:=rfl;unfold unwind;simp only [hd,hmd,hcat]
 rfl,rfl⟩
theorem VD{fn:Func}{f:FuncId}{args:Array Value}{t:Array Value}{ops:Array Oper}(hf:P.funcs[f]? =some fn)(hres:fn.results=#[]):QuitsIn P 4 (G (Cc (Frame.enter P f args .deferred) t [] [.inRegion ops []]) [JE P]):=by
 refine .inr ⟨rfl,G (Cc (Frame.enter P f args .deferred) t [] []) [JE P],λw=>by rw [Ay];simp [stepG.exec,Cc,G],?_⟩;refine .inr ⟨rfl,G (ES (Frame.enter P f args .deferred) t [] []) [JE P],λw=>by rw [Ay];simp [stepG.exec,Cc,ES,G,Frame.enter],?_⟩;refine .inr ⟨rfl,G (JE P) [],λw=>?_,quit_bot⟩;show unwind P false (ES (Frame.enter P f args .deferred) t [] []) [JE P] none w=_;have hfn:(ES (Frame.enter P f args .deferred) t [] []).fn=f:=rfl;have hk:(ES (Frame.enter P f args .deferred) t [] []).kind=.deferred:=rfl;have hmd:(ES (Frame.enter P f args .deferred) t [] []).mode=.returning:=rfl;have hd:(ES (Frame.enter P f args .deferred) t [] []).defers=[]:=rfl;have r1:∀t,(results fn t).runT P w #[]=(.ok (.tuple #[]) w,#[]):=λt=>by
  unfold results;rw [hres];simp only [Array.mapM_empty];rfl
 unfold unwind;simp only [hd,hmd,hfn,hf,r1,GStep.after,doReturn,hk,seen_none];rfl
def JF(F:Ms P M)(R:Code)(args:Array Value)(i:Option (Cj M))(O:Nat->Value)(h:GH):Prop:=∀t,BS t F.N O->(F.wk i).K (G (Cc (Frame.enter P F.fn args .deferred) t [] [.code R]) [JE P]) h
theorem M5{fn:Func}{c R:Code}{s:Cj M}{ars cap args:Array Value}(hm:F.main=false)(hrd:F.rd=none)(ha:ars++cap=args)(hf:P.funcs[F.fn]? =some fn)(hc:AM fn=true)(hb:fn.body=some (.seq c R))(hN:F.N=fn.ntmps)(hsz:args.size<=fn.ntmps)(hs:¬s.isDone)
  (x:OT F c (some s) (λi=>args.getD i undef) [] h λi e O ds h=>e=.normal/\ds=[]/\JF F R args i O h):FK P F.Rep F.W.K s false (born P { target:=.fn (.func F.fn) cap,args:=ars }) h:=by
 have hwk:∀s,(F.wk (some s)).K=EB P false (IO P F.Rep F.W.K s false):=λs=>by show EB P F.main (IO P F.Rep F.W.K s F.main)=_;rw [hm]
 rw [Gq hs];refine Lp _ _ _ _ rfl λw f=>⟨G (Frame.enter P F.fn args .deferred) [JE P],w,#[],h,?_,Bg.refl f,?_⟩
 ·subst ha;have hi:(invoke (.fn (.func F.fn) cap) ars).runT P w #[]=(.ok (.enter F.fn (ars++cap)) w,#[]):=Tz hf hc w;show callDeferred P (JE P) [] none { target:=.fn (.func F.fn) cap,args:=ars } w=_;unfold callDeferred;rw [if_neg aD];simp only [hi,seen_none];rfl
 have e0:Frame.enter P F.fn args .deferred=Cc (Frame.enter P F.fn args .deferred) (args++Array.replicate (fn.ntmps-args.size) undef) [] [.code (.seq c R)]:=by simp [Frame.enter,Cc,hf,hb]
 rw [e0,<-hwk s];refine Wk.go (Cc (Frame.enter P F.fn args .deferred) (args++Array.replicate (fn.ntmps-args.size) undef) [] (.code c ::.code R ::[])) (λw=>by rw [Ay];simp [stepG.exec,Cc,G]) ?_;refine x (Frame.enter P F.fn args .deferred) [.code R] [JE P] (λ_ _ _ _ _=>False) _ rfl hrd.symm (λi=>⟨λ_ _ _ q=>q.elim,λ_ _ _ _ q=>q.elim,λ_ _ _ _ _ _ q=>q.elim⟩) ⟨by rw [hN];simp;omega,λi=>?_⟩ ?_
 ·by_cases hi:i<args.size
  ·simp [Array.getD_eq_getD_getElem?,Array.getElem?_append_left hi]
  ·simp only [Array.getD_eq_getD_getElem?];rw [Array.getElem?_append_right aA,Array.getElem?_eq_none (show args.size<=i by omega),Array.getElem?_replicate];split <;> rfl
 ·rintro i e O ds h' ⟨rfl,rfl,z⟩ t' ht';exact z t' ht'
theorem Zl{fn:Func}{id:Nat}{o1 o2:Oper}{args:Array Value}{c:Nat}{m:M}{v z:Value}{hm:GH}{h1:GH}(hmn:F.main=false)(hrd:F.rd=none)(hf:P.funcs[F.fn]? =some fn)(hres:fn.results=#[])
  (hg1:o1.guard=none) (hd1:Cx o1.dst F.N=true) (hg2:o2.guard=none) (hdf1:C0 o1.op=false) (hdf:C0 o2.op=false) (hd2:Cx o2.dst F.N=true)
  (x:BU (F.env (some (.send c m .done))) o1 O [] h λσ' ds' h'=>ds'=[]/\(∀w,(execOp (AN σ') o2).runT P w #[]=(.ok (.comm #[scase c v z] true .send) w,#[]))/\GH.Split h' h1 hm/\F.Rep c m v hm) :
  JF F (.region id [o1,o2].toArray false) args (some (.send c m .done)) O h:=by
 intro t hs;refine Wk.go (Cc (Frame.enter P F.fn args .deferred) t [] (.inRegion [o1,o2].toArray [0,1] ::[])) (λw=>by rw [Ay];simp [stepG.exec,Cc,G,List.range_eq_range',Array.range];rfl) ?_;refine KO (E:=F.env (some (.send c m .done))) (o:=o1) (rest:=[1]) rfl (by simp [Region.wanted,hg1]) (.inr hdf1) hd1 hs x ?_;rintro σ' ds' h' ⟨rfl,hr,hsp,hrep⟩ t' ht';refine EB.stop ⟨_,[JE P],v,z,hm,h1,rfl,⟨λw fw=>?_,hsp,hrep,4,?_⟩⟩
 ·rw [hmn];exact Tw ht' rfl (by simp [Region.wanted,hg2]) (.inr hdf) (hr w)
 ·rw [C1 (ops:=[o1,o2].toArray) (i:=1) (o:=o2) rfl];exact VD hf hres
theorem Zm{dst:Option Nat}{x:Operand}{tys:Array TypeId}{ty:TypeId}{pos:String}{af:Array Edge}{gd:Option (Nat×Bool)}{ch s r:Nat}{w:World}(hx:AN O x=.chan (some ch))(hw:w.heap[ch]? =some (.chan 0 #[] false s r false)) :
  (execOp (AN O) ⟨dst,.call ⟨.builtin .close,#[x],tys⟩,ty,pos,af,gd⟩).runT P w #[]=(.ok (.value (.tuple #[])) { w with heap:=w.heap.setIfInBounds ch (.chan 0 #[] true s r false) },#[⟨.obj ch,false,true⟩,⟨.obj ch,true,true⟩]):=by
 have q:execOp (AN O) ⟨dst,.call ⟨.builtin .close,#[x],tys⟩,ty,pos,af,gd⟩=builtin .close tys ty (#[x].map fun | .const _=>true | _=>false) (#[x].map (AN O)):=by
  show (resolve (AN O) _ ty).bind _=_;unfold resolve;rfl
 have e:(#[x].map (AN O))=#[Value.chan (some ch)]:=by simp [hx]
 rw [q,e];show Sem.runT P (.getObj ch λo=>_) w #[]=_;unfold Sem.runT;rw [hw];show Sem.runT P (.setObj ch (.chan 0 #[] true s r false) _) w _=_;unfold Sem.runT;rw [hw];rfl
theorem Pr{fn:Func}{id:Nat}{o1:Oper}{dst:Option Nat}{xo:Operand}{tys:Array TypeId}{ty:TypeId}{pos:String}{af:Array Edge}{args:Array Value}{c:Nat}(hmn:F.main=false)(hf:P.funcs[F.fn]? =some fn)(hres:fn.results=#[])
  (hg1:o1.guard=none) (hd1:Cx o1.dst F.N=true) (hdf1:C0 o1.op=false)
  (x:BU (F.env (some (.close c .done))) o1 O [] h λσ' ds' _=>ds'=[]/\AN σ' xo=.chan (some c)) :
  JF F (.region id [o1,⟨dst,.call ⟨.builtin .close,#[xo],tys⟩,ty,pos,af,none⟩].toArray false) args (some (.close c .done)) O h:=by
 intro t hs;refine Wk.go (Cc (Frame.enter P F.fn args .deferred) t [] (.inRegion [o1,⟨dst,.call ⟨.builtin .close,#[xo],tys⟩,ty,pos,af,none⟩].toArray [0,1] ::[])) (λw=>by rw [Ay];simp [stepG.exec,Cc,G,List.range_eq_range',Array.range];rfl) ?_;refine KO (E:=F.env (some (.close c .done))) (o:=o1) (rest:=[1]) rfl (by simp [Region.wanted,hg1]) (.inr hdf1) hd1 hs x ?_;rintro σ' ds' h' ⟨rfl,hx⟩ t' ht';refine EB.stop ⟨_,[JE P],Cc (Frame.enter P F.fn args .deferred) (WJ t' dst (.tuple #[])) [] [.inRegion [o1,⟨dst,.call ⟨.builtin .close,#[xo],tys⟩,ty,pos,af,none⟩].toArray []],[JE P],rfl,⟨λw s r fw hw=>?_,rfl,4,VD hf hres⟩⟩;rw [hmn,PW ht' (ops:=[o1,⟨dst,.call ⟨.builtin .close,#[xo],tys⟩,ty,pos,af,none⟩].toArray) (n:=1) (o:=⟨dst,.call ⟨.builtin .close,#[xo],tys⟩,ty,pos,af,none⟩) rfl (by simp [Region.wanted]) (.inr rfl)];simp only [stepG.apply,Zm hx hw,if_true];have hk:((Cc (Frame.enter P F.fn args .deferred) t' [] [.inRegion [o1,⟨dst,.call ⟨.builtin .close,#[xo],tys⟩,ty,pos,af,none⟩].toArray [1]]).kind==CallKind.early)=false:=rfl;rw [C1 (ops:=[o1,⟨dst,.call ⟨.builtin .close,#[xo],tys⟩,ty,pos,af,none⟩].toArray) (i:=1) rfl];simp only [hk,Bool.false_eq_true,if_false];show GStep.go _ _ (seen P _ _++ #[])=_;rw [Wd];rfl
end
end Go.Ns
namespace Go.Ns
open Go.Conc
theorem Bu.at{h:GH}{t:TypeId}{l:List Sl}(a:Bu h t l){x:Sl}(hx:x ∈ l):Bz h t x.1 x.2:=by
 obtain ⟨i,hi,e⟩:=List.mem_iff_getElem.1 hx;have z:=a i;rw [List.getD_eq_getElem?_getD,List.getElem?_eq_getElem hi] at z;have z2:Bz h t l[i].1 l[i].2:=z;rw [<-e];exact z2
theorem Bu.of{h:GH}{t:TypeId}{l:List Sl}(a:∀x ∈ l,Bz h t x.1 x.2):Bu h t l:=λk=>by
 by_cases hk:k<l.length
 ·exact a _ (BO hk)
 ·rw [BZ aA];exact Bz.nil _ _
theorem Bu.grown{V:Type}{h h' h0:GH}{v v':Value}{t t':TypeId}{n:Nat}{enc:V->Array Value}{ys:List V}(g:Fy h h' v v')(o:AO h0 h v t' n enc ys)(ne:t'≠t){l:List Sl}(x:Bu h t l):Bu h' t l:=λk=>(x k).grown g o ne
theorem Bu.store{h h':GH}{t t':TypeId}{l:List Sl}{r:Nat}{p:Bool}{c:Array Value}{f:Nat×Nat}(x:Bu h t l)(hr:h r=some (p,.cells c t' f))(ne:t'≠t)(ho:∀b,b≠r->h' b=h b):Bu h' t l:=λk=>(x k).store hr ne ho
theorem Bz.storeL{h h':GH}{t:TypeId}{w:Value}{xs:List Int}{r:Nat}{p:Bool}{lo:Loop}(x:Bz h t w xs)(hr:h r=some (p,.loop lo))(ho:∀b,b≠r->h' b=h b):Bz h' t w xs:=
 x.same λb hb=>ho b λe=>by
  obtain ⟨p2,c2,f2,q⟩:=x.2 b hb;rw [e,hr] at q;cases q
def ST(hB:GH)(r:Nat)(T t t0:TypeId)(F:List Int->Bool)(pre:List (List Int))(Y:Nat->Prop)(h:GH):Prop:=
 ∃w l',h r=some (true,.cells #[w] T (0,0))/\AO hB h w t 1 Je l'/\Aw w r/\hB r=none/\Ax l'=pre.filter F/\Bu h t0 l'/\∀b,Y b↔b=r\/CP w=some b\/∃x ∈ l',CP x.1=some b
section
variable {hB h h' ha hb:GH} {r:Nat} {T t t0:TypeId} {F:List Int->Bool} {pre:List (List Int)} {p:List Int} {w w' v:Value} {Y:Nat->Prop} {l':List Sl}
theorem Ps(hB:GH)(r:Nat)(T t t0:TypeId)(F:List Int->Bool):GF hB (ST hB r T t t0 F):=by
 refine ⟨?_,?_⟩
 ·rintro pre Y h b ⟨w,l',h1,h2,h3,h0,h5,h6,h4⟩ hb;rcases (h4 b).1 hb with rfl | h7 | ⟨x,hx,h7⟩
  ·exact ⟨_,_,h1,rfl⟩
  ·obtain ⟨c,hc⟩:=h2.cellsAt b h7;exact ⟨_,_,hc,rfl⟩
  ·obtain ⟨q,c,f,hc⟩:=(h6.at hx).2 b h7;exact ⟨_,_,hc,rfl⟩
 ·rintro pre Y h h' ⟨w,l',h1,h2,h3,h0,h5,h6,h4⟩ same lB;refine ⟨w,l',by rw [same r ((h4 r).2 (.inl rfl))];exact h1,h2.keep λb o hb ho=>by rw [same b ((h4 b).2 (.inr (.inl hb)))];exact ho,h3,h0,h5,.of λx hx=>(h6.at hx).same λb hb=>same b ((h4 b).2 (.inr (.inr ⟨x,hx,hb⟩))),h4⟩
theorem N8(x:h r=some (true,.cells #[.slice none 0 0] T (0,0)))(h0:hB r=none):ST hB r T t t0 F [] (λb=>b=r) h:=
 ⟨_,[],x,AO.nil _ _ _ _ _,Aw.nil,h0,rfl,Bu.nil _ _,λ_=>⟨.inl,λq=>q.elim id λe=>e.elim (λe=>by cases e) λ⟨_,e,_⟩=>by cases e⟩⟩
theorem SU(hY:∀b,Y b↔b=r\/CP w=some b\/∃x ∈ l',CP x.1=some b)(g:Fy ha hb w w')(hn:∀q,ha q=none->h q=none)(x:h' r=some (true,.cells #[w'] T (0,0)))(o:AO hB h' w' t 1 Je (l'++[(v,p)]))(f:Aw w' r)(h0:hB r=none)
  (hl:Ax l'=pre.filter F) (hp:F p=true) (ta:Bu h' t0 (l'++[(v,p)])):∃Y',(∀b,Y' b->(Y b\/CP v=some b)\/h b=none)/\ST hB r T t t0 F (pre++[p]) Y' h':=by
 refine ⟨λb=>b=r\/CP w'=some b\/∃x ∈ l'++[(v,p)],CP x.1=some b,?_,w',_,x,o,f,h0,?_,ta,λ_=>Iff.rfl⟩
 ·rintro b (rfl | hb | ⟨y,hy,hb⟩)
  ·exact .inl (.inl ((hY _).2 (.inl rfl)))
  ·rcases g.2 with e | ⟨⟨q,e1,e2⟩,_⟩
   ·exact .inl (.inl ((hY _).2 (.inr (.inl (by rw [<-e];exact hb)))))
   ·rw [e1] at hb;cases hb;exact .inr (hn _ e2)
  ·rcases List.mem_append.1 hy with hy | hy
   ·exact .inl (.inl ((hY _).2 (.inr (.inr ⟨y,hy,hb⟩))))
   ·rw [List.mem_singleton.1 hy] at hb;exact .inl (.inr hb)
 ·rw [M4,hl,List.filter_append];simp [Ax,hp]
theorem W1(hY:∀b,Y b↔b=r\/CP w=some b\/∃x ∈ l',CP x.1=some b)(x:h' r=some (true,.cells #[w] T (0,0)))(o:AO hB h' w t 1 Je l')(f:Aw w r)(h0:hB r=none)(hl:Ax l'=pre.filter F)(hp:F p=false)(ta:Bu h' t0 l') :
  ∃Y',(∀b,Y' b->(Y b\/CP v=some b)\/h b=none)/\ST hB r T t t0 F (pre++[p]) Y' h':=
 ⟨Y,λ_ q=>.inl (.inl q),w,l',x,o,f,h0,by rw [hl,List.filter_append];simp [hp],ta,hY⟩
end
def tVal:Di->Value
 | .job i=>.int .i64 i
 | .res i b=>.agg #[.int .i64 i,.bool b]
 | .tick=>.bool true
def tOK(n:Nat):Di->Prop
 | .job i=>i<n
 | .res i _=>i<n
 | .tick=>True
def OV(n:Nat):Nat->Di->Value->GH->Prop:=λ_ m v hm=>v=tVal m/\tOK n m/\hm=λ_=>none
theorem GH.split_none(h:GH):GH.Split h h (λ_=>none) where
 left:=λb p o hb=>⟨p,hb,id⟩
 right:=λb p o hb=>by cases hb
 one:=λ_ _ _ _ hb=>by cases hb
 two:=λ_ _ _ hb _=>by cases hb
section
variable {cj co cd n k:Nat} {ok:Nat->Bool}
theorem Zn(h:k<n):some (HJ cj (n-k) k)=some (.send cj (.job k) (HJ cj (n-(k+1)) (k+1))):=by
 rw [show n-k=(n-(k+1))+1 by omega];rfl
theorem feed_end(h:n<=k):some (HJ cj (n-k) k)=some (.close cj .done):=by rw [show n-k=0 by omega];rfl
theorem VE:∀m k,¬(HJ cj m k).isDone
 | 0,_=>id
 | _+1,_=>id
theorem VF:∀m,¬(FQ cj co cd ok m).isDone
 | 0=>id
 | _+1=>id
theorem Zo{m:Nat}:∀o,¬(Ux co cd ok (FQ cj co cd ok m) o).isDone
 | none=>id
 | some (.job _)=>id
 | some (.res _ _)=>id
 | some .tick=>id
theorem SV:∀t,¬(D6 co cd t).isDone
 | 0=>id
 | _+1=>id
theorem W3{t:Nat}:∀o,¬(Mt (D6 co cd t) o).isDone
 | none=>id
 | some (.job _)=>id
 | some (.res _ _)=>id
 | some .tick=>SV t
theorem VG:∀m R,¬(FR co ok m R).isDone
 | 0,_=>id
 | _+1,_=>id
theorem Yo{c:Prop}[Decidable c]{a b:Cj Di}(ha:¬a.isDone)(hb:¬b.isDone):¬(if c then a else b).isDone:=by split <;> assumption
theorem Zp{m:Nat}{R:List Nat}:∀o,¬(IC ok R (FR co ok m) o).isDone
 | none=>Yo id id
 | some (.job _)=>id
 | some .tick=>id
 | some (.res _ _)=>Yo (VG _ _) id
theorem VH:∀m,¬(Hx cj co cd n ok m).isDone
 | 0=>id
 | _+1=>id
theorem W4(h:k<3):some (D6 co cd (3-k))=some (.recv cd (Mt (D6 co cd (3-(k+1))))):=by
 rw [show 3-k=(3-(k+1))+1 by omega];rfl
theorem Zq(h:3<=k):some (D6 co cd (3-k))=some (.close co .done):=by rw [show 3-k=0 by omega];rfl
theorem Zs(h:k<3):some (Hx cj co cd n ok (3-k))=some (.spawn (FQ cj co cd ok (n+1)) (Hx cj co cd n ok (3-(k+1)))):=by
 rw [show 3-k=(3-(k+1))+1 by omega];rfl
theorem crew_end(h:3<=k):some (Hx cj co cd n ok (3-k))=some (.spawn (D6 co cd 3) (FR co ok (n+1) (List.range n))):=by rw [show 3-k=0 by omega];rfl
end
def UB(n:Nat)(ok:Nat->Bool)(R:List Nat):List Bool:=(List.range n).map λi=>if i ∈ R then false else ok i
theorem Yp(n:Nat)(ok:Nat->Bool)(R:List Nat):(UB n ok R).length=n:=by unfold UB;rw [List.length_map,List.length_range]
theorem Zt(n:Nat)(ok:Nat->Bool):UB n ok (List.range n)=List.replicate n false:=by
 unfold UB;refine List.ext_getElem aD λi h1 h2=>?_
 have:i<n:=by simpa using h1
 simp [this]
theorem isL_put{n i:Nat}{ok:Nat->Bool}{R:List Nat}(hR:R.Nodup):(UB n ok R).set i (ok i)=UB n ok (R.erase i):=by
 unfold UB;refine List.ext_getElem aD λj h1 h2=>?_;rw [List.getElem_set];simp only [List.getElem_map,List.getElem_range,List.Nodup.mem_erase_iff hR];by_cases e:i=j
 ·subst e;simp
 ·rw [if_neg e]
  have:j≠i:=λq=>e q.symm
  simp [this]
theorem Yq{n:Nat}{ok:Nat->Bool}{k:Nat}(hk:k<n):(UB n ok []).getD k false=ok k:=by
 unfold UB;rw [List.getD_eq_getElem?_getD,List.getElem?_map,List.getElem?_range hk];simp
def JG(fl:List Sl)(ok:Nat->Bool):Nat->List Sl
 | 0=>[]
 | k+1=>if ok k=true then JG fl ok k++[fl.getD k Sl.z] else JG fl ok k
theorem selS_t{fl:List Sl}{ok:Nat->Bool}{k:Nat}(h:ok k=true):JG fl ok (k+1)=JG fl ok k++[fl.getD k Sl.z]:=if_pos h
theorem selS_f{fl:List Sl}{ok:Nat->Bool}{k:Nat}(h:ok k=false):JG fl ok (k+1)=JG fl ok k:=if_neg (by rw [h];simp)
theorem VI(fl:List Sl)(ok:Nat->Bool):∀k,(JG fl ok k).length<=k
 | 0=>Nat.le_refl _
 | k+1=>by
  have:=VI fl ok k
  unfold JG;split
  ·rw [List.length_append,List.length_singleton];omega
  ·omega
theorem Pu{fl:List Sl}{G:List Int->Bool}:∀k,k<=fl.length->Ax (JG fl (λi=>G (fl.getD i Sl.z).2) k)=((Ax fl).take k).filter G
 | 0,_=>rfl
 | k+1,h=>by
  have ih:=Pu (fl:=fl) (G:=G) k aA;have e:(Ax fl).take (k+1)=(Ax fl).take k++[(fl.getD k Sl.z).2]:=by rw [Dd [] (by rw [B8];omega),Fc (l:=fl) aA]
  unfold JG;rw [e,List.filter_append];by_cases q:G (fl.getD k Sl.z).2=true
  ·rw [if_pos q,M4,ih,List.filter_cons_of_pos q];rfl
  ·rw [if_neg q,ih,List.filter_cons_of_neg q,List.filter_nil,List.append_nil]
end Go.Ns
namespace Go.Ns
open Go.Conc
section
variable {P:Program} {M:Type} {F:Ms P M} {i i':Option (Cj M)} {O:Nat->Value} {ds:List Deferred} {h:GH} {Q:PU M}
theorem trI_ix{c:Code}(e:i=i')(x:OT F c i' O ds h Q):OT F c i O ds h Q:=e▸x
theorem JH{ops:Array Oper}{l:List Oper}(e:i=i')(x:GG F ops l i' O ds h Q):GG F ops l i O ds h Q:=e▸x
theorem Zu{c:Code}{Q:Post}(x:OT F c none O ds h λi e O ds h=>i=none/\Q e O ds h):Tr ⟨F.W,F.fn,F.rd,F.N⟩ c O ds h Q:=by
 intro b k cs L t hb hr hl hs hc;refine x b k cs (λi=>match i with | none=>L | some _=>λ_ _ _ _=>False) t hb hr (λi=>?_) hs λi e σ' ds' h' q t' ht'=>?_
 ·cases i with
  | none=>exact hl
  | some s=>exact ⟨λ_ _ _ x=>x.elim,λ_ _ _ _ x=>x.elim,λ_ _ _ _ _ _ x=>x.elim⟩
 ·obtain ⟨rfl,q⟩:=q;exact hc e σ' ds' h' q t' ht'
theorem trI_end{c:Code}{Q:Post}(x:Tr (F.env none) c O ds h Q):OT F c none O ds h λi e O ds h=>i=none/\Q e O ds h:=
 Ih (KN (λ_ _ _ _ q=>⟨rfl,q⟩) x)
variable {dst:Option Nat} {ty:TypeId} {pos:String} {af:Array Edge} {gd:Option (Nat×Bool)}
theorem Pv{a x:Operand}{c:Nat}{v:Value}(ha:AN O a=.chan (some c))(hx:AN O x=v)(w:World):(execOp (AN O) ⟨dst,.send a x,ty,pos,af,gd⟩).runT P w #[]=(.ok (.comm #[scase c v (.tuple #[])] true .send) w,#[]):=by
 subst hx;show (Result.ok (Next.comm #[{ chan:=AN O a,send:=some (AN O x),zero:=.tuple #[] }] true .send) w,#[])=_;rw [ha];rfl
theorem run_recv{a:Operand}{c:Nat}{t e:TypeId}{d:ChanDir}{ok:Bool}{z:Value}{inf:TypeInfo}(ht:P.underlying t=some (.chan d e))(hi:P.info? e=some inf)(hz:inf.zero=some z)(ha:AN O a=.chan (some c))(w:World) :
  (execOp (AN O) ⟨dst,.recv t a ok,ty,pos,af,gd⟩).runT P w #[]=(.ok (.comm #[rcase c z] true (.recv ok)) w,#[]):=by
 have h1:(zeroValue e).run P w=.ok z w:=by
  unfold zeroValue typeInfo;simp only [Sem.run_bind,program,hi];simp [Sem.run,hi,hz]
 have h2:(underlying t).run P w=.ok (.chan d e) w:=run_underlying ht w;rw [Sem.runT_eq];unfold execOp;simp [h1,h2,ha,rcase]
theorem M6{a:Operand}{c:Nat}{t e:TypeId}{d:ChanDir}{ok:Bool}{z:Value}(ht:P.underlying t=some (.chan d e))(hz:(P.info? e).map (·.zero)=some (some z))(ha:AN O a=.chan (some c))(w:World) :
  (execOp (AN O) ⟨dst,.recv t a ok,ty,pos,af,gd⟩).runT P w #[]=(.ok (.comm #[rcase c z] true (.recv ok)) w,#[]):=by
 obtain ⟨inf,hi,h2⟩:=Option.map_eq_some_iff.1 hz;exact run_recv ht hi h2 ha w
theorem W5{x:Operand}{f:Fn}{cap:Array Value}{tys:Array TypeId}(hx:AN O x=.func f #[] cap)(w:World):(execOp (AN O) ⟨dst,.go ⟨.value x,#[],tys⟩,ty,pos,af,gd⟩).runT P w #[]=(.ok (.spawn { target:=.fn f cap,args:=#[] }) w,#[]):=by
 have e:resolve (AN O) ⟨.value x,#[],tys⟩ ty=(pure { target:=.fn f cap,args:=#[] }:Sem Deferred):=by
  unfold resolve;simp only [hx,Deferred.ofValue];simp
 unfold execOp;simp only [e];rfl
variable {E:GE P} {T:(Nat->Value)->List Deferred->GH->Prop}
theorem J3{t e:TypeId}{d:ChanDir}{n:Operand}(ht:P.underlying t=some (.chan d e))(hi0:(P.info? e).isSome=true)(hn:AN O n=.int .i64 0)
  (k:∀r h',h r=none->h.Le h'->h' r=some (true,.chan 0 #[] false 0 0 false)->(∀b,b≠r->h' b=h b)->T (putS O dst (.chan (some r))) ds h'):BU E ⟨dst,.makeChan t n,ty,pos,af,gd⟩ O ds h T:=by
 unfold BU execOp;refine Fu ?_;unfold Instr.makeChan;rw [hn];refine AD _ _ (Aq ?_);refine AD _ _ (Ai ht ?_);simp only [];obtain ⟨inf,hi⟩:=Option.isSome_iff_exists.1 hi0;refine AD _ _ (Cf hi ?_);rw [if_neg (by simp [IntKind.max];decide)];refine AD _ _ ?_;exact λr hr=>k r _ hr (GH.Le.new hr _ _) (GH.set_same _ _ _ _) λb hb=>GH.set_ne _ _ _ hb
end
section
variable {P:Program} {F:Ms P Di} {i i':Option (Cj Di)} {O:Nat->Value} {ds:List Deferred} {h:GH} {Q:PU Di} {ops:Array Oper} {o:Oper} {l:List Oper} {n:Nat} {cj co cd c m k:Nat} {ok:Nat->Bool} {R:List Nat} {z:Value}
theorem JF.ix{X:Code}{args:Array Value}(e:i=i')(x:JF F X args i' O h):JF F X args i O h:=e▸x
theorem Hb:GG F ops l (some .never) O ds h Q:=λ_ _ _ _ _ _ _ _ _ _ _ _=>EB.stop rfl
theorem GH.join_none(h:GH):h.join (λ_=>none)=h:=by
 funext b;unfold GH.join;cases h b <;> rfl
theorem VJ{s:Di}{nx:Cj Di}(hR:F.Rep=OV n)(hg:o.guard=none)(hdf:C0 o.op=false)(hd:Cx o.dst F.N=true)(hr:∀w,(execOp (AN O) o).runT P w #[]=(.ok (.comm #[scase c (tVal s) z] true .send) w,#[]))(hs:tOK n s)(hnx:¬nx.isDone)
  (x:GG F ops l (some nx) (putS O o.dst undef) ds h Q):GG F ops (o ::l) (some (.send c s nx)) O ds h Q:=
 ZR hg hdf hd hr (GH.split_none h) (by rw [hR];exact ⟨rfl,hs,rfl⟩) hnx x
theorem M7{f:Option Di->Cj Di}{r:Bool}(hR:F.Rep=OV n)(hg:o.guard=none)(hdf:C0 o.op=false)(hd:Cx o.dst F.N=true)(hr:∀w,(execOp (AN O) o).runT P w #[]=(.ok (.comm #[rcase c z] true (.recv r)) w,#[]))(hnx:∀o,¬(f o).isDone)
  (x:∀s,tOK n s->GG F ops l (some (f (some s))) (putS O o.dst (recvd r (tVal s) true)) ds h Q) (y:GG F ops l (some (f none)) (putS O o.dst (recvd r z false)) ds h Q):GG F ops (o ::l) (some (.recv c f)) O ds h Q:=
 ZS hg hdf hd hr hnx (λs v hm hrep _=>by
  rw [hR] at hrep;obtain ⟨rfl,h2,rfl⟩:=hrep;rw [GH.join_none];exact x s h2) y
theorem VK(hR:F.Rep=OV n)(hg:o.guard=none)(hdf:C0 o.op=false)(hd:Cx o.dst F.N=true)(hr:∀w,(execOp (AN O) o).runT P w #[]=(.ok (.comm #[rcase cj z] true (.recv true)) w,#[]))
  (x:∀i,i<n->GG F ops l (some (.send co (.res i (ok i)) (FQ cj co cd ok m))) (putS O o.dst (.tuple #[.int .i64 i,.bool true])) ds h Q) (y:GG F ops l (some (.send cd .tick .done)) (putS O o.dst (.tuple #[z,.bool false])) ds h Q) :
  GG F ops (o ::l) (some (FQ cj co cd ok (m+1))) O ds h Q:=
 M7 (f:=Ux co cd ok (FQ cj co cd ok m)) hR hg hdf hd hr Zo (λs hs=>by
  cases s with
  | job i=>exact x i hs
  | res i b=>exact Hb
  | tick=>exact Hb) y
theorem VL(hR:F.Rep=OV n)(hg:o.guard=none)(hdf:C0 o.op=false)(hd:Cx o.dst F.N=true)(hr:∀w,(execOp (AN O) o).runT P w #[]=(.ok (.comm #[rcase cd z] true (.recv false)) w,#[]))(hk:k<3)
  (x:GG F ops l (some (D6 co cd (3-(k+1)))) (putS O o.dst (.bool true)) ds h Q):GG F ops (o ::l) (some (D6 co cd (3-k))) O ds h Q:=
 JH (W4 hk) (M7 (f:=Mt (D6 co cd (3-(k+1)))) hR hg hdf hd hr W3 (λs _=>by
  cases s with
  | job i=>exact Hb
  | res i b=>exact Hb
  | tick=>exact x) Hb)
theorem Zv(hR:F.Rep=OV n)(hg:o.guard=none)(hdf:C0 o.op=false)(hd:Cx o.dst F.N=true)(hr:∀w,(execOp (AN O) o).runT P w #[]=(.ok (.comm #[rcase co z] true (.recv true)) w,#[]))
  (x:∀i,i<n->i ∈ R->GG F ops l (some (FR co ok m (R.erase i))) (putS O o.dst (.tuple #[.agg #[.int .i64 i,.bool (ok i)],.bool true])) ds h Q) (y:R=[]->GG F ops l (some .stop) (putS O o.dst (.tuple #[z,.bool false])) ds h Q) :
  GG F ops (o ::l) (some (FR co ok (m+1) R)) O ds h Q:=
 M7 (f:=IC ok R (FR co ok m)) hR hg hdf hd hr Zp (λs hs=>by
  cases s with
  | job i=>exact Hb
  | tick=>exact Hb
  | res i b=>
   by_cases e:i ∈ R/\b=ok i
   ·obtain ⟨e1,rfl⟩:=e;exact JH (show some (IC ok R (FR co ok m) (some (.res i (ok i))))=some (FR co ok m (R.erase i)) by unfold IC;simp [e1]) (x i hs e1)
   ·exact JH (show some (IC ok R (FR co ok m) (some (.res i b)))=some .never by show some (if i ∈ R/\b=ok i then _ else _)=_;rw [if_neg e]) Hb) (by
  by_cases e:R=[]
  ·exact JH (show some (IC ok R (FR co ok m) none)=some .stop by unfold IC;rw [if_pos e]) (y e)
  ·exact JH (show some (IC ok R (FR co ok m) none)=some .never by unfold IC;rw [if_neg e]) Hb)
end
theorem Bm.flags{h h':GH}{js:List AK}(s:h.Same h')(x:Bm h js):Bm h' js:=λk=>(x k).flags s
theorem Ao.flags{h h':GH}{ns:List AE}(s:h.Same h')(x:Ao h ns):Ao h' ns:=λk=>(x k).flags s
theorem HI.flags{h h':GH}{l:List Sl}(s:h.Same h')(a:HI h l):HI h' l:=λk=>(a k).flags s
theorem D8.flags{h h':GH}{r np:Nat}{ws:List AB}{pq:List AC}(s:h.Same h')(x:D8 h r np ws pq):D8 h' r np ws pq:=by
 obtain ⟨pm,M,⟨es,clk,hb,hl⟩,hM⟩:=x;obtain ⟨p',hb'⟩:=s _ _ _ hb;exact ⟨p',M,⟨es,clk,hb',hl⟩,hM⟩
theorem tr_lays5{P:Program}{E:GE P}{id:Nat}{a0 a1 a2 a3 a4:Oper}{rest:List Oper}{d0 d1 d2 d3:Nat}{O:Nat->Value}{ds:List Deferred}{h:GH}{Q:Post}(o0 o1 o2 o3:Obj)(o4:Nat->Obj)(v0 v1 v2 v3:Nat->Value)(hm:P.follows .mixedOrders=true)
  (ok:Fv E.N (a0 ::a1 ::a2 ::a3 ::a4 ::rest) 5 [[],[],[],[],[0,2,3]]=true)
  (g0:a0.guard=none) (g1:a1.guard=none) (g2:a2.guard=none) (g3:a3.guard=none) (g4:a4.guard=none) (e0:a0.dst=some d0) (e1:a1.dst=some d1) (e2:a2.dst=some d2) (e3:a3.dst=some d3)
  (l0:∀σ' h',BU E a0 σ' ds h' λσ'' ds'' h''=>ds''=ds/\∃r,σ''=putS σ' a0.dst (v0 r)/\h' r=none/\h'.Le h''/\h'' r=some (true,o0)) (l1:∀σ' h',BU E a1 σ' ds h' λσ'' ds'' h''=>ds''=ds/\∃r,σ''=putS σ' a1.dst (v1 r)/\h' r=none/\h'.Le h''/\h'' r=some (true,o1))
  (l2:∀σ' h',BU E a2 σ' ds h' λσ'' ds'' h''=>ds''=ds/\∃r,σ''=putS σ' a2.dst (v2 r)/\h' r=none/\h'.Le h''/\h'' r=some (true,o2)) (l3:∀σ' h',BU E a3 σ' ds h' λσ'' ds'' h''=>ds''=ds/\∃r,σ''=putS σ' a3.dst (v3 r)/\h' r=none/\h'.Le h''/\h'' r=some (true,o3))
  (l4:∀r0 r2 σ' h',σ' d0=v0 r0->σ' d2=v2 r2->h' r2=some (true,o2)->BU E a4 σ' ds h' λσ'' ds'' h''=>ds''=ds/\σ''=σ'/\h'' r2=some (true,o4 r0)/\∀b,b≠r2->h'' b=h' b)
  (fin:∀(r0 r1 r2 r3:Nat) σ' h',h.Le h'->(h r0=none/\h' r0=some (true,o0)/\σ' d0=v0 r0)->(h r1=none/\h' r1=some (true,o1)/\σ' d1=v1 r1)->(h r2=none/\h' r2=some (true,o4 r0)/\σ' d2=v2 r2)->(h r3=none/\h' r3=some (true,o3)/\σ' d3=v3 r3)->
   (r0≠r1/\r0≠r2/\r0≠r3/\r1≠r2/\r1≠r3/\r2≠r3)->(∀t,(DS (a0 ::a1 ::a2 ::a3 ::a4 ::rest) 5).contains t=false->σ' t=O t)->DN E (a0 ::a1 ::a2 ::a3 ::a4 ::rest).toArray rest σ' ds h' Q):Tr E (.region id (a0 ::a1 ::a2 ::a3 ::a4 ::rest).toArray true) O ds h Q:=by
 let l:=a0 ::a1 ::a2 ::a3 ::a4 ::rest;let obj:Nat->Obj:=λi=>match i with | 0=>o0 | 1=>o1 | 2=>o2 | _=>o3
 let val:Nat->Nat->Value:=λi=>match i with | 0=>v0 | 1=>v1 | 2=>v2 | _=>v3
 have lay:∀i o,i<4->l[i]? =some o->∀σ' h',BU E o σ' ds h' λσ'' ds'' h''=>ds''=ds/\∃r,σ''=putS σ' o.dst (val i r)/\h' r=none/\h'.Le h''/\h'' r=some (true,obj i):=by
  intro i o hi ho σ' h';rcases i with _ | _ | _ | _ | i
  ·cases ho;exact l0 σ' h'
  ·cases ho;exact l1 σ' h'
  ·cases ho;exact l2 σ' h'
  ·cases ho;exact l3 σ' h'
  ·omega
 have nd:(DS l 5).Nodup:=by
  have:=ok
  unfold Fv at this;simp only [Bool.and_eq_true] at this;exact of_decide_eq_true this.1.2
 refine Uk 5 [[],[],[],[],[0,2,3]] (λD σ' h'=>h.Le h'/\(D 4=true->D 0=true/\D 2=true)/\∃rs:Nat->Nat,(∀i,i<4->D i=true->h (rs i)=none/\h' (rs i)=some (true,if i=2/\D 4=true then o4 (rs 0) else obj i)/\∀o d,l[i]? =some o->o.dst=some d->σ' d=val i (rs i))/\
  (∀i j,i<4->j<4->D i=true->D j=true->i≠j->rs i≠rs j)/\∀t,(DS l 5).contains t=false->σ' t=O t) hm ok ⟨GH.Le.refl _,(λe=>by cases e),λ_=>0,(λ_ _ q=>by cases q),(λ_ _ _ _ q=>by cases q),λ_ _=>rfl⟩ ?_ ?_
 ·rintro D σ' h' i o ⟨l1',hD4,rs,h1,h2,h3⟩ hi hD ho hcl _;have hgd:o.guard=none:=by
   rcases i with _ | _ | _ | _ | _ | i
   ·cases ho;exact g0
   ·cases ho;exact g1
   ·cases ho;exact g2
   ·cases ho;exact g3
   ·cases ho;exact g4
   ·omega
  refine ⟨λ_=>?_,λq=>absurd (by unfold DI;rw [hgd];trivial) q⟩;by_cases hi4:i=4
  ·subst hi4;have c0:D 0=true:=hcl 0 aD;have c2:D 2=true:=hcl 2 aD;cases ho;obtain ⟨q1,q2,q3⟩:=h1 0 aC c0;obtain ⟨p1,p2,p3⟩:=h1 2 aC c2;rw [if_neg (λe=>by rw [hD] at e;cases e.2)] at p2;refine (l4 (rs 0) (rs 2) σ' h' (q3 a0 d0 rfl e0) (p3 a2 d2 rfl e2) p2).mono λσ'' ds'' h'' q=>?_;obtain ⟨rfl,rfl,k1,k2⟩:=q;refine ⟨rfl,λb p x hb=>?_,λ_=>⟨by rw [Bd aC];exact c0,by rw [Bd aC];exact c2⟩,rs,λj hj hDj=>?_,λa b ha hb hDa hDb hab=>?_,h3⟩
   ·rw [k2 b λe=>by subst e;rw [p1] at hb;cases hb];exact l1' b p x hb
   ·rw [Bd aA] at hDj;obtain ⟨u1,u2,u3⟩:=h1 j hj hDj;refine ⟨u1,?_,u3⟩;by_cases ej:j=2
    ·subst ej;rw [if_pos ⟨rfl,if_pos rfl⟩];exact k1
    ·rw [if_neg (λe=>ej e.1),k2 _ (h2 j 2 hj aC hDj c2 ej)];rw [if_neg (λe=>ej e.1)] at u2;exact u2
   ·rw [Bd aA] at hDa hDb;exact h2 a b ha hb hDa hDb hab
  ·have hi':i<4:=aA
   refine (lay i o hi' ho σ' h').mono λσ'' ds'' h'' q=>?_;obtain ⟨rfl,r,rfl,hr,l2',hr2⟩:=q;have h4e:HA D i 4=D 4:=Bd (λe=>hi4 e.symm);have hne:∀j,j<4->D j=true->rs j≠r:=λj hj hDj e=>by
    have:=(h1 j hj hDj).2.1
    rw [e,hr] at this;cases this
   refine ⟨rfl,l1'.trans l2',λe=>?_,λj=>if j=i then r else rs j,λj hj hDj=>?_,λa b ha hb hDa hDb hab=>?_,λt ht=>?_⟩
   ·rw [h4e] at e;obtain ⟨c0,c2⟩:=hD4 e;exact ⟨by rw [Bd (λq=>by subst q;rw [hD] at c0;cases c0)];exact c0,by rw [Bd (λq=>by subst q;rw [hD] at c2;cases c2)];exact c2⟩
   ·by_cases e:j=i
    ·subst e;dsimp only;rw [if_pos rfl];refine ⟨l1'.nothing hr,?_,λo' d ho' hd=>?_⟩
     ·rw [if_neg (λe=>by have e2:=e.2;rw [h4e] at e2;have e3:=(hD4 e2).2;rw [<-e.1,hD] at e3;cases e3)];exact hr2
     ·obtain rfl:o'=o:=Option.some.inj (ho'.symm.trans ho);rw [hd];exact upd_same _ _ _
    ·dsimp only;rw [if_neg e];rw [Bd e] at hDj;obtain ⟨q1,q2,q3⟩:=h1 j hj hDj;refine ⟨q1,?_,λo' d ho' hd=>by rw [Cp λd' hd'=>Dy nd hi (aA:j<5) (λq=>e q.symm) ho ho' hd' hd];exact q3 o' d ho' hd⟩;rw [h4e];by_cases hc:j=2/\D 4=true
     ·rw [if_pos hc] at q2 ⊢;rw [if_neg (λq=>by have c0:=(hD4 hc.2).1;rw [q,hD] at c0;cases c0)];exact l2'.keep q2 rfl
     ·rw [if_neg hc] at q2 ⊢;exact l2'.keep q2 rfl
   ·show (if a=i then r else rs a)≠(if b=i then r else rs b);by_cases ea:a=i
    ·by_cases eb:b=i
     ·exact absurd (ea.trans eb.symm) hab
     ·rw [if_pos ea,if_neg eb];rw [Bd eb] at hDb;exact (hne b hb hDb).symm
    ·rw [Bd ea] at hDa;by_cases eb:b=i
     ·rw [if_neg ea,if_pos eb];exact hne a ha hDa
     ·rw [if_neg ea,if_neg eb];rw [Bd eb] at hDb;exact h2 a b ha hb hDa hDb hab
   ·rw [Cp (HQ hi ho ht)];exact h3 t ht
 ·rintro D σ' h' ⟨l1',hD4,rs,h1,h2,h3⟩ hall;have A:∀i,i<5->D i=true:=hall;have f0:=h1 0 aC (A 0 aC);have f1:=h1 1 aC (A 1 aC);have f2:=h1 2 aC (A 2 aC);have f3:=h1 3 aC (A 3 aC);rw [if_neg (λe=>by have:=e.1;omega)] at f0;rw [if_neg (λe=>by have:=e.1;omega)] at f1;rw [if_pos ⟨rfl,A 4 aC⟩] at f2;rw [if_neg (λe=>by have:=e.1;omega)] at f3;have ne:=λi j (hi:i<4) (hj:j<4)=>h2 i j hi hj (A i aA) (A j aA);exact fin (rs 0) (rs 1) (rs 2) (rs 3) σ' h' l1' ⟨f0.1,f0.2.1,f0.2.2 a0 d0 rfl e0⟩ ⟨f1.1,f1.2.1,f1.2.2 a1 d1 rfl e1⟩ ⟨f2.1,f2.2.1,f2.2.2 a2 d2 rfl e2⟩ ⟨f3.1,f3.2.1,f3.2.2 a3 d3 rfl e3⟩
   ⟨ne 0 1 aC aC aC,ne 0 2 aC aC aC,ne 0 3 aC aC aC,ne 1 2 aC aC aC,ne 1 3 aC aC aC,ne 2 3 aC aC aC⟩ h3
section
variable {h h' h0:GH} {r:Nat}
theorem GH.cut_ne{b:Nat}(e:b≠r):h.cut r b=h b:=if_neg e
theorem GH.Le.cut(l:h0.Le h)(n:h0 r=none):h0.Le (h.cut r):=λb p o hb=>by
 rw [GH.cut_ne λe=>by subst e;rw [n] at hb;cases hb];exact l b p o hb
theorem AO.cut{V:Type}{v:Value}{t:TypeId}{n:Nat}{enc:V->Array Value}{xs:List V}(x:AO h0 h v t n enc xs)(f:Aw v r):AO h0 (h.cut r) v t n enc xs:=
 x.keep λb o hb ho=>by rw [GH.cut_ne λe=>by subst e;exact f hb];exact ho
theorem AO.del'{V:Type}{v:Value}{t:TypeId}{n:Nat}{enc:V->Array Value}{xs:List V}(x:AO h0 h v t n enc xs)(f:Aw v r):AO h0 (h.del r) v t n enc xs:=
 x.keep λb o hb ho=>by rw [GH.del_ne λe=>by subst e;exact f hb];exact ho
theorem Bz.keep3{X:Nat->Prop}{t0 T t:TypeId}{n l:Nat}{w v:Value}{p q:Bool}{c:Array Value}{f:Nat×Nat}{lo:Loop}{ys:List Sl}{hB:GH}{ys':List Int}(x:Bz h t0 v ys')(k:Bp X h h')(hX:∀b,X b->(b=r\/CP w=some b)\/b=l)(hr:h r=some (p,.cells c T f))(ow:AO hB h w t n Je ys)(hl:h l=some (q,.loop lo))(n1:T≠t0)(n2:t≠t0):Bz h' t0 v ys':=
 x.keepX k λb hb q2=>by
  obtain ⟨p2,c2,f2,e⟩:=x.2 b hb;rcases hX b q2 with (rfl | q3) | rfl
  ·rw [hr] at e;cases e;exact n1 rfl
  ·rcases ow with ⟨rfl,_⟩ | ⟨b1,cap,c1,rfl,_,h2,_⟩
   ·cases q3
   ·simp only [CP,Option.some.injEq] at q3;subst q3;rw [h2] at e;cases e;exact n2 rfl
  ·rw [hl] at e;cases e
theorem Bp.mono{X Y:Nat->Prop}(k:Bp X h h')(s:∀b,X b->Y b):Bp Y h h':=λb p o hb hn=>k b p o hb λx=>hn (s b x)
end
theorem Zw{n:Nat}{fl:List Sl}(h:Ax fl=C4 (CA n))(hn:n<=4)(i:Nat):UA n (fl.getD i Sl.z).2:=by
 by_cases hi:i<fl.length
 ·refine J1 (λx hx=>JD hx) (by rw [Ce];exact hn) (r:=(fl.getD i Sl.z).2) ?_;rw [<-h,<-Fc hi];exact BO (by rw [B8];exact hi)
 ·rw [BZ aA];exact ⟨λk hk=>absurd hk (Nat.not_lt_zero _),Nat.zero_le _⟩
theorem Bz.storeD{h h':GH}{t:TypeId}{v:Value}{xs:List Int}{r:Nat}{p:Bool}{q:Option (List Deferred)}(x:Bz h t v xs)(hr:h r=some (p,.deferred q))(ho:∀b,b≠r->h' b=h b):Bz h' t v xs:=
 x.same λb hb=>ho b λe=>by
  obtain ⟨p2,c2,f2,z⟩:=x.2 b hb;rw [e,hr] at z;cases z
theorem Bu.storeD{h h':GH}{t:TypeId}{l:List Sl}{r:Nat}{p:Bool}{q:Option (List Deferred)}(x:Bu h t l)(hr:h r=some (p,.deferred q))(ho:∀b,b≠r->h' b=h b):Bu h' t l:=λk=>
 (x k).same λb hb=>ho b λe=>by
  obtain ⟨p2,c2,f2,z⟩:=(x k).2 b hb;rw [e,hr] at z;cases z
theorem selS_all{fl:List Sl}{G:List Int->Bool}{all:List (List Int)}{k:Nat}(h:Ax fl=all)(h1:k<=fl.length)(h2:fl.length<=k):Ax (JG fl (λi=>G (fl.getD i Sl.z).2) k)=all.filter G:=by
 rw [Pu k h1,List.take_of_length_le (by rw [B8];exact h2),h]
theorem Bu.sel{h:GH}{t:TypeId}{fl:List Sl}{ok:Nat->Bool}{k:Nat}(a:Bu h t fl):Bu h t (JG fl ok k):=by
 induction k with
 | zero=>exact Bu.nil h t
 | succ k ih=>
  unfold JG;split
  ·exact Bu.app ih (Bu.one (a k))
  ·exact ih
end Go.Ns
namespace Go.Ns
theorem UC{P:Program}{O:Nat->Value}{h:GH}{fn:Func}{R:Value->GH->Prop}{a u s:Tmp}{t:TypeId}{b off:Nat}{v v' v2:Value}(hr:fn.results=#[.tmp u,.cell a t,.tmp s])(hv:O u=v)(ha:O a=.pointer (some ⟨b,off,none⟩))(hv':Rd P h t b off v')(hv2:O s=v2)(x:R (.tuple #[v,v',v2]) h):GM P fn O R [] h:=by
 unfold GM;rw [hr];subst hv;subst hv2;exact ⟨b,off,v',ha,hv',x⟩
section
variable (np:Nat) (ws:List AB) (js:List AK) (pq:List AC) (bag kinds:Int)
def GZ:List (List Int):=(C4 (CA js.length)).filter (λq=>Bv np ws js pq q bag kinds)
end
def JI(g:List (List Int))(x:List Int):List (List Int):=if 0<g.length/\(g.getD 0 []).length<x.length then [] else g
def JJ(g:List (List Int))(x:List Int):List (List Int):=if g.length=0\/x.length=(g.getD 0 []).length then g++[x] else g
def Eo(g:List (List Int))(x:List Int):List (List Int):=JJ (JI g x) x
def JK(l:List (List Int)):Nat->List (List Int)
 | 0=>[]
 | k+1=>Eo (JK l k) (l.getD k [])
def G1(g:List Sl)(x:Sl):List Sl:=if 0<g.length/\(g.getD 0 Sl.z).2.length<x.2.length then [] else g
def H0(g:List Sl)(x:Sl):List Sl:=if g.length=0\/x.2.length=(g.getD 0 Sl.z).2.length then g++[x] else g
def C7(g:List Sl)(x:Sl):List Sl:=H0 (G1 g x) x
def A9(l:List Sl):Nat->List Sl
 | 0=>[]
 | k+1=>C7 (A9 l k) (l.getD k Sl.z)
section
variable {l g:List Sl} {x:Sl} {k:Nat}
theorem Pw(h0:0<g.length)(h1:(g.getD 0 Sl.z).2.length<x.2.length):C7 g x=[x]:=by
 unfold C7 G1;rw [if_pos ⟨h0,h1⟩];rfl
theorem Px(h0:0<g.length)(h1:x.2.length=(g.getD 0 Sl.z).2.length):C7 g x=g++[x]:=by
 unfold C7 G1;rw [if_neg (λe=>by have:=e.2;omega)];unfold H0;rw [if_pos (.inr h1)]
theorem P0(h0:0<g.length)(h1:x.2.length<(g.getD 0 Sl.z).2.length):C7 g x=g:=by
 unfold C7 G1;rw [if_neg (λe=>by have:=e.2;omega)];unfold H0;rw [if_neg];rintro (e | e) <;> omega
theorem P1(h0:g.length=0):C7 g x=g++[x]:=by
 unfold C7 G1;rw [if_neg (λe=>by have:=e.1;omega)];unfold H0;rw [if_pos (.inl h0)]
theorem goodS_a(h0:0<(A9 l k).length)(h1:((A9 l k).getD 0 Sl.z).2.length<(l.getD k Sl.z).2.length):A9 l (k+1)=[l.getD k Sl.z]:=Pw h0 h1
theorem goodS_b(h0:0<(A9 l k).length)(h1:(l.getD k Sl.z).2.length=((A9 l k).getD 0 Sl.z).2.length):A9 l (k+1)=A9 l k++[l.getD k Sl.z]:=Px h0 h1
theorem goodS_c(h0:0<(A9 l k).length)(h1:¬((A9 l k).getD 0 Sl.z).2.length<(l.getD k Sl.z).2.length)(h2:¬(l.getD k Sl.z).2.length=((A9 l k).getD 0 Sl.z).2.length):A9 l (k+1)=A9 l k:=P0 h0 aA
theorem goodS_d(h0:(A9 l k).length=0):A9 l (k+1)=A9 l k++[l.getD k Sl.z]:=P1 h0
theorem goodS_t(h1:¬(0<(A9 l k).length/\((A9 l k).getD 0 Sl.z).2.length<(l.getD k Sl.z).2.length))(h2:(A9 l k).length=0\/(l.getD k Sl.z).2.length=((A9 l k).getD 0 Sl.z).2.length):A9 l (k+1)=A9 l k++[l.getD k Sl.z]:=by
 by_cases h0:(A9 l k).length=0
 ·exact goodS_d h0
 ·exact goodS_b aA aA
theorem goodS_f(h1:¬(0<(A9 l k).length/\((A9 l k).getD 0 Sl.z).2.length<(l.getD k Sl.z).2.length))(h2:¬((A9 l k).length=0\/(l.getD k Sl.z).2.length=((A9 l k).getD 0 Sl.z).2.length)):A9 l (k+1)=A9 l k:=goodS_c aA aA aA
theorem H1(g:List Sl)(x:Sl):C7 g x=[x]\/C7 g x=g++[x]\/(C7 g x=g/\0<g.length):=by
 by_cases h0:g.length=0
 ·exact .inr (.inl (P1 h0))
 ·by_cases h1:(g.getD 0 Sl.z).2.length<x.2.length
  ·exact .inl (Pw aA h1)
  ·by_cases h2:x.2.length=(g.getD 0 Sl.z).2.length
   ·exact .inr (.inl (Px aA h2))
   ·exact .inr (.inr ⟨P0 aA aA,aA⟩)
theorem Zx:∀k,0<k->0<(A9 l k).length
 | k+1,_=>by
  show 0<(C7 (A9 l k) (l.getD k Sl.z)).length;rcases H1 (A9 l k) (l.getD k Sl.z) with e | e | ⟨e,h⟩ <;> rw [e]
  ·exact Nat.zero_lt_one
  ·rw [List.length_append];exact Nat.succ_pos _
  ·exact h
theorem SW:∀k,(A9 l k).length<=k
 | 0=>Nat.le_refl _
 | k+1=>by
  have ih:=SW k;show (C7 (A9 l k) (l.getD k Sl.z)).length<=_;rcases H1 (A9 l k) (l.getD k Sl.z) with e | e | ⟨e,_⟩ <;> rw [e]
  ·simp
  ·rw [List.length_append,List.length_singleton];omega
  ·omega
theorem M8:∀k,k<=l.length->∀y ∈ A9 l k,y ∈ l
 | 0,_,y,hy=>by cases hy
 | k+1,hk,y,hy=>by
  have ih:=M8 k aA;have hx:l.getD k Sl.z ∈ l:=BO aA;change y ∈ C7 (A9 l k) (l.getD k Sl.z) at hy;rcases H1 (A9 l k) (l.getD k Sl.z) with e | e | ⟨e,_⟩ <;> rw [e] at hy
  ·rw [List.mem_singleton.1 hy];exact hx
  ·rcases List.mem_append.1 hy with hy | hy
   ·exact ih y hy
   ·rw [List.mem_singleton.1 hy];exact hx
  ·exact ih y hy
theorem N9:∀k,k<=l.length->Ax (A9 l k)=JK (Ax l) k
 | 0,_=>rfl
 | k+1,hk=>by
  have ih:=N9 k aA;have hg:∀g:List Sl,(g.getD 0 Sl.z).2=(Ax g).getD 0 []:=λg=>by cases g <;> rfl
  show Ax (C7 (A9 l k) (l.getD k Sl.z))=Eo (JK (Ax l) k) ((Ax l).getD k []);rw [<-ih,Fc aA];have hc:Ax (G1 (A9 l k) (l.getD k Sl.z))=JI (Ax (A9 l k)) (l.getD k Sl.z).2:=by
   unfold G1 JI;rw [hg,B8];split <;> rfl
  have ha:∀g:List Sl,Ax (H0 g (l.getD k Sl.z))=JJ (Ax g) (l.getD k Sl.z).2:=λg=>by
   unfold H0 JJ;rw [hg,B8];split
   ·rw [M4];rfl
   ·rfl
  show Ax (H0 (G1 (A9 l k) (l.getD k Sl.z)) (l.getD k Sl.z))=JJ (JI (Ax (A9 l k)) _) _;rw [ha,hc]
end
theorem Bu.good{h:GH}{t:TypeId}{l:List Sl}{k:Nat}(a:Bu h t l)(hk:k<=l.length):Bu h t (A9 l k):=.of λx hx=>a.at (M8 k hk x hx)
section
variable {np:Nat} {ws:List AB} {js:List AK} {pq:List AC} {bag kinds:Int} {fs:List Sl}
theorem Yr(h:Ax fs=GZ np ws js pq bag kinds)(hn:js.length<=4):∀x ∈ fs,UA js.length x.2:=λx hx=>by
 have:x.2 ∈ Ax fs:=List.mem_map_of_mem hx
 rw [h] at this;exact J1 (λy hy=>JD hy) (by rw [Ce];exact hn) (List.mem_filter.1 this).1
theorem VM(h:Ax fs=GZ np ws js pq bag kinds)(hn:js.length<=4)(i:Nat):UA js.length (fs.getD i Sl.z).2:=by
 by_cases hi:i<fs.length
 ·exact Yr h hn _ (BO hi)
 ·rw [BZ aA];exact ⟨λk hk=>absurd hk (Nat.not_lt_zero _),Nat.zero_le _⟩
theorem safe_nil(hb:0<=bag):Bv np ws js pq [] bag kinds=true:=by
 unfold Bv;have e:(DB kinds js []).sum=0:=by
  show (List.replicate kinds.toNat (0:Int)).sum=0;generalize kinds.toNat=n
  induction n with
  | zero=>rfl
  | succ n ih=>rw [List.replicate_succ,List.sum_cons,ih];rfl
 rw [e,decide_eq_true hb];rfl
theorem P2(hb:0<=bag):0<(GZ np ws js pq bag kinds).length:=by
 refine List.length_pos_of_mem (a:=[]) (List.mem_filter.2 ⟨?_,safe_nil hb⟩);unfold C4;rw [FT];exact List.mem_cons_self
theorem P3(hn:js.length<=4):(GZ np ws js pq bag kinds).length<=625:=
 Nat.le_trans (List.length_filter_le _ _) (Ha (by rw [Ce];exact hn))
theorem SX{G:List Int->Int}:∀(l:List (List Int)),0<l.length->∀k,k<=l.length-1->(DC G l k).1 ∈ l
 | l,h,0,_=>BO h
 | l,h,k+1,hk=>by
  unfold DC;split
  ·exact List.mem_of_mem_drop (BO (by rw [List.length_drop];omega))
  ·exact SX l h k aA
theorem MM{n:Nat}{G:List Int->Int}{l:List Sl}(h:∀x ∈ l,UA n x.2)(hl:0<l.length):UA n (Cw G (Ax l)):=by
 have:=SX (G:=G) (Ax l) (by rw [B8];exact hl) ((Ax l).length-1) (Nat.le_refl _)
 obtain ⟨x,hx,e⟩:=List.mem_map.1 this;unfold Cw;rw [<-e];exact h x hx
end
section
variable (bag kinds:Int) (ps:List ByteArray) (ws:List AB) (js:List AK) (ns:List AE)
def W6:List Int:=Cw (λl=>BA (λx=>Aa ps.length ws js x l) (AA ws js ns)) (JK (GZ ps.length ws js (AA ws js ns) bag kinds) (GZ ps.length ws js (AA ws js ns) bag kinds).length)
def BY:List Int:=if¬AH bag kinds ps ws js ns 0=0 then [] else W6 bag kinds ps ws js ns
end
section
variable {bag kinds:Int} {ps:List ByteArray} {ws:List AB} {js:List AK} {ns:List AE} {fs:List Sl} {k:Nat}
theorem best_end(h:Ax fs=GZ ps.length ws js (AA ws js ns) bag kinds)(h1:k<=fs.length)(h2:fs.length<=k):W6 bag kinds ps ws js ns=Cw (λl=>BA (λx=>Aa ps.length ws js x l) (AA ws js ns)) (Ax (A9 fs k)):=by
 unfold W6;rw [N9 k h1,h,<-h,B8,show fs.length=k by omega]
theorem VN(h0:¬¬AH bag kinds ps ws js ns 0=0)(h:Ax fs=GZ ps.length ws js (AA ws js ns) bag kinds)(h1:k<=fs.length)(h2:fs.length<=k):BY bag kinds ps ws js ns=Cw (λl=>BA (λx=>Aa ps.length ws js x l) (AA ws js ns)) (Ax (A9 fs k)):=(if_neg h0).trans (best_end h h1 h2)
end
def UD(c:GJ)(l:List Int):Nat->GJ
 | 0=>c
 | i+1=>(UD c l i).set (l.getD i 0).toNat true
def Ga(ls:List (List Int)):Nat->GJ
 | 0=>GJ.none
 | k+1=>UD (Ga ls k) (ls.getD k []) (ls.getD k []).length
def Ep(c:GJ):Nat->List Int
 | 0=>[]
 | q+1=>if c q=true then Ep c q else Ep c q++[(q:Int)]
theorem neverL_t{c:GJ}{q:Nat}(h:c q=true):Ep c (q+1)=Ep c q:=if_pos h
theorem neverL_f{c:GJ}{q:Nat}(h:c q=false):Ep c (q+1)=Ep c q++[(q:Int)]:=if_neg (by rw [h];simp)
theorem P4(c:GJ):∀q,(Ep c q).length<=q
 | 0=>Nat.le_refl _
 | q+1=>by
  have:=P4 c q
  unfold Ep;split
  ·omega
  ·rw [List.length_append,List.length_singleton];omega
section
variable (bag kinds:Int) (ps:List ByteArray) (ws:List AB) (js:List AK) (ns:List AE)
def J4:List Int:=if¬AH bag kinds ps ws js ns 0=0 then [] else Ep (Ga (GZ ps.length ws js (AA ws js ns) bag kinds) (GZ ps.length ws js (AA ws js ns) bag kinds).length) js.length
end
section
variable {bag kinds:Int} {ps:List ByteArray} {ws:List AB} {js:List AK} {ns:List AE} {fs:List Sl} {k q:Nat}
theorem Zy{i:Nat}(hk:k<fs.length)(h1:i<=(fs.getD k Sl.z).2.length)(h2:(fs.getD k Sl.z).2.length<=i):Ga (Ax fs) (k+1)=UD (Ga (Ax fs) k) (fs.getD k Sl.z).2 i:=by
 unfold Ga;rw [Fc hk,show (fs.getD k Sl.z).2.length=i by omega];cases k <;> rfl
theorem Zz(h0:¬¬AH bag kinds ps ws js ns 0=0)(h:Ax fs=GZ ps.length ws js (AA ws js ns) bag kinds)(h1:k<=fs.length)(h2:fs.length<=k)(h3:q<=js.length)(h4:js.length<=q):J4 bag kinds ps ws js ns=Ep (Ga (Ax fs) k) q:=
 (if_neg h0).trans (by rw [<-h,B8,show fs.length=k by omega,show js.length=q by omega])
end
end Go.Ns
namespace Go.Ns
theorem VO{nj:Nat}{l:List Int}(h:AU nj l=0):l.Nodup:=by
 rw [List.nodup_iff_pairwise_ne];rw [List.pairwise_iff_getElem];intro i j hi hj hij e;have h1:=DM h j (Nat.zero_le _) aA;unfold HX at h1;split at h1
 ·rename_i a;exact a h1
 ·split at h1
  ·cases h1
  ·rename_i a
   refine a (List.any_eq_true.2 ⟨l[i],List.mem_take_iff_getElem.2 ⟨i,aA,rfl⟩,?_⟩);rw [List.getD_eq_getElem?_getD,List.getElem?_eq_getElem hj];exact decide_eq_true e.symm
theorem OA{jobs:List Int}(nd:jobs.Nodup):∀(rest done:List Int),jobs=done++rest->jobs ∈ BD jobs rest.length done
 | [],done,e=>by rw [e,List.append_nil];exact List.mem_singleton.2 rfl
 | k ::rest,done,e=>by
  have ih:=OA nd rest (done++[k]) (by rw [e];simp);show jobs ∈ done ::jobs.flatMap _;refine List.mem_cons_of_mem _ (List.mem_flatMap.2 ⟨k,by rw [e];simp,?_⟩);have hn:HZ done k=false:=by
   cases hh:HZ done k with
   | false=>rfl
   | true=>
    exfalso;obtain ⟨x,hx,hk⟩:=List.any_eq_true.1 hh;have hk':k=x:=of_decide_eq_true hk;rw [e,List.nodup_append] at nd;exact nd.2.2 x hx k List.mem_cons_self hk'.symm
  rw [if_neg (by rw [hn];simp)];exact ih
def Ys(jobs:List Int)(n:Nat):List (List Int):=(C4 jobs).filter λq=>decide (q.length=n)
theorem Z0{l:List Int}(nd:l.Nodup):0<(Ys (FO l) l.length).length:=by
 have hs:(FO l).Nodup:=by rw [PR];exact (List.mergeSort_perm l _).nodup_iff.2 nd
 have:=OA hs (FO l) [] rfl
 exact List.length_pos_of_mem (List.mem_filter.2 ⟨this,decide_eq_true (EG l)⟩)
section
variable (bag kinds:Int) (ps:List ByteArray) (ws:List AB) (js:List AK) (ns:List AE) (l:List Int)
def swiftL:List Int:=Cw (λl=>BA (λx=>Aa ps.length ws js x l) (AA ws js ns)) (Ys (FO l) l.length)
def JL:List Int:=if¬AH bag kinds ps ws js ns (AU js.length l)=0 then [] else swiftL ps ws js ns l
end
section
variable {bag kinds:Int} {ps:List ByteArray} {ws:List AB} {js:List AK} {ns:List AE} {l:List Int} {fl:List Sl} {nj:Nat}
theorem SY(h0:¬¬AH bag kinds ps ws js ns (AU js.length l)=0)(h:Ax fl=Ys (FO l) l.length):JL bag kinds ps ws js ns l=Cw (λl=>BA (λx=>Aa ps.length ws js x l) (AA ws js ns)) (Ax fl):=(if_neg h0).trans (by unfold swiftL;rw [h])
theorem full_ok(h:Ax fl=Ys (FO l) l.length)(hr:∀k,k<l.length->0<=l.getD k 0/\l.getD k 0<nj)(h4:l.length<=4):∀x ∈ fl,UA nj x.2:=λx hx=>by
 have:x.2 ∈ Ax fl:=List.mem_map_of_mem hx
 rw [h] at this;refine J1 (λy hy=>?_) (by rw [EG];exact h4) (List.mem_filter.1 this).1;rw [PR,List.mem_mergeSort] at hy;obtain ⟨i,hi,e⟩:=List.mem_iff_getElem.1 hy
 have:=hr i hi
 rw [List.getD_eq_getElem?_getD,List.getElem?_eq_getElem hi,Option.getD_some,e] at this;exact this
end
end Go.Ns
namespace Go.Ns
def PV(h:GH)(t:TypeId)(f:Nat->Value)(L:Nat->List Int)(k:Nat):Prop:=∀i,i<k->Bz h t (f i) (L i)
section
variable {h h' h0:GH} {t t':TypeId} {f:Nat->Value} {L:Nat->List Int} {k r:Nat} {w v v':Value} {p:Bool} {c:Array Value} {g:Nat×Nat}
theorem PV.zero:PV h t f L 0:=λ_ hi=>absurd hi (Nat.not_lt_zero _)
theorem PV.le(x:PV h t f L k)(l:h.Le h'):PV h' t f L k:=λi hi=>(x i hi).le l
theorem PV.store(x:PV h t f L k)(hr:h r=some (p,.cells c t' g))(ne:t'≠t)(ho:∀b,b≠r->h' b=h b):PV h' t f L k:=λi hi=>(x i hi).store hr ne ho
theorem PV.next(x:PV h t f L k)(y:Bz h t w (L k)):PV h t (λi=>if i=k then w else f i) L (k+1):=λi hi=>by
 show Bz h t (if i=k then w else f i) (L i);by_cases e:i=k
 ·rw [if_pos e,e];exact y
 ·rw [if_neg e];exact x i aA
end
def AK.re(j:AK)(v:Value):AK:={ j with pv:=v }
def AE.re(j:AE)(v:Value):AE:={ j with wv:=v }
def H2(js:List AK)(f:Nat->Value)(k:Nat):List AK:=(List.range js.length).map λi=>if i<k then (js.getD i AK.z).re (f i) else js.getD i AK.z
def Ic(ns:List AE)(f:Nat->Value)(k:Nat):List AE:=(List.range ns.length).map λi=>if i<k then (ns.getD i AE.z).re (f i) else ns.getD i AE.z
section
variable {V:Type} {z:V} {l:List V} {F:Nat->V->V} {k:Nat}
def reL(z:V)(l:List V)(F:Nat->V->V)(k:Nat):List V:=(List.range l.length).map λi=>if i<k then F i (l.getD i z) else l.getD i z
theorem KX:(reL z l F k).length=l.length:=by unfold reL;rw [List.length_map,List.length_range]
theorem IG{i:Nat}(hi:i<l.length):(reL z l F k).getD i z=if i<k then F i (l.getD i z) else l.getD i z:=by
 unfold reL;rw [List.getD_eq_getElem?_getD,List.getElem?_map,List.getElem?_range hi];rfl
theorem UE{i:Nat}(hi:i<(reL z l F k).length):(reL z l F k)[i]=if i<k then F i (l.getD i z) else l.getD i z:=by
 have e:=IG (z:=z) (F:=F) (k:=k) (show i<l.length by rw [<-KX (z:=z) (F:=F) (k:=k)];exact hi);rw [List.getD_eq_getElem?_getD,List.getElem?_eq_getElem hi] at e;exact e
theorem reL_0:reL z l F 0=l:=by
 refine List.ext_getElem KX λi h1 h2=>?_;rw [UE,if_neg (Nat.not_lt_zero _),List.getD_eq_getElem?_getD,List.getElem?_eq_getElem h2];rfl
theorem Yt{G:Nat->V->V}(hk:k<l.length)(hG:∀i,i<k->∀x,G i x=F i x):(reL z l F k).set k (G k ((reL z l F k).getD k z))=reL z l G (k+1):=by
 rw [IG hk,if_neg (Nat.lt_irrefl _)];refine List.ext_getElem (by rw [List.length_set,KX,KX]) λi h1 h2=>?_;rw [List.getElem_set,UE];by_cases e:k=i
 ·subst e;rw [if_pos rfl,UE,if_pos aA]
 ·rw [if_neg e,UE];by_cases e2:i<k
  ·rw [if_pos e2,if_pos aA,hG i e2]
  ·rw [if_neg e2,if_neg aA]
end
section
variable {h:GH} {t:TypeId} {f:Nat->Value} {js:List AK} {ns:List AE} {k:Nat} {w:Value}
theorem P5:H2 js f k=reL AK.z js (λi j=>j.re (f i)) k:=rfl
theorem P6:Ic ns f k=reL AE.z ns (λi j=>j.re (f i)) k:=rfl
theorem Oh(js:List AK)(f:Nat->Value)(k:Nat):(H2 js f k).length=js.length:=by rw [P5];exact KX
theorem Oi(ns:List AE)(f:Nat->Value)(k:Nat):(Ic ns f k).length=ns.length:=by rw [P6];exact KX
theorem reJ_0:H2 js f 0=js:=by rw [P5];exact reL_0
theorem reN_0:Ic ns f 0=ns:=by rw [P6];exact reL_0
theorem reJ_put(hk:k<js.length):(H2 js f k).set k (((H2 js f k).getD k AK.z).re w)=H2 js (λi=>if i=k then w else f i) (k+1):=by
 have:=Yt (z:=AK.z) (l:=js) (F:=λi j=>j.re (f i)) (G:=λi j=>j.re (if i=k then w else f i)) hk (λi hi x=>by rw [if_neg aA])
 rw [if_pos rfl] at this;exact this
theorem reN_put(hk:k<ns.length):(Ic ns f k).set k (((Ic ns f k).getD k AE.z).re w)=Ic ns (λi=>if i=k then w else f i) (k+1):=by
 have:=Yt (z:=AE.z) (l:=ns) (F:=λi j=>j.re (f i)) (G:=λi j=>j.re (if i=k then w else f i)) hk (λi hi x=>by rw [if_neg aA])
 rw [if_pos rfl] at this;exact this
theorem SZ(js:List AK)(f:Nat->Value)(k i:Nat):((H2 js f k).getD i AK.z).parts=(js.getD i AK.z).parts:=by
 by_cases hi:i<js.length
 ·rw [P5,IG hi];split <;> rfl
 ·rw [BZ (by rw [Oh];omega),BZ aA]
theorem VP(ns:List AE)(f:Nat->Value)(k i:Nat):((Ic ns f k).getD i AE.z).ways=(ns.getD i AE.z).ways:=by
 by_cases hi:i<ns.length
 ·rw [P6,IG hi];split <;> rfl
 ·rw [BZ (by rw [Oi];omega),BZ aA]
theorem Bm.re(x:Bm h js)(y:PV h t f (λi=>(js.getD i AK.z).parts) k):Bm h (H2 js f k):=λi=>by
 by_cases hi:i<js.length
 ·rw [P5,IG hi];by_cases e:i<k
  ·rw [if_pos e];exact (y i e).1
  ·rw [if_neg e];exact x i
 ·rw [BZ (by rw [Oh];omega)];exact AL.nil _ _ _
theorem Ao.re(x:Ao h ns)(y:PV h t f (λi=>(ns.getD i AE.z).ways) k):Ao h (Ic ns f k):=λi=>by
 by_cases hi:i<ns.length
 ·rw [P6,IG hi];by_cases e:i<k
  ·rw [if_pos e];exact (y i e).1
  ·rw [if_neg e];exact x i
 ·rw [BZ (by rw [Oi];omega)];exact AL.nil _ _ _
def C5(h:GH)(t:TypeId)(js:List AK):Prop:=∀k,Bz h t (js.getD k AK.z).pv (js.getD k AK.z).parts
def CB(h:GH)(t:TypeId)(ns:List AE):Prop:=∀k,Bz h t (ns.getD k AE.z).wv (ns.getD k AE.z).ways
theorem C5.jobs(x:C5 h t js):Bm h js:=λk=>(x k).1
theorem CB.notes(x:CB h t ns):Ao h ns:=λk=>(x k).1
theorem C5.le{h':GH}(x:C5 h t js)(l:h.Le h'):C5 h' t js:=λk=>(x k).le l
theorem CB.le{h':GH}(x:CB h t ns)(l:h.Le h'):CB h' t ns:=λk=>(x k).le l
theorem C5.store{h':GH}{t':TypeId}{r:Nat}{p:Bool}{c:Array Value}{g:Nat×Nat}(x:C5 h t js)(hr:h r=some (p,.cells c t' g))(ne:t'≠t)(ho:∀b,b≠r->h' b=h b):C5 h' t js:=λk=>(x k).store hr ne ho
theorem CB.store{h':GH}{t':TypeId}{r:Nat}{p:Bool}{c:Array Value}{g:Nat×Nat}(x:CB h t ns)(hr:h r=some (p,.cells c t' g))(ne:t'≠t)(ho:∀b,b≠r->h' b=h b):CB h' t ns:=λk=>(x k).store hr ne ho
theorem C5.of(y:PV h t f (λi=>(js.getD i AK.z).parts) k)(hk:js.length<=k):C5 h t (H2 js f k):=λi=>by
 by_cases hi:i<js.length
 ·rw [P5,IG hi,if_pos aA];exact y i aA
 ·rw [BZ (by rw [Oh];omega)];exact Bz.nil _ _
theorem CB.of(y:PV h t f (λi=>(ns.getD i AE.z).ways) k)(hk:ns.length<=k):CB h t (Ic ns f k):=λi=>by
 by_cases hi:i<ns.length
 ·rw [P6,IG hi,if_pos aA];exact y i aA
 ·rw [BZ (by rw [Oi];omega)];exact Bz.nil _ _
theorem Bm.fine1(x:Bm h js)(k:Nat):(Co (js.getD k AK.z)).toList.all (·.oneCell')=true:=by
 show (true && (true && (true && (true && (((js.getD k AK.z).pv.oneCell') && true)))))=true;rw [(AL.one (x k)).2];rfl
theorem Bm.fine(x:Bm h js):∀y ∈ js,(Co y).toList.all (·.oneCell')=true:=λy hy=>by
 obtain ⟨i,hi,e⟩:=List.mem_iff_getElem.1 hy
 have:=x.fine1 i
 rw [List.getD_eq_getElem?_getD,List.getElem?_eq_getElem hi] at this;rw [<-e];exact this
theorem Ao.snoc{x:AE}(a:Ao h ns)(b:AL h x.wv 1 eI x.ways):Ao h (ns++[x]):=λk=>by
 rw [Ii];split
 ·exact a k
 ·cases hk:k-ns.length with
  | zero=>exact b
  | succ n=>rw [BZ aD];exact AL.nil _ _ _
end
theorem Ap.copy{bag kinds:Int}{ps:List ByteArray}{ws:List AB}{js:List AK}{ns:List AE}(b:Ap bag kinds ps ws js ns):(∀i,(js.getD i AK.z).parts.length<=1000)/\∀i,(ns.getD i AE.z).ways.length<=1000:=by
 refine ⟨λi=>?_,λi=>Nat.le_trans (LM b.note i).1 aC⟩;by_cases hi:i<js.length
 ·have:=(MB (b.job i hi)).len
  have:=b.hkin
  omega
 ·rw [BZ aA];exact Nat.zero_le _
end Go.Ns
namespace Go.Ns
section
variable {P:Program} {E:GE P} {O:Nat->Value} {ds:List Deferred} {h:GH} {T:(Nat->Value)->List Deferred->GH->Prop} {dst:Option Nat} {ty:TypeId} {pos:String} {af:Array Edge} {gd:Option (Nat×Bool)}
theorem W7{s:ByteArray}{i:Nat}(h:i<s.size):((s[i]'h).toNat:Int)=(bytesOf s).getD i 0:=by
 have h2:i<(bytesOf s).length:=by rw [C2];exact h
 rw [CQ 0 h2];exact (List.getElem_map (l:=s.data.toList) (f:=λb=>(b.toNat:Int)) (h:=h2)).symm
theorem P7{t:TypeId}{x ix:Operand}{s:ByteArray}{kd:IntKind}{i:Int}(ht:Oy P t=true)(hx:AN O x=.string s)(hi:AN O ix=.int kd i)(h0:0<=i)(h1:i<s.size)(k:T (putS O dst (.int .u8 ((bytesOf s).getD i.toNat 0))) ds h) :
  BU E ⟨dst,.index t x ix,ty,pos,af,gd⟩ O ds h T:=R5 ht hx hi h0 h1 (by rw [W7];exact k)
end
theorem VQ{s:ByteArray}(h:¬(1<=(s.size:Int)/\(s.size:Int)<=10)):Ej s=false:=by unfold Ej;rw [decide_eq_false h,Bool.and_false]
theorem VR{a b:List UInt8}{v:Bool}(h:(a==b)=v):(b==a)=v:=by rw [<-h];exact BEq.comm
def IZ(l:List Int)(k:Nat)(p q:Int):List Int:=if p=l.getD k 0/\¬q ∈ l then l++[q] else l
def C8(l:List Int)(k:Nat)(x:AB):List Int:=IZ (IZ l k x.a x.b) k x.b x.a
def Ae(ws:List AB)(l:List Int)(k:Nat):Nat->List Int
 | 0=>l
 | j+1=>C8 (Ae ws l k j) k (ws.getD j AB.z)
def Ar(ws:List AB):Nat->List Int
 | 0=>[0]
 | k+1=>if k<(Ar ws k).length then Ae ws (Ar ws k) k ws.length else Ar ws k
def HD(ws:List AB):List Int:=Ar ws 4
def H3(np:Nat)(l:List Int):Prop:=l.Nodup/\(∀x ∈ l,0<=x/\x<np)/\0<l.length
def P8(np:Nat)(ws:List AB):Prop:=∀k,k<ws.length->(0<=(ws.getD k AB.z).a/\(ws.getD k AB.z).a<np)/\0<=(ws.getD k AB.z).b/\(ws.getD k AB.z).b<np
section
variable {np:Nat} {l:List Int} {ws:List AB} {k j:Nat} {x:Int} {w:AB}
theorem H3.len(h:H3 np l):l.length<=np:=by
 refine T6 np l.length (λk=>(l.getD k 0).toNat) (λi hi=>?_) λi j hij hj=>?_
 ·have:=h.2.1 _ (BO (d:=(0:Int)) hi)
  show (l.getD i 0).toNat<np;omega
 ·have h1:=h.2.1 _ (BO (d:=(0:Int)) hj);have h2:=h.2.1 _ (BO (d:=(0:Int)) (show i<l.length by omega));show (l.getD i 0).toNat≠(l.getD j 0).toNat;intro e;have e2:l.getD i 0=l.getD j 0:=aA
  rw [List.getD_eq_getElem?_getD,List.getD_eq_getElem?_getD,List.getElem?_eq_getElem aA,List.getElem?_eq_getElem hj,Option.getD_some,Option.getD_some] at e2
  have:=(List.pairwise_iff_getElem.1 (List.nodup_iff_pairwise_ne.1 h.1)) i j aA hj hij
  exact this e2
theorem H3.snoc(h:H3 np l)(hx:0<=x/\x<np)(n:¬x ∈ l):H3 np (l++[x]):=
 ⟨List.nodup_append.2 ⟨h.1,aD,λa ha b hb e=>by rw [List.mem_singleton.1 hb] at e;exact n (e▸ha)⟩,λy hy=>by
  rcases List.mem_append.1 hy with hy | hy
  ·exact h.2.1 y hy
  ·rw [List.mem_singleton.1 hy];exact hx,aD⟩
theorem MN{p q:Int}(h1:p=l.getD k 0)(h2:¬q ∈ l):IZ l k p q=l++[q]:=if_pos ⟨h1,h2⟩
theorem MO{p q:Int}(h:¬(p=l.getD k 0/\¬q ∈ l)):IZ l k p q=l:=if_neg h
theorem rs_tt(h1:w.a=l.getD k 0/\¬w.b ∈ l)(h2:w.b=(l++[w.b]).getD k 0/\¬w.a ∈ l++[w.b]):C8 l k w=l++[w.b]++[w.a]:=by unfold C8;rw [MN h1.1 h1.2,MN h2.1 h2.2]
theorem rs_tf(h1:w.a=l.getD k 0/\¬w.b ∈ l)(h2:¬(w.b=(l++[w.b]).getD k 0/\¬w.a ∈ l++[w.b])):C8 l k w=l++[w.b]:=by unfold C8;rw [MN h1.1 h1.2,MO h2]
theorem rs_ft(h1:¬(w.a=l.getD k 0/\¬w.b ∈ l))(h2:w.b=l.getD k 0/\¬w.a ∈ l):C8 l k w=l++[w.a]:=by unfold C8;rw [MO h1,MN h2.1 h2.2]
theorem rs_ff(h1:¬(w.a=l.getD k 0/\¬w.b ∈ l))(h2:¬(w.b=l.getD k 0/\¬w.a ∈ l)):C8 l k w=l:=by unfold C8;rw [MO h1,MO h2]
theorem Sa{p q:Int}(h:H3 np l)(hq:0<=q/\q<np):H3 np (IZ l k p q):=by
 unfold IZ;split
 ·rename_i c;exact h.snoc hq c.2
 ·exact h
theorem LU(l:List Int)(k:Nat)(p q:Int):l<+:IZ l k p q:=by
 unfold IZ;split
 ·exact List.prefix_append _ _
 ·exact List.prefix_refl _
theorem UF(h:H3 np l)(ha:0<=w.a/\w.a<np)(hb:0<=w.b/\w.b<np):H3 np (C8 l k w):=Sa (Sa h hb) ha
theorem Rf(l:List Int)(k:Nat)(w:AB):l<+:C8 l k w:=(LU _ _ _ _).trans (LU _ _ _ _)
theorem JM(h:H3 np l)(hw:P8 np ws):∀j,j<=ws.length->H3 np (Ae ws l k j)
 | 0,_=>h
 | j+1,hj=>UF (JM h hw j aA) (hw j aA).1 (hw j aA).2
theorem Ia:∀j,l<+:Ae ws l k j
 | 0=>List.prefix_refl _
 | j+1=>(Ia j).trans (Rf _ _ _)
theorem KY(hn:0<np)(hw:P8 np ws):∀k,H3 np (Ar ws k)
 | 0=>⟨by simp [Ar],λx hx=>by rw [List.mem_singleton.1 hx];omega,Nat.zero_lt_one⟩
 | k+1=>by
  unfold Ar;split
  ·exact JM (KY hn hw k) hw _ (Nat.le_refl _)
  ·exact KY hn hw k
theorem OB(hk:k<(Ar ws k).length):Ar ws (k+1)=Ae ws (Ar ws k) k ws.length:=if_pos hk
theorem OC(hk:(Ar ws k).length<=k):∀m,k<=m->Ar ws m=Ar ws k
 | 0,h=>by rw [show k=0 by omega]
 | m+1,h=>by
  by_cases e:m+1=k
  ·rw [e]
  ·have ih:=OC hk m aA
   have:Ar ws (m+1)=Ar ws m:=by
    conv=>lhs;unfold Ar
    rw [if_neg (by rw [ih];omega)]
   rw [this,ih]
theorem Z1(hk:(Ar ws k).length<=k)(hk4:k<=4):HD ws=Ar ws k:=OC hk 4 hk4
end
def FU(np:Nat)(ws:List AB):Int:=if (5:Int)<ws.length then 2 else if¬Cv (Cn np ws) 0 ws.length=0 then Cv (Cn np ws) 0 ws.length else if (HD ws).length<np then 8 else 0
def Do(bag kinds:Int)(ps:List ByteArray)(ws:List AB)(js:List AK)(ns:List AE):Int:=
 if¬Gl bag kinds=0 then Gl bag kinds else if¬BM ps=0 then BM ps else if¬FU ps.length ws=0 then FU ps.length ws else if¬B4 ps.length kinds js=0 then B4 ps.length kinds js else CW ws.length ns
section
variable {V:Type} {p:V->Bool} {l:List V} {d:V} {k j:Nat}
theorem M9(hk:k<l.length)(e:p (l.getD k d)=true):l.any p=true:=List.any_eq_true.2 ⟨_,BO hk,e⟩
theorem KZ(h:(l.take k).any p=false)(hk:l.length<=k):l.any p=false:=by rwa [List.take_of_length_le hk] at h
theorem VS(hj:j<k)(hk:k<=l.length)(e:p (l.getD j d)=true):(l.take k).any p=true:=by
 refine M9 (k:=j) (d:=d) (by rw [List.length_take];omega) ?_;rw [List.getD_eq_getElem?_getD,List.getElem?_take,if_pos hj,<-List.getD_eq_getElem?_getD];exact e
end
section
variable {np nw:Nat} {ws:List AB} {js:List AK} {ns:List AE} {k:Nat} {kinds:Int}
theorem J5{a b:Int}(ha:0<=a/\a<=(np:Int)-1)(hb:0<=b/\b<=(np:Int)-1):Br np [a,b]=0:=by
 have h0:EV np [a,b] 0=0:=if_neg (λe=>e ha);have h1:EV np [a,b] 1=0:=if_neg (λe=>e hb);show Cv (EV np [a,b]) 0 2=0;simp [Cv,h0,h1]
theorem miss_no{a b:Int}(h:¬(0<=a/\a<=(np:Int)-1)\/¬(0<=b/\b<=(np:Int)-1)):Br np [a,b]=6:=by
 show Cv (EV np [a,b]) 0 2=6;by_cases ha:0<=a/\a<=(np:Int)-1
 ·have h0:EV np [a,b] 0=0:=if_neg (λe=>e ha);have h1:EV np [a,b] 1=6:=if_pos (h.resolve_left λe=>e ha);simp [Cv,h0,h1]
 ·have h0:EV np [a,b] 0=6:=if_pos ha;simp [Cv,h0]
theorem P9{a:Int}(ha:0<=a/\a<=(np:Int)-1):Br np [a]=0:=by
 have h0:EV np [a] 0=0:=if_neg (λe=>e ha);show Cv (EV np [a]) 0 1=0;simp [Cv,h0]
theorem miss_no1{a:Int}(ha:¬(0<=a/\a<=(np:Int)-1)):Br np [a]=6:=by
 have h0:EV np [a] 0=6:=if_pos ha;show Cv (EV np [a]) 0 1=6;simp [Cv,h0]
variable (ws k) in
def waP(np:Nat):Prop:=(0<=(ws.getD k AB.z).a/\(ws.getD k AB.z).a<=(np:Int)-1)/\(0<=(ws.getD k AB.z).b/\(ws.getD k AB.z).b<=(np:Int)-1)
theorem wy6(h:¬(0<=(ws.getD k AB.z).a/\(ws.getD k AB.z).a<=(np:Int)-1)\/¬(0<=(ws.getD k AB.z).b/\(ws.getD k AB.z).b<=(np:Int)-1)):Cn np ws k=6:=by
 unfold Cn;rw [miss_no h,if_pos aC]
theorem wyP(h:¬(¬(0<=(ws.getD k AB.z).a/\(ws.getD k AB.z).a<=(np:Int)-1)\/¬(0<=(ws.getD k AB.z).b/\(ws.getD k AB.z).b<=(np:Int)-1))):waP ws k np:=⟨Decidable.byContradiction λe=>h (.inl e),Decidable.byContradiction λe=>h (.inr e)⟩
theorem wy7(h:waP ws k np)(h2:(ws.getD k AB.z).b<=(ws.getD k AB.z).a):Cn np ws k=7:=by
 unfold Cn;rw [J5 h.1 h.2,if_neg aD,if_pos h2]
theorem wy5(h:waP ws k np)(h2:¬(ws.getD k AB.z).b<=(ws.getD k AB.z).a)(h3:(ws.take k).any (λy=>decide (y.a=(ws.getD k AB.z).a/\y.b=(ws.getD k AB.z).b))=true):Cn np ws k=5:=by
 unfold Cn;rw [J5 h.1 h.2,if_neg aD,if_neg h2,if_pos h3]
theorem wy1(h:waP ws k np)(h2:¬(ws.getD k AB.z).b<=(ws.getD k AB.z).a)(h3:(ws.take k).any (λy=>decide (y.a=(ws.getD k AB.z).a/\y.b=(ws.getD k AB.z).b))=false)(h4:¬(((0<=(ws.getD k AB.z).low/\(ws.getD k AB.z).low<=(ws.getD k AB.z).high)/\(ws.getD k AB.z).high<=30)/\(ws.getD k AB.z).high-(ws.getD k AB.z).low<2)):Cn np ws k=1:=by
 unfold Cn;rw [J5 h.1 h.2,if_neg aD,if_neg h2,if_neg (by rw [h3];simp)];exact if_pos h4
theorem wy0(h:waP ws k np)(h2:¬(ws.getD k AB.z).b<=(ws.getD k AB.z).a)(h3:(ws.take k).any (λy=>decide (y.a=(ws.getD k AB.z).a/\y.b=(ws.getD k AB.z).b))=false)(h4:(((0<=(ws.getD k AB.z).low/\(ws.getD k AB.z).low<=(ws.getD k AB.z).high)/\(ws.getD k AB.z).high<=30)/\(ws.getD k AB.z).high-(ws.getD k AB.z).low<2)):Cn np ws k=0:=by
 unfold Cn;rw [J5 h.1 h.2,if_neg aD,if_neg h2,if_neg (by rw [h3];simp)];exact if_neg (λe=>e h4)
theorem W8(h:∀k,k<ws.length->Cn np ws k=0):P8 np ws:=λk hk=>by
 have:=h k hk
 unfold Cn at this;split at this
 ·rename_i a;exact absurd this a
 ·rename_i a
  have q:=FS (Decidable.not_not.1 a);have q1:=q _ List.mem_cons_self;have q2:=q _ (List.mem_cons_of_mem _ List.mem_cons_self);omega
theorem rw2(h:(5:Int)<ws.length):FU np ws=2:=if_pos h
theorem UG{c:Int}(h5:¬(5:Int)<ws.length)(hs:∀j,j<k->Cn np ws j=0)(hk:k<ws.length)(e:Cn np ws k=c)(hc:c≠0):FU np ws=c:=by
 have h1:=BK hs hk e hc;rw [FU,if_neg h5,h1,if_pos hc]
theorem rw8(h5:¬(5:Int)<ws.length)(hs:∀j,j<k->Cn np ws j=0)(hk:ws.length<=k)(h:((HD ws).length:Int)<np):FU np ws=8:=by
 rw [FU,if_neg h5,Bj hs hk,if_neg aD,if_pos aA]
theorem rw0(h5:¬(5:Int)<ws.length)(hs:∀j,j<k->Cn np ws j=0)(hk:ws.length<=k)(h:¬((HD ws).length:Int)<np):FU np ws=0:=by
 rw [FU,if_neg h5,Bj hs hk,if_neg aD,if_neg aA]
theorem jb6(h:¬(0<=(js.getD k AK.z).place/\(js.getD k AK.z).place<=(np:Int)-1)):FJ np kinds js k=6:=by
 unfold FJ;rw [miss_no1 h,if_pos aC]
theorem jb1(h:0<=(js.getD k AK.z).place/\(js.getD k AK.z).place<=(np:Int)-1)(h2:¬(((0<=(js.getD k AK.z).low/\(js.getD k AK.z).low<=(js.getD k AK.z).high)/\(js.getD k AK.z).high<=30)/\(js.getD k AK.z).high-(js.getD k AK.z).low<2)\/¬(0<=(js.getD k AK.z).due/\(js.getD k AK.z).due<=200)):FJ np kinds js k=1:=by
 unfold FJ;rw [P9 h,if_neg aD];exact if_pos h2
theorem jb2(h:0<=(js.getD k AK.z).place/\(js.getD k AK.z).place<=(np:Int)-1)(h2:¬(¬(((0<=(js.getD k AK.z).low/\(js.getD k AK.z).low<=(js.getD k AK.z).high)/\(js.getD k AK.z).high<=30)/\(js.getD k AK.z).high-(js.getD k AK.z).low<2)\/¬(0<=(js.getD k AK.z).due/\(js.getD k AK.z).due<=200)))(h3:¬((js.getD k AK.z).parts.length:Int)=kinds):FJ np kinds js k=2:=by
 unfold FJ;rw [P9 h,if_neg aD];exact (if_neg h2).trans (if_pos h3)
theorem jb3(h:0<=(js.getD k AK.z).place/\(js.getD k AK.z).place<=(np:Int)-1)(h2:¬(¬(((0<=(js.getD k AK.z).low/\(js.getD k AK.z).low<=(js.getD k AK.z).high)/\(js.getD k AK.z).high<=30)/\(js.getD k AK.z).high-(js.getD k AK.z).low<2)\/¬(0<=(js.getD k AK.z).due/\(js.getD k AK.z).due<=200)))(h3:((js.getD k AK.z).parts.length:Int)=kinds):FJ np kinds js k=if (js.getD k AK.z).parts.any (λn=>decide (¬(0<=n/\n<=5))) then 1 else 0:=by
 unfold FJ;rw [P9 h,if_neg aD];exact (if_neg h2).trans (if_neg (λe=>e h3))
theorem nt2(h:(5:Int)<(ns.getD k AE.z).ways.length):Cq nw ns k=2:=if_pos h
theorem nt6(h:¬(5:Int)<(ns.getD k AE.z).ways.length)(h2:(ns.getD k AE.z).ways.any (λn=>decide (¬(0<=n/\n<=(nw:Int)-1)))=true):Cq nw ns k=6:=by
 unfold Cq;rw [if_neg h,if_pos h2]
theorem nt1(h:¬(5:Int)<(ns.getD k AE.z).ways.length)(h2:(ns.getD k AE.z).ways.any (λn=>decide (¬(0<=n/\n<=(nw:Int)-1)))=false)(h3:¬((0<=(ns.getD k AE.z).low/\(ns.getD k AE.z).low<=(ns.getD k AE.z).high)/\(ns.getD k AE.z).high<=200)):Cq nw ns k=1:=by
 unfold Cq;rw [if_neg h,if_neg (by rw [h2];simp),if_pos (λe=>h3 e.1)]
theorem nt0(h:¬(5:Int)<(ns.getD k AE.z).ways.length)(h2:(ns.getD k AE.z).ways.any (λn=>decide (¬(0<=n/\n<=(nw:Int)-1)))=false)(h3:(0<=(ns.getD k AE.z).low/\(ns.getD k AE.z).low<=(ns.getD k AE.z).high)/\(ns.getD k AE.z).high<=200):Cq nw ns k=0:=by
 unfold Cq;rw [if_neg h,if_neg (by rw [h2];simp),if_neg (λe=>e ⟨h3,aA⟩)]
end
section
variable {ps:List ByteArray} {k:Nat} {a b:List (Int×Int)}
theorem pa4(h:Ej (ps.getD k (⟨#[]⟩:ByteArray))=false):E6 ps k=4:=by unfold E6;rw [if_pos h]
theorem pa5(h:Ej (ps.getD k (⟨#[]⟩:ByteArray))=true)(h2:0<=idxOf (λx=>(ps.getD k (⟨#[]⟩:ByteArray)).toList==x.toList) (ps.take k)):E6 ps k=5:=by
 unfold E6;rw [if_neg (by rw [h];simp),if_pos ((E4 _ _).1 h2)]
theorem pa0(h:Ej (ps.getD k (⟨#[]⟩:ByteArray))=true)(h2:¬0<=idxOf (λx=>(ps.getD k (⟨#[]⟩:ByteArray)).toList==x.toList) (ps.take k)):E6 ps k=0:=by
 unfold E6;rw [if_neg (by rw [h];simp),if_neg λe=>h2 ((E4 _ _).2 e)]
theorem Rh(hs:a.take k=b.take k)(hk:k<=a.length)(h:¬(k:Int)<a.length)(hl:(a.length:Int)=b.length):a=b:=by
 rw [List.take_of_length_le aA,List.take_of_length_le aA] at hs;exact hs
theorem eq_getDP{k:Nat}(h:((a.getD k (0,0)).1==(b.getD k (0,0)).1 && ((a.getD k (0,0)).2==(b.getD k (0,0)).2 && true))=true):a.getD k (0,0)=b.getD k (0,0):=by
 simp only [Bool.and_true,Bool.and_eq_true,beq_iff_eq] at h;exact Prod.ext h.1 h.2
theorem ne_getDP{k:Nat}(h:(!((a.getD k (0,0)).1==(b.getD k (0,0)).1 && ((a.getD k (0,0)).2==(b.getD k (0,0)).2 && true)))=true):¬a=b:=λe=>by rw [e] at h;simp at h
end
section
variable (bag kinds:Int) (ps:List ByteArray) (ws:List AB) (js:List AK) (ns:List AE)
def D9:Bool:=decide ((((20:Int)<ps.length\/(20:Int)<ws.length)\/(20:Int)<js.length)\/(20:Int)<ns.length) || ps.any (λs=>decide ((100:Int)<s.size)) || js.any (λj=>decide ((20:Int)<j.parts.length)) || ns.any λn=>decide ((20:Int)<n.ways.length)
def fit9:Bool:= !D9 ps ws js ns && decide (Do bag kinds ps ws js ns=0)
end
section
variable {ps:List ByteArray} {ws:List AB} {js:List AK} {ns:List AE} {k:Nat}
theorem MP(h:D9 ps ws js ns=false)(k:Nat):(ps.getD k (⟨#[]⟩:ByteArray)).size<=1000:=by
 unfold D9 at h;simp only [Bool.or_eq_false_iff] at h;by_cases hk:k<ps.length
 ·have:=List.any_eq_false.1 h.1.1.2 _ (BO (d:=(⟨#[]⟩:ByteArray)) hk)
  have:=of_decide_eq_false (Bool.eq_false_iff.2 this)
  omega
 ·rw [BZ aA];decide
end
section
variable {bag kinds:Int} {ps:List ByteArray} {ws:List AB} {js:List AK} {ns:List AE}
theorem J6(h:BM ps=0):0<ps.length/\ps.length<=4:=by
 unfold BM at h;split at h
 ·cases h
 ·omega
theorem rc1(h:¬(0<=bag/\bag<=9)\/¬(0<=kinds/\kinds<=3)):Do bag kinds ps ws js ns=1:=by
 have e:Gl bag kinds=1:=if_pos h;unfold Do;rw [e,if_pos aC]
theorem tb0(h:¬(¬(0<=bag/\bag<=9)\/¬(0<=kinds/\kinds<=3))):Gl bag kinds=0:=if_neg h
theorem rc2(h0:¬(¬(0<=bag/\bag<=9)\/¬(0<=kinds/\kinds<=3)))(h:¬BM ps=0):Do bag kinds ps ws js ns=BM ps:=by unfold Do;rw [tb0 h0,if_neg aD,if_pos h]
theorem rc3(h0:¬(¬(0<=bag/\bag<=9)\/¬(0<=kinds/\kinds<=3)))(h1:¬¬BM ps=0)(h:¬FU ps.length ws=0):Do bag kinds ps ws js ns=FU ps.length ws:=by unfold Do;rw [tb0 h0,if_neg aD,if_neg h1,if_pos h]
theorem rc4(h0:¬(¬(0<=bag/\bag<=9)\/¬(0<=kinds/\kinds<=3)))(h1:¬¬BM ps=0)(h2:¬¬FU ps.length ws=0)(h:¬B4 ps.length kinds js=0):Do bag kinds ps ws js ns=B4 ps.length kinds js:=by unfold Do;rw [tb0 h0,if_neg aD,if_neg h1,if_neg h2,if_pos h]
theorem rc5(h0:¬(¬(0<=bag/\bag<=9)\/¬(0<=kinds/\kinds<=3)))(h1:¬¬BM ps=0)(h2:¬¬FU ps.length ws=0)(h:¬¬B4 ps.length kinds js=0):Do bag kinds ps ws js ns=CW ws.length ns:=by unfold Do;rw [tb0 h0,if_neg aD,if_neg h1,if_neg h2,if_neg h]
theorem gr_len(h:(((20:Int)<ps.length\/(20:Int)<ws.length)\/(20:Int)<js.length)\/(20:Int)<ns.length):D9 ps ws js ns=true:=by unfold D9;rw [decide_eq_true h];rfl
theorem gr_p(h:ps.any (λs=>decide ((100:Int)<s.size))=true):D9 ps ws js ns=true:=by unfold D9;rw [h];simp
theorem gr_j(h:js.any (λj=>decide ((20:Int)<j.parts.length))=true):D9 ps ws js ns=true:=by unfold D9;rw [h];simp
theorem gr_n(h:ns.any (λn=>decide ((20:Int)<n.ways.length))=true):D9 ps ws js ns=true:=by unfold D9;rw [h];simp
theorem gr_0(h:¬((((20:Int)<ps.length\/(20:Int)<ws.length)\/(20:Int)<js.length)\/(20:Int)<ns.length))(h1:ps.any (λs=>decide ((100:Int)<s.size))=false)(h2:js.any (λj=>decide ((20:Int)<j.parts.length))=false)(h3:ns.any (λn=>decide ((20:Int)<n.ways.length))=false):D9 ps ws js ns=false:=by
 unfold D9;rw [decide_eq_false h,h1,h2,h3];rfl
end
end Go.Ns
namespace Go.Ns
def Cy:List ByteArray:=[⟨#[119,111,114,107,115]⟩,⟨#[97,121,114]⟩,⟨#[98,117,116,101]⟩]
theorem C9:∀k,(Cy.getD k (⟨#[]⟩:ByteArray)).size<=1000
 | 0=>aC
 | 1=>aC
 | 2=>aC
 | k+3=>by rw [BZ (by simp [Cy])];decide
def Cs:List AB:=[⟨0,1,2,3⟩,⟨1,2,4,4⟩,⟨0,2,5,5⟩]
def CO(a b c:Value):List AK:=[⟨1,1,1,5,a,[2]⟩,⟨2,1,2,12,b,[1]⟩,⟨0,1,1,20,c,[1]⟩]
theorem C5.ex{h:GH}{t:TypeId}{a b c:Value}(x:Bz h t a [2])(y:Bz h t b [1])(z:Bz h t c [1]):C5 h t (CO a b c):=λk=>by
 match k with
 | 0=>exact x
 | 1=>exact y
 | 2=>exact z
 | k+3=>rw [BZ (by show 3<=_;omega)];exact Bz.nil _ _
theorem AL.isSl{V:Type}{h:GH}{v:Value}{n:Nat}{enc:V->Array Value}{xs:List V}(x:AL h v n enc xs):∀k i,v≠.int k i:=by
 obtain ⟨a,cap,rfl,_⟩:=x;intro k i e;cases e
theorem AL.across9{h h':GH}{v:Value}{xs:List Int}{r:Nat}{a b c d:Value}{T:TypeId}(x:AL h v 1 eI xs)(hb:h r=some (true,.cells #[.int .i64 3,.int .i64 1,a,b,c,d] T (0,0)))(ho:∀y,y≠r->h' y=h y)
  (ha:∀k i,a≠.int k i) (hb':∀k i,b≠.int k i) (hc:∀k i,c≠.int k i) (hd:∀k i,d≠.int k i) (hx:∀o,o<6->∃i:Fin xs.length,(o+i.val=0->xs[i.val]≠3)/\(o+i.val=1->xs[i.val]≠1)):AL h' v 1 eI xs:=by
 obtain ⟨ad,cap,hv,hcap,hm,he⟩:=x;refine ⟨ad,cap,hv,hcap,hm,λi hi=>?_⟩;obtain ⟨y,off,h1,h2⟩:=he i hi;refine ⟨y,off,h1,h2.same (ho y ?_)⟩;rintro rfl;have key:∀j (hj:j<xs.length),off+j<6/\(#[Value.int .i64 3,.int .i64 1,a,b,c,d]:Array Value).extract (off+j) (off+j+1)=eI xs[j]:=λj hj=>by
  obtain ⟨y2,off2,h3,h4⟩:=he j hj;rw [h1] at h3;simp only [Option.some.injEq,Addr.mk.injEq,and_true] at h3;obtain ⟨rfl,rfl⟩:=h3;obtain ⟨p,cc,t,f,q1,q2,q3⟩:=h4;rw [hb] at q1;simp only [Option.some.injEq,Prod.mk.injEq,Obj.cells.injEq] at q1;obtain ⟨_,rfl,_⟩:=q1;rw [Nat.mul_one] at q2 q3;exact ⟨by simp at q2;omega,q3⟩
 obtain ⟨⟨j,hj⟩,e0,e1⟩:=hx off (by have:=(key i hi).1;omega);obtain ⟨k1,k2⟩:=key j hj;simp only at e0 e1;generalize off+j=o at k1 k2 e0 e1;generalize xs[j]=z at k2 e0 e1
 have:o=0\/o=1\/o=2\/o=3\/o=4\/o=5:=aA
 rcases this with rfl | rfl | rfl | rfl | rfl | rfl
 ·have k3:(#[.int .i64 3]:Array Value)=#[.int .i64 z]:=k2;simp at k3;exact e0 rfl k3.symm
 ·have k3:(#[.int .i64 1]:Array Value)=#[.int .i64 z]:=k2;simp at k3;exact e1 rfl k3.symm
 ·have k3:(#[a]:Array Value)=#[.int .i64 z]:=k2;simp at k3;exact ha _ _ k3
 ·have k3:(#[b]:Array Value)=#[.int .i64 z]:=k2;simp at k3;exact hb' _ _ k3
 ·have k3:(#[c]:Array Value)=#[.int .i64 z]:=k2;simp at k3;exact hc _ _ k3
 ·have k3:(#[d]:Array Value)=#[.int .i64 z]:=k2;simp at k3;exact hd _ _ k3
end Go.Ns
namespace Go.Ns
section
variable {m:EH} {b np i k n:Nat}
structure EH.Sym(m:EH):Prop where
 ok:m.ok
 diag:∀i,m i i=0
 sym:∀i k,m i k=m k i
theorem VT(b i:Nat)(m:EH)(hd:m b b=0)(h0:m.ok):∀n x y,HW b i m n x y=if x=i/\y<n then min (m i y) (m i b+m b y) else m x y
 | 0,x,y=>by rw [if_neg aA];rfl
 | n+1,x,y=>by
  have ih:=VT b i m hd h0 n;have e:HW b i m (n+1)=Oe b i (HW b i m n) n:=Am _ _ _;rw [e];unfold Oe EH.set;by_cases hxy:x=i/\y=n
  ·obtain ⟨rfl,rfl⟩:=hxy;rw [if_pos ⟨rfl,rfl⟩,if_pos ⟨rfl,Nat.lt_succ_self _⟩,ih x y,if_neg aA,ih x b,ih b y];have hb:=h0 x b;have hby:=h0 b y;have hd2:=hd;by_cases h1:x=x/\b<y
   ·rw [if_pos h1];by_cases h2:b=x/\y<y
    ·omega
    ·rw [if_neg h2];rw [hd2];omega
   ·rw [if_neg h1];by_cases h2:b=x/\y<y
    ·omega
    ·rw [if_neg h2]
  ·rw [if_neg hxy,ih x y];by_cases h1:x=i/\y<n
   ·rw [if_pos h1,if_pos ⟨h1.1,aA⟩]
   ·rw [if_neg h1,if_neg (λe=>h1 ⟨e.1,aA⟩)]
theorem Z2(b i:Nat)(m:EH)(hd:m b b=0)(h0:m.ok)(x y:Nat):Nz b np m i x y=if x=i/\y<np then min (m i y) (m i b+m b y) else m x y:=by
 unfold Nz;split
 ·rename_i e
  by_cases h1:x=i/\y<np
  ·obtain ⟨rfl,h2⟩:=h1;rw [if_pos ⟨rfl,h2⟩,e]
   have:=h0 x y
   have:=h0 b y
   omega
  ·rw [if_neg h1]
 ·exact VT b i m hd h0 np x y
theorem QA(b:Nat)(m:EH)(hd:m b b=0)(h0:m.ok):∀n x y,EW b np m n x y=if x<n/\y<np then min (m x y) (m x b+m b y) else m x y
 | 0,x,y=>by rw [if_neg aA];rfl
 | n+1,x,y=>by
  have ih:=QA b m hd h0 n;have e:EW b np m (n+1)=Nz b np (EW b np m n) n:=Am _ _ _;have hd2:EW b np m n b b=0:=by rw [ih b b,hd];split <;> omega
  rw [e,Z2 b n _ hd2 (Of h0)];by_cases h1:x=n/\y<np
  ·obtain ⟨rfl,h2⟩:=h1;rw [if_pos ⟨rfl,h2⟩,if_pos ⟨Nat.lt_succ_self _,h2⟩,ih x y,if_neg aA,ih x b,if_neg aA,ih b y];have h3:=h0 x b;have h4:=h0 b y;by_cases h5:b<x/\y<np
   ·rw [if_pos h5,hd];omega
   ·rw [if_neg h5]
  ·rw [if_neg h1,ih x y];by_cases h2:x<n/\y<np
   ·rw [if_pos h2,if_pos ⟨aA,h2.2⟩]
   ·rw [if_neg h2,if_neg (λe=>aA)]
structure FW(np n:Nat)(m0 m:EH):Prop where
 s:m.Sym
 tri:∀c,c<n->∀i k,i<np->k<np->m i k<=m i c+m c k
 le:∀i k,m i k<=m0 i k
theorem FW.step{m0:EH}(h:FW np n m0 m)(hn:n<np):FW np (n+1) m0 (EW n np m np):=by
 have g:=QA (np:=np) n m (h.s.diag n) h.s.ok np;have s:=h.s;have p:=λi k=>s.ok i k;refine ⟨⟨Of s.ok,λi=>?_,λi k=>?_⟩,λc hc i k hi hk=>?_,λi k=>?_⟩
 ·rw [g i i];have:=p i n;have:=p n i;have:=s.diag i;split <;> omega
 ·rw [g i k,g k i];have h1:=s.sym i k;have h2:=s.sym i n;have h3:=s.sym k n;by_cases c:i<np/\k<np
  ·rw [if_pos c,if_pos ⟨c.2,c.1⟩];omega
  ·rw [if_neg c,if_neg (λe=>c ⟨e.2,e.1⟩)];exact h1
 ·rw [g i k,g i c,g c k,if_pos ⟨hi,hk⟩,if_pos ⟨hi,aA⟩,if_pos ⟨aA,hk⟩];have d:=s.diag n
  have:=p i n
  have:=p n k
  have:=p n c
  have:=p c n
  rcases Nat.lt_or_ge c n with q | q
  ·have t1:=h.tri c q i k hi hk;have t2:=h.tri c q i n hi hn;have t3:=h.tri c q n k hn hk;omega
  ·have:c=n:=aA
   subst this;omega
 ·rw [g i k];have:=h.le i k;split <;> omega
theorem FW.all{m0:EH}(s:m0.Sym):∀n,n<=np->FW np n m0 (Ca np m0 n)
 | 0,_=>⟨s,λc hc=>absurd hc (Nat.not_lt_zero _),λ_ _=>Int.le_refl _⟩
 | n+1,h=>by
  have ih:=FW.all s n aA;have e:Ca np m0 (n+1)=EW n np (Ca np m0 n) np:=Am _ _ _;rw [e];exact ih.step aA
end
theorem Sb(i:Nat)(m:EH):∀n x y,Gx i m n x y=if x=i/\y<n/\i≠y then 1048576 else m x y
 | 0,x,y=>by rw [if_neg aA];rfl
 | n+1,x,y=>by
  have ih:=Sb i m n;have e:Gx i m (n+1)=LN i (Gx i m n) n:=Am _ _ _;rw [e];unfold LN;by_cases h:(i:Int)=(n:Int)
  ·rw [if_neg (λq=>q h),ih x y];by_cases c:x=i/\y<n/\i≠y
   ·rw [if_pos c,if_pos ⟨c.1,aA,c.2.2⟩]
   ·rw [if_neg c,if_neg (λq=>c ⟨q.1,aA,q.2.2⟩)]
  ·rw [if_pos h];show (if x=i/\y=n then 1048576 else Gx i m n x y)=_;by_cases c:x=i/\y=n
   ·rw [if_pos c,if_pos ⟨c.1,aA,aA⟩]
   ·rw [if_neg c,ih x y];by_cases d:x=i/\y<n/\i≠y
    ·rw [if_pos d,if_pos ⟨d.1,aA,d.2.2⟩]
    ·rw [if_neg d,if_neg (λq=>d ⟨q.1,aA,q.2.2⟩)]
theorem J7:∀n x y,IW n x y=if x<n/\y<4/\x≠y then 1048576 else 0
 | 0,x,y=>by rw [if_neg aA];rfl
 | n+1,x,y=>by
  have ih:=J7 n;have e:IW (n+1)=Gx n (IW n) 4:=Am _ _ _;rw [e,Sb,ih x y];by_cases c:x=n/\y<4/\n≠y
  ·rw [if_pos c,if_pos ⟨aA,c.2.1,aA⟩]
  ·rw [if_neg c];by_cases d:x<n/\y<4/\x≠y
   ·rw [if_pos d,if_pos ⟨aA,d.2⟩]
   ·rw [if_neg d,if_neg (λq=>aA)]
theorem far0_sym:(IW 4).Sym:=⟨Yi,λi=>by rw [J7,if_neg (λq=>q.2.2 rfl)],λi k=>by
 rw [J7,J7];by_cases c:i<4/\k<4/\i≠k
 ·rw [if_pos c,if_pos ⟨c.2.1,c.1,c.2.2.symm⟩]
 ·rw [if_neg c,if_neg (λq=>c ⟨q.2.1,q.1,q.2.2.symm⟩)]⟩
section
variable {p:AC} {ws:List AB} {np:Nat}
structure MQ(ws:List AB):Prop where
 rng:∀k,k<ws.length->0<=(ws.getD k AB.z).a/\(ws.getD k AB.z).a<(ws.getD k AB.z).b
 one:∀j k,j<k->k<ws.length->¬((ws.getD j AB.z).a=(ws.getD k AB.z).a/\(ws.getD j AB.z).b=(ws.getD k AB.z).b)
theorem Ka(h:∀k,k<ws.length->Cn np ws k=0):MQ ws:=by
 have key:∀k,k<ws.length->(0<=(ws.getD k AB.z).a)/\¬(ws.getD k AB.z).b<=(ws.getD k AB.z).a/\(ws.take k).any (λy=>decide (y.a=(ws.getD k AB.z).a/\y.b=(ws.getD k AB.z).b))=false:=λk hk=>by
  have w:=(W8 h k hk).1.1
  have:=h k hk
  unfold Cn at this;split at this
  ·rename_i a;exact absurd this a
  ·split at this
   ·cases this
   ·rename_i b
    split at this
    ·cases this
    ·rename_i c
     exact ⟨w,b,by simpa using c⟩
 refine ⟨λk hk=>⟨(key k hk).1,by have:=(key k hk).2.1;omega⟩,λj k hj hk e=>?_⟩
 have:=(key k hk).2.2
 rw [VS (d:=AB.z) hj aA (decide_eq_true e)] at this;cases this
theorem LV(m:EH)(k x y:Nat)(hk:(ws.getD k AB.z).a.toNat≠(ws.getD k AB.z).b.toNat):Jy p ws m k x y=if (x=(ws.getD k AB.z).a.toNat/\y=(ws.getD k AB.z).b.toNat)\/(x=(ws.getD k AB.z).b.toNat/\y=(ws.getD k AB.z).a.toNat) then p.ways k else m x y:=by
 unfold Jy EH.set;by_cases c:x=(ws.getD k AB.z).b.toNat/\y=(ws.getD k AB.z).a.toNat
 ·rw [if_pos c,if_pos (.inr c)]
 ·rw [if_neg c];by_cases d:x=(ws.getD k AB.z).a.toNat/\y=(ws.getD k AB.z).b.toNat
  ·rw [if_pos d,if_pos (.inl d)]
  ·rw [if_neg d,if_neg (λq=>q.elim d c)]
theorem J8(hp:BH p)(hw:MQ ws):∀n,n<=ws.length->(At p ws n).Sym
 | 0,_=>far0_sym
 | n+1,h=>by
  have ih:=J8 hp hw n aA;have r:=hw.rng n aA;have g:=λx y=>LV (p:=p) (ws:=ws) (At p ws n) n x y aA;have e:At p ws (n+1)=Jy p ws (At p ws n) n:=Am _ _ _;refine ⟨LO hp,λi=>?_,λi k=>?_⟩
  ·rw [e,g,if_neg aA];exact ih.diag i
  ·rw [e,g,g];by_cases c:(i=(ws.getD n AB.z).a.toNat/\k=(ws.getD n AB.z).b.toNat)\/(i=(ws.getD n AB.z).b.toNat/\k=(ws.getD n AB.z).a.toNat)
   ·rw [if_pos c,if_pos aA]
   ·rw [if_neg c,if_neg aA];exact ih.sym i k
theorem QB(hw:MQ ws):∀n,n<=ws.length->∀k,k<n->At p ws n (ws.getD k AB.z).a.toNat (ws.getD k AB.z).b.toNat=p.ways k
 | 0,_,k,hk=>absurd hk (Nat.not_lt_zero _)
 | n+1,h,k,hk=>by
  have r:=hw.rng n aA;have rk:=hw.rng k aA;have g:=λx y=>LV (p:=p) (ws:=ws) (At p ws n) n x y aA;have e:At p ws (n+1)=Jy p ws (At p ws n) n:=Am _ _ _;rw [e,g];by_cases q:k=n
  ·subst q;rw [if_pos (.inl ⟨rfl,rfl⟩)]
  ·have one:=hw.one k n aA aA;rw [if_neg aA];exact QB hw n aA k aA
theorem JN(hp:BH p)(hw:MQ ws):FW np np (At p ws ws.length) (AX np ws p):=FW.all (J8 hp hw _ (Nat.le_refl _)) np (Nat.le_refl _)
theorem W9(hp:BH p)(hw:MQ ws){k:Nat}(hk:k<ws.length):AX np ws p (ws.getD k AB.z).a.toNat (ws.getD k AB.z).b.toNat<=p.ways k:=by
 have:=(JN (np:=np) hp hw).le (ws.getD k AB.z).a.toNat (ws.getD k AB.z).b.toNat
 rwa [QB hw _ (Nat.le_refl _) k hk] at this
end
end Go.Ns
namespace Go.Ns
section
variable {ws:List AB} {c:GJ} {x:AB} {i n k np:Nat}
theorem J9(h:c i=true):F4 c x i=true:=by
 unfold F4 GJ.set;by_cases e:i=x.b.toNat
 ·rw [if_pos e];by_cases e2:x.b.toNat=x.a.toNat
  ·rw [if_pos e2];rw [e,e2] at h;rw [h];simp
  ·rw [if_neg e2,<-e,h];simp
 ·rw [if_neg e];by_cases e2:i=x.a.toNat
  ·rw [if_pos e2,<-e2,h];simp
  ·rw [if_neg e2];exact h
theorem VU(h:c x.a.toNat=true\/c x.b.toNat=true):F4 c x x.a.toNat=true/\F4 c x x.b.toNat=true:=by
 unfold F4 GJ.set;rcases h with h | h
 ·constructor
  ·by_cases e:x.a.toNat=x.b.toNat
   ·rw [if_pos e];simp [h]
   ·rw [if_neg e];simp [h]
  ·rw [if_pos rfl];simp [h]
 ·constructor
  ·by_cases e:x.a.toNat=x.b.toNat
   ·rw [if_pos e];simp [h]
   ·rw [if_neg e];simp [h]
  ·rw [if_pos rfl];simp [h]
theorem Hc:∀(l:List AB)(c:GJ),c i=true->l.foldl F4 c i=true
 | [],_,h=>h
 | x ::l,c,h=>Hc l _ (J9 h)
theorem F9:∀(l:List AB)(c:GJ),x ∈ l->(c x.a.toNat=true\/c x.b.toNat=true)->l.foldl F4 c x.a.toNat=true/\l.foldl F4 c x.b.toNat=true
 | y ::l,c,hx,h=>by
  rcases List.mem_cons.1 hx with e | hx
  ·subst e;have b:=VU h;exact ⟨Hc l _ b.1,Hc l _ b.2⟩
  ·exact F9 l _ hx (h.imp J9 J9)
theorem IH:∀n (c:GJ),D7 ws (n+1) c=Gv ws (D7 ws n c)
 | 0,_=>rfl
 | n+1,c=>IH n (Gv ws c)
theorem Kb{m:Nat}(h:D7 ws n c i=true):∀d,m=n+d->D7 ws m c i=true
 | 0,e=>by rw [e];exact h
 | d+1,e=>by
  rw [e,show n+(d+1)=(n+d)+1 by omega,IH];exact Hc ws _ (Kb h d rfl)
def c0:GJ:=GJ.none.set 0 true
def Ij(ws:List AB)(l:List Int):Prop:=∀i,i<l.length->D7 ws i c0 (l.getD i 0).toNat=true
theorem Ij.snoc{l:List Int}{q:Int}(h:Ij ws l)(hq:D7 ws l.length c0 q.toNat=true):Ij ws (l++[q]):=λi hi=>by
 rw [List.length_append,List.length_singleton] at hi;rw [Ii];by_cases e:i<l.length
 ·rw [if_pos e];exact h i e
 ·rw [if_neg e,show i=l.length by omega,Nat.sub_self];exact hq
theorem Ij.step{l:List Int}(h:Ij ws l)(hk:k<l.length)(hx:x ∈ ws):Ij ws (C8 l k x):=by
 have one:∀{l:List Int}{p q:Int},Ij ws l->k<l.length->(x.a=p/\x.b=q\/x.b=p/\x.a=q)->Ij ws (IZ l k p q):=by
  intro l p q h hk hpq;unfold IZ;split
  ·rename_i e
   have f:=h k hk;rw [<-e.1] at f;have g:D7 ws (k+1) c0 q.toNat=true:=by
    rw [IH];rcases hpq with ⟨rfl,rfl⟩ | ⟨rfl,rfl⟩
    ·exact (F9 ws _ hx (.inl f)).2
    ·exact (F9 ws _ hx (.inr f)).1
   exact h.snoc (Kb g (l.length-(k+1)) aA)
  ·exact h
 have h1:=one h hk (.inl ⟨rfl,rfl⟩);have hl:=(LU l k x.a x.b).length_le;exact one h1 aA (.inr ⟨rfl,rfl⟩)
theorem Ij.ways{l:List Int}(h:Ij ws l)(hk:k<l.length):∀j,j<=ws.length->Ij ws (Ae ws l k j)
 | 0,_=>h
 | j+1,hj=>(Ij.ways h hk j aA).step (Nat.lt_of_lt_of_le hk (Ia j).length_le) (BO aA)
theorem NA:∀k,Ij ws (Ar ws k)
 | 0=>λi hi=>by
  have:i=0:=by
   have:i<1:=hi
   omega
  subst this;rfl
 | k+1=>by
  unfold Ar;split
  ·rename_i e;exact (NA k).ways e _ (Nat.le_refl _)
  ·exact NA k
theorem UH(hn:0<np)(hw:P8 np ws)(h:¬(HD ws).length<np):E7 np ws=0:=by
 have ok:H3 np (HD ws):=KY hn hw 4;have hl:=ok.len;have all:∀y,y<np->D7 ws np c0 y=true:=λy hy=>by
  have mem:(y:Int) ∈ HD ws:=Decidable.byContradiction λe=>by
   have:=(ok.snoc (x:=(y:Int)) ⟨aA,aA⟩ e).len
   rw [List.length_append,List.length_singleton] at this;omega
  obtain ⟨i,hi,e⟩:=List.mem_iff_getElem.1 mem;have f:D7 ws i c0 ((HD ws).getD i 0).toNat=true:=NA (ws:=ws) 4 i hi;have e2:(HD ws).getD i 0=(y:Int):=by
   rw [List.getD_eq_getElem?_getD,List.getElem?_eq_getElem hi];exact e
  rw [e2] at f;exact Kb f (np-i) (by have hi':i<(HD ws).length:=hi;omega)
 unfold E7;rw [if_neg];intro e;obtain ⟨b,hb,hf⟩:=List.any_eq_true.1 e;unfold Mx at hb;obtain ⟨y,hy,rfl⟩:=List.mem_map.1 hb
 have:D7 ws np (GJ.none.set 0 true) y=true:=all y (List.mem_range.1 hy)
 rw [this] at hf;cases hf
end
section
variable {bag kinds:Int} {ps:List ByteArray} {ws:List AB} {js:List AK} {ns:List AE}
theorem XA(hn:0<ps.length)(h:FU ps.length ws=0):Ek ps.length ws=0:=by
 unfold FU at h;split at h
 ·cases h
 ·rename_i a
  split at h
  ·rename_i b;exact absurd h b
  ·rename_i b
   split at h
   ·cases h
   ·rename_i c
    unfold Ek;rw [if_neg a,if_neg b];have z:=DM (Decidable.not_not.1 b);exact UH hn (W8 λk hk=>z k (Nat.zero_le _) aA) c
theorem VV(h:Do bag kinds ps ws js ns=0):A0 bag kinds ps ws js ns=0:=by
 unfold Do at h;split at h
 ·rename_i a;exact absurd h a
 ·rename_i a
  split at h
  ·rename_i b;exact absurd h b
  ·rename_i b
   split at h
   ·rename_i c;exact absurd h c
   ·rename_i c
    split at h
    ·rename_i d;exact absurd h d
    ·rename_i d
     have h1:=Decidable.not_not.1 a;have h2:=Decidable.not_not.1 b;have h3:=XA (J6 h2).1 (Decidable.not_not.1 c);have h4:=Decidable.not_not.1 d;unfold A0;refine Bj (k:=5) (λj hj=>?_) (Nat.le_refl _)
     match j with
     | 0=>exact h1
     | 1=>exact h2
     | 2=>exact h3
     | 3=>exact h4
     | 4=>exact h
     | j+5=>omega
theorem fit9_ok(h:fit9 bag kinds ps ws js ns=true):A0 bag kinds ps ws js ns=0/\∀k,(ps.getD k (⟨#[]⟩:ByteArray)).size<=1000:=by
 unfold fit9 at h;rw [Bool.and_eq_true] at h;exact ⟨VV (of_decide_eq_true h.2),MP (by simpa using h.1)⟩
end
end Go.Ns
namespace Go.Ns
open Go.Conc
section
variable {P:Program} {E:GE P} {O:Nat->Value} {ds:List Deferred} {h:GH} {T:(Nat->Value)->List Deferred->GH->Prop} {dst:Option Nat} {ty:TypeId} {pos:String} {af:Array Edge} {gd:Option (Nat×Bool)}
end
section
variable {F G:AC->Int} {l:List AC} {x:AC}
theorem Yu(h:0<l.length):∀k,k<=l.length-1->∃x ∈ l,U4 F l k=F x
 | 0,_=>⟨_,BO h,rfl⟩
 | k+1,hk=>by
  obtain ⟨x,hx,e⟩:=Yu h k aA;rcases Int.le_total (U4 F l k) (F ((l.drop 1).getD k AC.zero)) with q | q
  ·exact ⟨x,hx,(Int.min_eq_left q).trans e⟩
  ·exact ⟨_,M0 aA,Int.min_eq_right q⟩
theorem Yv(h:0<l.length):∀k,k<=l.length-1->∃x ∈ l,U5 F l k=F x
 | 0,_=>⟨_,BO h,rfl⟩
 | k+1,hk=>by
  obtain ⟨x,hx,e⟩:=Yv h k aA;rcases Int.le_total (U5 F l k) (F ((l.drop 1).getD k AC.zero)) with q | q
  ·exact ⟨_,M0 aA,Int.max_eq_right q⟩
  ·exact ⟨x,hx,(Int.max_eq_left q).trans e⟩
theorem VW{k:Nat}:(l.drop 1).getD k AC.zero=l.getD (k+1) AC.zero:=by
 rw [List.getD_eq_getElem?_getD,List.getElem?_drop,<-List.getD_eq_getElem?_getD,Nat.add_comm]
theorem fLo_le:∀k j,j<=k->U4 F l k<=F (l.getD j AC.zero)
 | 0,j,h=>by rw [show j=0 by omega];exact Int.le_refl _
 | k+1,j,h=>by
  show min (U4 F l k) (F ((l.drop 1).getD k AC.zero))<=_;rcases Nat.lt_or_ge j (k+1) with q | q
  ·have:=fLo_le k j aA;omega
  ·have e:j=k+1:=aA
   subst e;rw [VW];omega
theorem fHi_ge:∀k j,j<=k->F (l.getD j AC.zero)<=U5 F l k
 | 0,j,h=>by rw [show j=0 by omega];exact Int.le_refl _
 | k+1,j,h=>by
  show _<=max (U5 F l k) (F ((l.drop 1).getD k AC.zero));rcases Nat.lt_or_ge j (k+1) with q | q
  ·have:=fHi_ge k j aA;omega
  ·have e:j=k+1:=aA
   subst e;rw [VW];omega
theorem Yw(hx:x ∈ l):∃j,j<=l.length-1/\x=l.getD j AC.zero:=by
 obtain ⟨j,hj,e⟩:=List.mem_iff_getElem.1 hx;exact ⟨j,aA,by rw [List.getD_eq_getElem?_getD,List.getElem?_eq_getElem hj];exact e.symm⟩
theorem Yx(hx:x ∈ l):CC F l<=F x:=by obtain ⟨j,hj,rfl⟩:=Yw hx;exact fLo_le _ j hj
theorem Yy(hx:x ∈ l):F x<=BA F l:=by obtain ⟨j,hj,rfl⟩:=Yw hx;exact fHi_ge _ j hj
theorem VX(h:0<l.length):∃x ∈ l,CC F l=F x:=Yu h _ (Nat.le_refl _)
theorem VY(h:0<l.length):∃x ∈ l,BA F l=F x:=Yv h _ (Nat.le_refl _)
end
section
variable {bag kinds:Int} {ps:List ByteArray} {ws:List AB} {js:List AK} {ns:List AE} {a b c:Int}
theorem miss0(ha:0<=a/\a<ps.length)(hb:0<=b/\b<ps.length):Br ps.length [a,b]=0:=J5 ⟨ha.1,aA⟩ ⟨hb.1,aA⟩
end
section
variable {bag kinds:Int} {ps:List ByteArray} {ws:List AB} {js:List AK} {ns:List AE} {a b c s:Int}
end
end Go.Ns
namespace Go.Ns
open Go.Conc
section
variable {P:Program} {Post:Value->World->Prop}
def Yz(P:Program)(Post:Value->World->Prop):Wk P:=⟨true,Dx P Post,Ks⟩
theorem UI:LK (Yz P Post):=⟨Post,rfl⟩
theorem Z3{f:FuncId}{fn:Func}{c:Code}{args:Array Value}{h:GH}{R:Value->GH->Prop}(hf:P.funcs[f]? =some fn)(hb:fn.body=some c)(hsz:args.size<=fn.ntmps)(hin:P.inits.idxOf? f=none)(hpost:∀v h',R v h'->∀w,D3 w h'->Post v w)
  (x:Tr ⟨Yz P Post,f,none,fn.ntmps⟩ c (λi=>args.getD i undef) [] h (λe O ds h'=>(e=.normal\/e=.ret)/\GM P fn O R ds h')):Dx P Post (G (Frame.enter P f args .normal) []) h:=by
 have e0:Frame.enter P f args .normal=Cc (Frame.enter P f args .normal) (args++Array.replicate (fn.ntmps-args.size) undef) [] [.code c]:=by
  simp [Frame.enter,Cc,hf,hb]
 rw [e0];let L:Lv:=λj t ds h'=>(j=none\/j=some .ret)/\∃O,BS t fn.ntmps O/\GM P fn O R ds h';have fin:∀O ds h' t k,BS t fn.ntmps O->GM P fn O R ds h'->(Yz P Post).K (G (ES (Frame.enter P f args .normal) t ds k) []) h':=by
  intro O ds h' t k hs ho;refine Nf (W:=Yz P Post) (R:=R) hf (b:=Frame.enter P f args .normal) rfl (λt k v h h' hr hrun=>?_) ds h' t k hs ho;refine WK rfl λw fw=>?_;obtain ⟨w',es,r1,r2⟩:=hrun w fw;refine ⟨v,w',seen P f es++ #[],h',?_,r2.sub (es':=seen P f es++ #[]) λe he=>?_,hpost v h' hr w' r2.fits⟩
  ·rw [LA];unfold unwind;have hfn:(ES (Frame.enter P f args .normal) t [] k).fn=f:=rfl;have hk:(ES (Frame.enter P f args .normal) t [] k).kind=.normal:=rfl;have hm:(ES (Frame.enter P f args .normal) t [] k).mode=.returning:=rfl;have hd:(ES (Frame.enter P f args .normal) t [] k).defers=[]:=rfl;have ht:(ES (Frame.enter P f args .normal) t [] k).tmps=t:=rfl;simp only [hd,hm,hfn,hf,ht,r1,GStep.after,doReturn,hk,hin];rfl
  ·rw [Array.append_empty] at he;exact mem_seen he
 refine x (Frame.enter P f args .normal) [] [] L _ rfl rfl ⟨?_,?_,?_⟩ ⟨by simp;omega,λi=>?_⟩ ?_
 ·rintro t ds h' ⟨_,O,hs,ho⟩;exact Wk.go (ES (Frame.enter P f args .normal) t ds []) (λw=>by rw [Ay];simp [stepG.exec,Cc,ES,G,Frame.enter]) (fin O ds h' t [] hs ho)
 ·rintro t ds h' k ⟨_,O,hs,ho⟩;exact Wk.go (ES (Frame.enter P f args .normal) t ds (.code .ret ::k)) (λw=>by rw [Ay];simp [stepG.exec,Cc,ES,G,Frame.enter]) (fin O ds h' t _ hs ho)
 ·rintro id t ds h' k _ ⟨h1 | h1,_⟩ <;> cases h1
 ·by_cases hi:i<args.size
  ·simp [Array.getD_eq_getD_getElem?,Array.getElem?_append_left hi]
  ·simp only [Array.getD_eq_getD_getElem?];rw [Array.getElem?_append_right aA,Array.getElem?_eq_none (show args.size<=i by omega),Array.getElem?_replicate];split <;> rfl
 ·rintro e O ds h' ⟨he,ho⟩ t' ht';rcases he with rfl | rfl
  ·exact Wk.go (ES (Frame.enter P f args .normal) t' ds []) (λw=>by rw [Ay];simp [stepG.exec,Cc,ES,G,Frame.enter]) (fin O ds h' t' [] ht' ho)
  ·exact ⟨.inr rfl,O,ht',ho⟩
def GH.of(W:World):GH:=λb=>(W.heap[b]?).map λo=>(false,o)
theorem GH.of_some{W:World}{b:Nat}{o:Obj}(h:W.heap[b]? =some o):GH.of W b=some (false,o):=by unfold GH.of;rw [h];rfl
theorem fits_of(W:World):D3 W (GH.of W):=λb p o h=>by
 unfold GH.of at h;cases e:W.heap[b]? with
 | none=>rw [e] at h;cases h
 | some x=>rw [e] at h;cases h;rfl
theorem kept_of{W w:World}{h:GH}(l:(GH.of W).Le h)(f:D3 w h){b:Nat}{o:Obj}(hb:W.heap[b]? =some o):w.heap[b]? =some o:=f b _ _ (l.keep (GH.of_some hb) rfl)
theorem XB{g:Goroutine}{W:World}(hg:Dx P Post g (GH.of W)):Bl P (Iv Post W.os W.output) (solo g W) #[]:=by
 have hno:∀k a,touchAt (#[]:Trace) k=some a->False:=λk a h=>by
  obtain ⟨op,h1,_⟩:=touch_of h;simp at h1
 refine hg #[g] W none (λ_=>0) #[] ⟨rfl,?_,fits_of W,?_,?_,λk a b hk=>(hno k a hk).elim,?_,λk a hk=>(hno k a hk).elim,λb p o k a _ _ hk=>(hno k a hk).elim⟩
 ·intro j x hj hx;rw [Array.getElem?_eq_none (by simp;omega)] at hx;cases hx
 ·intro op CR;simp at CR
 ·rintro said ⟨i,j,hij,⟨a,b,ha,_⟩,_⟩;exact hno i a ha
 ·intro op CR;simp at CR
end
end Go.Ns
namespace Go.Ns
open Go.Conc Go.ChangeShapes Go.WideShapes Go.ChangeAt Go.RowKit
section
variable {P:Program} {W:World}
theorem XC{b off n:Nat}{cs:List Value}(h:W.cells? 0 ⟨b,off,none⟩ n=some cs)(hn:0<n):AY (GH.of W) b off n cs.toArray:=by
 obtain ⟨_,hl,hc⟩:=World.cells?_some h;have hcell:∀i,i<n->W.cell? ⟨b,off+i,none⟩=cs[i]? :=λi hi=>by
  have:=hc i hi
  unfold Addr.add at this;split at this
  ·rename_i e;subst e;exact this
  ·exact this
 have h0:=hcell 0 hn;unfold World.cell? at h0;cases hb:W.heap[b]? with
 | none=>simp [hb,List.getElem?_eq_getElem (show 0<cs.length by omega)] at h0
 | some o=>
  cases o with
  | cells c t f=>
   have hall:∀i,i<n->c[off+i]? =cs[i]? :=λi hi=>by
    have:=hcell i hi
    unfold World.cell? at this;simpa [hb] using this
   have hlast:=hall (n-1) aA;rw [List.getElem?_eq_getElem (show n-1<cs.length by omega)] at hlast;have hsz:=(Array.getElem?_eq_some_iff.1 hlast).1;refine ⟨false,c,t,f,GH.of_some hb,aA,?_⟩;apply Array.ext
   ·simp;omega
   ·intro i h1 h2;have hi:i<n:=by simp at h2;omega
    have:=hall i hi
    rw [Array.getElem?_eq_getElem aA,List.getElem?_eq_getElem aA] at this;simpa using this
  | _=>simp [hb,List.getElem?_eq_getElem (show 0<cs.length by omega)] at h0
def NB(P:Program)(W:World)(e:TypeId){V:Type}(enc:V->Array Value)(good:V->Prop):Prop:=
 ∀{H:Type}(en:TypeId×Value->H)(sp:Nat->Bool)(held:Bool)(fuel:Nat)(cs:List Value)(x:DataW H×List MemPlace),DataW.trod en P W 0 sp held fuel e cs=some x->(∀y ∈ x.1.weights P e,y<=reachBytes)->∃a:V,cs=(enc a).toList/\good a
theorem KA{H:Type}{e:TypeId}{d:DataW H}{y:Nat}:∀{l:List (DataW H)},d ∈ l->y ∈ d.weights P e->y ∈ DataW.weightsAll P e l
 | c ::l,hd,hy=>by
  unfold DataW.weightsAll;rcases List.mem_cons.1 hd with rfl | hd
  ·exact List.mem_append_left _ hy
  ·exact List.mem_append_right _ (KA hd hy)
theorem Ik{H:Type}{en:TypeId×Value->H}{sp:Nat->Bool}{held:Bool}{fuel:Nat}{t e:TypeId}{n:Nat}{V:Type}{enc:V->Array Value}{good:V->Prop}{v:Value}{d:DataW H}{ps:List MemPlace}(ht:P.underlying t=some (.slice e))(hc:P.cellsOf e=n)(hn:0<n)
  (hb:1<=P.bytesOf e) (ho:NB P W e enc good) (h:DataW.trod en P W 0 sp held fuel t [v]=some (d,ps)) (hw:∀y ∈ d.weights P t,y<=reachBytes):∃xs:List V,AL (GH.of W) v n enc xs/\∀x ∈ xs,good x:=by
 rcases DataW.trod_slice ht h with ⟨h1,_⟩ | ⟨a,len,cap,elems,rest,m,rfl,h1,h2,_,hl,_,hlen,hel,_,_⟩
 ·simp at h1;subst h1;exact ⟨[],AL.nil _ _ _,λx hx=>by cases hx⟩
 ·simp only [List.cons.injEq,and_true] at h1;subst h1;simp only [Prod.mk.injEq] at h2;have hd:d=.slice (elems.map (·.1)) (rest.map (·.1)):=h2.1;have hlim:len<=140737488355328:=by
   have:=hw ((elems.map (·.1)).length+(rest.map (·.1)).length |>.mul (P.bytesOf e)) (by rw [hd];unfold DataW.weights;rw [ht];exact List.mem_cons_self ..)
   have h3:(elems.map (·.1)).length+(rest.map (·.1)).length<=((elems.map (·.1)).length+(rest.map (·.1)).length)*P.bytesOf e:=Nat.le_mul_of_pos_right _ hb;have h4:((elems.map (·.1)).length+(rest.map (·.1)).length)*P.bytesOf e<=reachBytes:=this;rw [List.length_map] at h3 h4;unfold reachBytes at h4;omega
  have each:∀i,i<len->∃x:V,∃b off,a=⟨b,off,none⟩/\AY (GH.of W) b (off+i*n) n (enc x)/\good x:=λi hi=>by
   have:=hel i hi
   rw [List.getElem?_eq_getElem aA,hc] at this;simp only [Option.bind_eq_some_iff] at this;obtain ⟨cs,hcs,hx⟩:=this;obtain ⟨x,e1,e2⟩:=ho _ _ _ _ _ _ hx λy hy=>hw y (by rw [hd];unfold DataW.weights;rw [ht];exact List.mem_cons_of_mem _ (List.mem_append_left _ (KA (List.mem_map.2 ⟨_,List.getElem_mem (show i<elems.length by omega),rfl⟩) hy)));have hc0:=(World.cells?_some hcs).2.2 0 hn;have hlen2:=(World.cells?_some hcs).2.1;rw [List.getElem?_eq_getElem (show 0<cs.length by omega)] at hc0;have hsp:=World.cell?_spot hc0;obtain ⟨b,off,spot⟩:=a;have hspot:spot=none\/i≠0:=by
    by_cases e0:i=0
    ·subst e0;left;simpa [Addr.add] using hsp
    ·exact .inr e0
   have hfirst:spot=none:=by
    rcases hspot with e | e
    ·exact e
    ·have h00:=hel 0 aA;rw [List.getElem?_eq_getElem aA,hc] at h00;simp only [Option.bind_eq_some_iff] at h00;obtain ⟨c0,hc00,_⟩:=h00;have z:=(World.cells?_some hc00).2.2 0 hn;have zl:=(World.cells?_some hc00).2.1;rw [List.getElem?_eq_getElem (show 0<c0.length by omega)] at z
     have:=World.cell?_spot z
     simpa [Addr.add] using this
   subst hfirst;refine ⟨x,b,off,rfl,?_,e2⟩;have ea:(Addr.add ⟨b,off,none⟩ (i*n))=⟨b,off+i*n,none⟩:=by
    unfold Addr.add;split
    ·rename_i e;rw [e];rfl
    ·rfl
   rw [ea] at hcs
   have:=XC hcs hn
   rw [e1] at this;simpa using this
  by_cases hz:len=0
  ·subst hz;exact ⟨[],⟨some a,cap,rfl,Nat.zero_le _,Nat.zero_le _,λi hi=>by simp at hi⟩,λx hx=>by cases hx⟩
  ·have hch:∀i:Fin len,∃x:V,∃b off,a=⟨b,off,none⟩/\AY (GH.of W) b (off+i.val*n) n (enc x)/\good x:=λi=>each i.val i.isLt;refine ⟨List.ofFn λi=>Classical.choose (hch i),⟨some a,cap,by rw [List.length_ofFn],by rw [List.length_ofFn];exact hl,by rw [List.length_ofFn];exact hlim,λi hi=>?_⟩,λx hx=>?_⟩
   ·rw [List.length_ofFn] at hi;obtain ⟨b,off,e1,e2,_⟩:=Classical.choose_spec (hch ⟨i,hi⟩);refine ⟨b,off,by rw [e1],?_⟩;rw [List.getElem_ofFn];exact e2
   ·obtain ⟨i,rfl⟩:=List.mem_ofFn.1 hx;obtain ⟨_,_,_,_,e3⟩:=Classical.choose_spec (hch i);exact e3
theorem Kc{H:Type}{en:TypeId×Value->H}{t:TypeId}(hl:laidOutB P=true)(hr:P.readableRec t=true)(hrow:t<P.types.size){W':World}{v:Value}{d:DataW H}{ps:List MemPlace}(h:DataW.Trod en P W 0 (λ_=>true) true t v d ps)
  (hk:∀(b:Nat)(o:Obj),W.heap[b]? =some o->W'.heap[b]? =some o) (hlt:∀x ∈ ps,x.block<W.heap.size):DataW.Trod en P W' 0 (λb=>decide (b<W.heap.size)) true t v d ps:=by
 let W2:World:={ W' with os:=W.os,tape:=W.tape,output:=W.output };have hsz:W.heap.size<=W'.heap.size:=by
  rcases Nat.lt_or_ge W'.heap.size W.heap.size with x | x
  ·have:=hk W'.heap.size _ (Array.getElem?_eq_getElem x)
   rw [Array.getElem?_eq_none (Nat.le_refl _)] at this;cases this
  ·exact x
 have hb:Below W.heap.size W W2:=⟨rfl,rfl,rfl,hsz,λk hk'=>by
  show W'.heap[k]? =_;rw [Array.getElem?_eq_getElem hk'];exact hk k _ (Array.getElem?_eq_getElem hk')⟩
 exact DataW.Trod.of_heap (w:=W2) (w':=W') rfl (Below.trod hl hr hrow h hb hlt)
theorem kept_but{W':World}(hk:∀(b:Nat)(o:Obj),W.heap[b]? =some o->W'.heap[b]? =some o)(ho:W'.os=W.os)(hp:W'.output=W.output)(may:MemPlace->Prop):W.keptBut W' may:=by
 refine ⟨ho,hp,λi hi=>?_⟩;rw [hk i _ (Array.getElem?_eq_getElem hi),Array.getElem?_eq_getElem hi];split <;> simp_all
end
end Go.Ns
namespace Go.Ns
open Go.Conc
theorem QC{P:Program}{E:GE P}{O:Nat->Value}{ds:List Deferred}{h:GH}{T:(Nat->Value)->List Deferred->GH->Prop}{dst:Option Nat}{ty:TypeId}{pos:String}{af:Array Edge}{gd:Option (Nat×Bool)}{V:Type}
  {s x:TypeId} {o1 o2:Operand} {h0:GH} {w:Value} {r e n bytes:Nat} {enc:V->Array Value} {ys:List V} (ht:Ie P s x=some (e,n,bytes)) (h1:AN O o1=.slice (some ⟨r,0,none⟩) 0 0) (h2:AN O o2=w)
  (hv:AO h0 h (.slice (some ⟨r,0,none⟩) 0 0) e n enc ([]:List V)) (hw:AL h w n enc ys) (l0:∀q,h q=none->h0 q=none) (hb:(2*(([]:List V).length+ys.length)+512)*bytes<=2 ^ 48) (hfine:∀y ∈ ys,(enc y).toList.all (·.oneCell')=true)
  (k:∀v' h',AO h0 h' v' e n enc ys->Fy h h' (.slice (some ⟨r,0,none⟩) 0 0) v'->h.Le h'->T (putS O dst v') ds h'):BU E ⟨dst,.call ⟨.builtin .append,#[o1,o2],#[s,x]⟩,ty,pos,af,gd⟩ O ds h T:=
 O3 ht h1 h2 hv hw l0 hb hfine λv' h' o g1 g2 g3=>k v' h' o ⟨g1,g2⟩ (.of λb y hb=>by
  by_cases e:b=r
  ·subst e;rcases hv with ⟨q,_⟩ | ⟨b1,cap,c,q,_,q2,q3,_⟩
   ·cases q
   ·simp only [Value.slice.injEq,Option.some.injEq,Addr.mk.injEq,and_true] at q;obtain ⟨rfl,_,rfl⟩:=q;obtain ⟨c',q5,q6⟩:=g3 b c rfl q2;rw [q2] at hb;cases hb;rw [q5,Array.eq_empty_of_size_eq_zero (show c.size=0 by omega),Array.eq_empty_of_size_eq_zero (show c'.size=0 by omega)]
  ·exact g1 b y hb λq=>e (by simpa [CP] using q.symm))
def GL(n:Nat)(l:List Int):Prop:=l.Nodup/\∀x ∈ l,0<=x/\x<n
section
variable {n i:Nat} {l kn rest:List Int}
theorem GL.at(h:GL n l)(k:Nat)(hk:k<l.length):0<=l.getD k 0/\l.getD k 0<n:=h.2 _ (BO hk)
theorem GL.bell(h:GL n l):AU n l=0:=Bj (k:=l.length) (λj hj=>by
 have r:=h.at j hj;have e:E9 n (l.getD j 0)=0:=by unfold E9;rw [if_neg aA]
 unfold HX;rw [if_neg (λq=>q e),if_neg];intro q;obtain ⟨x,hx,e2⟩:=List.any_eq_true.1 q;have e3:l.getD j 0=x:=of_decide_eq_true e2;obtain ⟨t,ht,e4⟩:=List.mem_iff_getElem.1 hx;rw [List.length_take] at ht;rw [List.getElem_take] at e4
 have:=(List.pairwise_iff_getElem.1 (List.nodup_iff_pairwise_ne.1 h.1)) t j aA hj aA
 rw [CQ 0 hj] at e3;exact this (e4.trans e3.symm)) (Nat.le_refl _)
theorem GL.len(h:GL n l):l.length<=n:=Hk h.bell
theorem GL.left(h:GL n (kn++rest)):GL n kn:=⟨(List.nodup_append.1 h.1).1,λx hx=>h.2 x (List.mem_append_left _ hx)⟩
theorem perm_out{l:List Int}:∀{i:Nat}(hi:i<l.length),([l[i]]++l.eraseIdx i).Perm l:=by
 induction l with
 | nil=>intro i hi;cases hi
 | cons x l ih=>
  intro i hi;cases i with
  | zero=>exact List.Perm.refl _
  | succ i=>exact (List.Perm.swap _ _ _).trans ((ih (Nat.lt_of_succ_lt_succ hi)).cons x)
theorem GL.next(h:GL n (kn++rest))(hi:i<rest.length):GL n (kn++[rest.getD i 0]++rest.eraseIdx i):=by
 have p:(kn++[rest.getD i 0]++rest.eraseIdx i).Perm (kn++rest):=by
  rw [List.append_assoc];refine List.Perm.append_left kn ?_;rw [CQ 0 hi];exact perm_out hi
 exact ⟨p.nodup_iff.2 h.1,λx hx=>h.2 x (p.mem_iff.1 hx)⟩
theorem GL.first(n:Nat):GL n (CA n):=by
 induction n with
 | zero=>exact ⟨List.nodup_nil,λx hx=>by cases hx⟩
 | succ n ih=>
  have m:∀x ∈ CA n,0<=x/\x<(n:Int):=ih.2;refine ⟨List.nodup_append.2 ⟨ih.1,aD,λa ha b hb e=>?_⟩,λx hx=>?_⟩
  ·rw [List.mem_singleton.1 hb] at e
   have:=m a ha
   omega
  ·rcases List.mem_append.1 hx with hx | hx
   ·have:=m x hx
    omega
   ·rw [List.mem_singleton.1 hx];omega
end
def FB:Nat->Nat
 | 0=>1
 | n+1=>1+(n+1)*FB n
theorem QD:∀n,n<=4->FB n<=65
 | 0,_=>aC
 | 1,_=>aC
 | 2,_=>aC
 | 3,_=>aC
 | 4,_=>aC
 | n+5,h=>aA
theorem XD{n i:Nat}(hn:n<=4)(hi:i<=n):1+i*FB (n-1)<=65:=by
 rcases Nat.eq_zero_or_pos n with e | e
 ·subst e
  have:i=0:=aA
  subst this;decide
 ·have h:=QD n hn;have e2:FB n=1+n*FB (n-1):=by
   cases n with
   | zero=>omega
   | succ n=>rfl
  have:=Nat.mul_le_mul_right (FB (n-1)) hi
  omega
theorem VZ{n i:Nat}(hi:i=n){m:Nat}(h:m<=1+i*FB (n-1)):m<=FB n:=by
 subst hi;cases i with
 | zero=>simp at h;exact h
 | succ i=>exact h
def HL(n:Nat)(xl:List Sl):Prop:=∀x ∈ xl,GL n x.2
section
variable {n:Nat} {a b:List Sl}
theorem HL.app(ha:HL n a)(hb:HL n b):HL n (a++b):=λx hx=>(List.mem_append.1 hx).elim (ha x) (hb x)
theorem HL.one{v:Value}{l:List Int}(h:GL n l):HL n [(v,l)]:=λx hx=>by rw [List.mem_singleton.1 hx];exact h
theorem HL.at(h:HL n a){k:Nat}(hk:k<a.length):GL n (a.getD k Sl.z).2:=h _ (BO hk)
end
section
variable {l:List Int} {i q:Nat}
end
section
variable {bag kinds:Int} {ps:List ByteArray} {ws:List AB} {js:List AK} {ns:List AE} {l:List Int} {p:AC} {i:Nat}
end
section
variable {F G:AC->Int} {l:List AC}
end
section
variable {bag kinds:Int} {ps:List ByteArray} {ws:List AB} {js:List AK} {ns:List AE} {l:List Int} {i k:Nat}
end
end Go.Ns
namespace Go.Ns
section
variable {bag kinds:Int} {ps:List ByteArray} {ws:List AB} {js:List AK} {ns:List AE} {r l:List Int} {i k:Nat} {s:Int}
end
end Go.Ns
namespace Go.Ns
section
variable {a b c:List Int} {x y:Int}
theorem MR(x y:Int)(a b:List Int):∀f k,EZ (x ::a) (y ::b) f (k+1)=EZ a b f k
 | 0,k=>by
  unfold EZ;by_cases h:(a.length:Int)<b.length
  ·rw [if_pos h,if_pos (by simp only [List.length_cons];omega)]
  ·rw [if_neg h,if_neg (by simp only [List.length_cons];omega)]
 | f+1,k=>by
  unfold EZ;rw [MR x y a b f (k+1)];by_cases h:(b.length:Int)<=(k:Int)
  ·rw [if_pos h,if_pos (by simp only [List.length_cons];omega)]
  ·rw [if_neg h,if_neg (by simp only [List.length_cons];omega)];rfl
theorem NC(x y:Int)(a b:List Int):HU (x ::a) (y ::b)=if¬H9 x y=0 then H9 x y else HU a b:=by
 show EZ (x ::a) (y ::b) (a.length+1) 0=_;unfold EZ;rw [if_neg (by simp only [List.length_cons];omega),MR];rfl
theorem cmpL_nil(b:List Int):HU [] b<0↔b≠[]:=by
 cases b with
 | nil=>exact ⟨λh=>absurd h aC,λh=>absurd rfl h⟩
 | cons y b=>
  refine ⟨λ_=>aD,λ_=>?_⟩;show (if ((([]:List Int).length:Nat):Int)<((y ::b).length:Nat) then (-1:Int) else 0)<0;rw [if_pos (by simp only [List.length_cons,List.length_nil];omega)];decide
theorem Sd(x:Int)(a:List Int):¬HU (x ::a) []<0:=by
 show¬EZ (x ::a) [] (a.length+1) 0<0
 unfold EZ;rw [if_pos aD];decide
theorem ND:∀(a b:List Int),HU a b<0->¬HU b a<0
 | [],[],h=>absurd h aC
 | [],y ::b,_=>Sd y b
 | x ::a,[],h=>absurd h (Sd x a)
 | x ::a,y ::b,h=>by
  rw [NC] at h ⊢;have ih:=ND a b;by_cases h1:x<y
  ·rw [show H9 y x=1 by unfold H9;rw [if_neg aA,if_pos h1],if_pos aC];decide
  ·by_cases h2:y<x
   ·rw [show H9 x y=1 by unfold H9;rw [if_neg h1,if_pos h2],if_pos aC] at h;exact absurd h aC
   ·rw [show H9 x y=0 by unfold H9;rw [if_neg h1,if_neg h2],if_neg aC] at h;rw [show H9 y x=0 by unfold H9;rw [if_neg h2,if_neg h1],if_neg aC];exact ih h
theorem Va(a:List Int):¬HU a a<0:=λh=>ND a a h h
theorem Vb(l:List Int):∀{a b:List Int},HU a b<0->HU (l++a) (l++b)<0:=by
 induction l with
 | nil=>exact λh=>h
 | cons x l ih=>
  intro a b h;show HU (x ::(l++a)) (x ::(l++b))<0;rw [NC,if_neg (by unfold H9;simp)];exact ih h
theorem cmpL_lt(h:x<y)(a b:List Int):HU (x ::a) (y ::b)<0:=by
 rw [NC,show H9 x y= -1 by unfold H9;rw [if_pos h],if_pos aC];decide
end
section
variable {jobs l r:List Int} {f n:Nat}
theorem JO:∀(f:Nat)(l:List Int),∀r ∈ BD jobs f l,∃s,r=l++s
 | 0,l,r,h=>⟨[],by rw [List.mem_singleton.1 h];simp⟩
 | f+1,l,r,h=>by
  rcases List.mem_cons.1 h with e | h
  ·exact ⟨[],by rw [e];simp⟩
  ·obtain ⟨k,_,h⟩:=List.mem_flatMap.1 h;split at h
   ·cases h
   ·obtain ⟨s,e⟩:=JO f _ r h;exact ⟨k ::s,by rw [e];simp⟩
theorem Vc{l:List Int}{k:Int}:HZ l k=true↔k ∈ l:=by
 unfold HZ;rw [List.any_eq_true];exact ⟨λ⟨x,hx,e⟩=>by rw [of_decide_eq_true e];exact hx,λh=>⟨k,h,decide_eq_true rfl⟩⟩
theorem QE(hj:∀x ∈ jobs,0<=x/\x<(n:Int)):∀(f:Nat)(l:List Int),GL n l->∀r ∈ BD jobs f l,GL n r
 | 0,l,hl,r,h=>by rw [List.mem_singleton.1 h];exact hl
 | f+1,l,hl,r,h=>by
  rcases List.mem_cons.1 h with e | h
  ·rw [e];exact hl
  ·obtain ⟨k,hk,h⟩:=List.mem_flatMap.1 h;split at h
   ·cases h
   ·rename_i c
    refine QE hj f (l++[k]) ⟨List.nodup_append.2 ⟨hl.1,aD,λa ha b hb e=>?_⟩,λx hx=>?_⟩ r h
    ·rw [List.mem_singleton.1 hb] at e;exact c (Vc.2 (e▸ha))
    ·rcases List.mem_append.1 hx with hx | hx
     ·exact hl.2 x hx
     ·rw [List.mem_singleton.1 hx];exact hj k hk
theorem QF(hj:∀x:Int,0<=x->x<(n:Int)->x ∈ jobs):∀(s l:List Int)(f:Nat),s.length<=f->GL n (l++s)->l++s ∈ BD jobs f l
 | [],l,f,_,_=>by rw [List.append_nil,FT];exact List.mem_cons_self
 | k ::s,l,0,h,_=>absurd h aD
 | k ::s,l,f+1,h,hv=>by
  have e:l++k ::s=(l++[k])++s:=aD
  have hk:=hv.2 k aD;refine List.mem_cons_of_mem _ (List.mem_flatMap.2 ⟨k,hj k hk.1 hk.2,?_⟩);have hn:¬HZ l k=true:=λq=>by
   have d:=List.nodup_append.1 hv.1;exact d.2.2 k (Vc.1 q) k List.mem_cons_self rfl
  rw [if_neg hn,e];exact QF hj s (l++[k]) f (by simp at h;omega) (by rw [<-e];exact hv)
theorem QG(hj:jobs.Pairwise (· < ·)):∀(f:Nat)(l:List Int),(BD jobs f l).Pairwise λa b=>HU a b<0
 | 0,l=>List.pairwise_singleton _ _
 | f+1,l=>by
  refine List.pairwise_cons.2 ⟨λr hr=>?_,?_⟩
  ·obtain ⟨k,_,h⟩:=List.mem_flatMap.1 hr;split at h
   ·cases h
   ·obtain ⟨s,e⟩:=JO f _ r h;rw [e,List.append_assoc]
    have:=Vb l (a:=[]) (b:=[k]++s) ((cmpL_nil _).2 aD)
    rwa [List.append_nil] at this
  ·rw [List.pairwise_flatMap];refine ⟨λk _=>?_,hj.imp λ{k k'} hk x hx y hy=>?_⟩
   ·split
    ·exact List.Pairwise.nil
    ·exact QG hj f _
   ·split at hx
    ·cases hx
    ·split at hy
     ·cases hy
     ·obtain ⟨s,e⟩:=JO f _ x hx;obtain ⟨t,e2⟩:=JO f _ y hy;rw [e,e2,List.append_assoc,List.append_assoc];exact Vb l (cmpL_lt hk s t)
theorem QH:∀(n:Nat)(x:Int),0<=x->x<(n:Int)->x ∈ CA n
 | 0,x,h0,h1=>aA
 | n+1,x,h0,h1=>by
  by_cases e:x<(n:Int)
  ·exact List.mem_append_left _ (QH n x h0 e)
  ·exact List.mem_append_right _ (List.mem_singleton.2 aA)
theorem QI:∀n,(CA n).Pairwise (· < ·)
 | 0=>List.Pairwise.nil
 | n+1=>List.pairwise_append.2 ⟨QI n,List.pairwise_singleton _ _,λa ha b hb=>by rw [List.mem_singleton.1 hb];exact (JD ha).2⟩
theorem XE(h:GL n r):r ∈ C4 (CA n):=by
 have:=QF (QH n) r [] (CA n).length (by rw [Ce];exact h.len) h
 exact this
theorem all_val(h:r ∈ C4 (CA n)):GL n r:=QE (λ_ hx=>JD hx) _ [] ⟨List.nodup_nil,λx hx=>by cases hx⟩ r h
end
structure Vd(g pre:List (List Int)):Prop where
 sub:g.Sublist pre
 le:∀y ∈ g,∀z ∈ pre,z.length<=y.length
 eq:∀y ∈ g,∀z ∈ pre,z.length=y.length->z ∈ g
 ne:pre≠[]->g≠[]
section
variable {g pre:List (List Int)} {x:List Int}
theorem Vd.step(h:Vd g pre):Vd (Eo g x) (pre++[x]):=by
 have hd:0<g.length->g.getD 0 [] ∈ g:=λq=>BO q;have same:∀y ∈ g,∀z ∈ g,y.length=z.length:=λy hy z hz=>by
  have:=h.le y hy z (h.sub.subset hz)
  have:=h.le z hz y (h.sub.subset hy)
  omega
 by_cases h0:g.length=0
 ·have e:g=[]:=List.eq_nil_of_length_eq_zero h0;have ep:pre=[]:=Decidable.byContradiction λq=>h.ne q e;have es:Eo g x=[x]:=by
   unfold Eo JI;rw [if_neg (λq=>aA)];unfold JJ;rw [if_pos (.inl h0),e];rfl
  rw [es,ep];exact ⟨List.Sublist.refl _,λy hy z hz=>by rw [List.mem_singleton.1 hy,List.mem_singleton.1 hz];exact Nat.le_refl _,λy _ z hz _=>hz,λ_=>aD⟩
 ·have hm:=hd aA;by_cases h1:(g.getD 0 []).length<x.length
  ·have es:Eo g x=[x]:=by
    unfold Eo JI;rw [if_pos ⟨aA,h1⟩];rfl
   rw [es];have lt:∀z ∈ pre,z.length<x.length:=λz hz=>Nat.lt_of_le_of_lt (h.le _ hm z hz) h1;refine ⟨List.sublist_append_right _ _,λy hy z hz=>?_,λy hy z hz e=>?_,λ_=>aD⟩
   ·rw [List.mem_singleton.1 hy];rcases List.mem_append.1 hz with hz | hz
    ·exact Nat.le_of_lt (lt z hz)
    ·rw [List.mem_singleton.1 hz];exact Nat.le_refl _
   ·rw [List.mem_singleton.1 hy] at e;rcases List.mem_append.1 hz with hz | hz
    ·have:=lt z hz;omega
    ·exact hz
  ·have ec:JI g x=g:=if_neg (λq=>h1 q.2);by_cases h2:x.length=(g.getD 0 []).length
   ·have es:Eo g x=g++[x]:=by
     unfold Eo;rw [ec];unfold JJ;rw [if_pos (.inr h2)]
    rw [es];have sx:∀y ∈ g++[x],y.length=x.length:=λy hy=>by
     rcases List.mem_append.1 hy with hy | hy
     ·rw [same y hy _ hm,h2]
     ·rw [List.mem_singleton.1 hy]
    refine ⟨h.sub.append (List.Sublist.refl _),λy hy z hz=>?_,λy hy z hz e=>?_,λ_=>aD⟩
    ·rw [sx y hy];rcases List.mem_append.1 hz with hz | hz
     ·rw [h2];exact h.le _ hm z hz
     ·rw [List.mem_singleton.1 hz];exact Nat.le_refl _
    ·rcases List.mem_append.1 hz with hz | hz
     ·exact List.mem_append_left _ (h.eq _ hm z hz (by rw [e,sx y hy,h2]))
     ·exact List.mem_append_right _ hz
   ·have es:Eo g x=g:=by
     unfold Eo;rw [ec];unfold JJ;rw [if_neg];rintro (q | q) <;> omega
    rw [es];refine ⟨h.sub.trans (List.sublist_append_left _ _),λy hy z hz=>?_,λy hy z hz e=>?_,λ_ q=>h0 (by rw [q];rfl)⟩
    ·rcases List.mem_append.1 hz with hz | hz
     ·exact h.le y hy z hz
     ·rw [List.mem_singleton.1 hz,same y hy _ hm];omega
    ·rcases List.mem_append.1 hz with hz | hz
     ·exact h.eq y hy z hz e
     ·rw [List.mem_singleton.1 hz,same y hy _ hm] at e;exact absurd e h2
theorem goodI{l:List (List Int)}:∀k,k<=l.length->Vd (JK l k) (l.take k)
 | 0,_=>⟨List.Sublist.refl _,λy hy=>(by cases hy),λy hy=>(by cases hy),λh=>absurd rfl h⟩
 | k+1,h=>by
  have ih:=(goodI (l:=l) k aA).step (x:=l.getD k []);rw [Dd [] (show k<l.length by omega)];exact ih
theorem QJ(l:List (List Int)):Vd (JK l l.length) l:=by
 have:=goodI (l:=l) l.length (Nat.le_refl _)
 rwa [List.take_length] at this
end
section
variable {G:List Int->Int} {l:List (List Int)}
theorem Z4{k:Nat}:(l.drop 1).getD k []=l.getD (k+1) []:=by
 rw [List.getD_eq_getElem?_getD,List.getElem?_drop,<-List.getD_eq_getElem?_getD,Nat.add_comm]
theorem QK:∀k,∃i,i<=k/\(DC G l k).1=l.getD i []/\(DC G l k).2=G (l.getD i [])/\∀j,j<=k->G (l.getD i [])<=G (l.getD j [])/\(j<i->G (l.getD i [])<G (l.getD j []))
 | 0=>⟨0,Nat.le_refl _,rfl,rfl,λj hj=>by rw [show j=0 by omega];exact ⟨Int.le_refl _,λq=>absurd q (Nat.lt_irrefl _)⟩⟩
 | k+1=>by
  obtain ⟨i,h1,h2,h3,h4⟩:=QK k;unfold DC;rw [Z4];split
  ·rename_i c
   rw [h3] at c;refine ⟨k+1,Nat.le_refl _,rfl,rfl,λj hj=>?_⟩;by_cases e:j=k+1
   ·subst e;exact ⟨Int.le_refl _,λq=>absurd q (Nat.lt_irrefl _)⟩
   ·have:=(h4 j aA).1
    exact ⟨aA,λ_=>aA⟩
  ·rename_i c
   rw [h3] at c;refine ⟨i,aA,h2,h3,λj hj=>?_⟩;by_cases e:j=k+1
   ·subst e;exact ⟨aA,λq=>aA⟩
   ·exact h4 j aA
theorem XF(hl:l.Pairwise λa b=>HU a b<0){r:List Int}(hr:r ∈ l):G (Cw G l)<=G r/\(G (Cw G l)=G r->¬HU r (Cw G l)<0):=by
 obtain ⟨i,h1,h2,_,h4⟩:=QK (G:=G) (l:=l) (l.length-1);obtain ⟨j,hj,e⟩:=List.mem_iff_getElem.1 hr;have e2:l.getD j []=r:=by rw [List.getD_eq_getElem?_getD,List.getElem?_eq_getElem hj];exact e
 have hq:=h4 j aA;rw [e2] at hq;unfold Cw;rw [h2];refine ⟨hq.1,λq c=>?_⟩;have hi:i<l.length:=aA
 have ei:l.getD i []=l[i]:=by rw [List.getD_eq_getElem?_getD,List.getElem?_eq_getElem hi];rfl
 rcases Nat.lt_trichotomy j i with z | z | z
 ·have:=hq.2 z;omega
 ·subst z;rw [e2] at c;exact Va _ c
 ·have:=(List.pairwise_iff_getElem.1 hl) i j hi hj z
  rw [ei,<-e] at c;exact ND _ _ this c
end
end Go.Ns
namespace Go.Ns
section
variable {c:GJ} {q i:Nat} {x:Int}
end
section
variable {bag kinds:Int} {ps:List ByteArray} {ws:List AB} {js:List AK} {ns:List AE} {r:List Int} {k:Nat} {x:Int}
def FY(bag kinds:Int)(ps:List ByteArray)(ws:List AB)(js:List AK)(ns:List AE):List (List Int):=GZ ps.length ws js (AA ws js ns) bag kinds
theorem OD:r ∈ FY bag kinds ps ws js ns↔GL js.length r/\Bv ps.length ws js (AA ws js ns) r bag kinds=true:=by
 unfold FY GZ;rw [List.mem_filter];exact ⟨λh=>⟨all_val h.1,h.2⟩,λh=>⟨XE h.1,h.2⟩⟩
theorem QL(h0:AH bag kinds ps ws js ns 0=0)(hr:GL js.length r):Da bag kinds ps ws js ns r=Bv ps.length ws js (AA ws js ns) r bag kinds:=by
 unfold Da;rw [hr.bell];exact if_neg (λe=>e h0)
theorem Ve(h0:AH bag kinds ps ws js ns 0=0):BY bag kinds ps ws js ns=Cw (λl=>BA (λx=>Aa ps.length ws js x l) (AA ws js ns)) (JK (FY bag kinds ps ws js ns) (FY bag kinds ps ws js ns).length):=if_neg (λe=>e h0)
theorem Y1(hz:A0 bag kinds ps ws js ns=0)(h0:AH bag kinds ps ws js ns 0=0):BY bag kinds ps ws js ns ∈ JK (FY bag kinds ps ws js ns) (FY bag kinds ps ws js ns).length:=by
 rw [Ve h0];have p:0<(FY bag kinds ps ws js ns).length:=P2 (B2 hz).hbag.1
 have:=(QJ (FY bag kinds ps ws js ns)).ne (λq=>by rw [q] at p;exact absurd p (Nat.lt_irrefl _))
 exact W0 (List.length_pos_iff.2 this)
theorem Vf(hz:A0 bag kinds ps ws js ns=0)(h0:AH bag kinds ps ws js ns 0=0):GL js.length (BY bag kinds ps ws js ns)/\Bv ps.length ws js (AA ws js ns) (BY bag kinds ps ws js ns) bag kinds=true:=
 OD.1 ((QJ _).sub.subset (Y1 hz h0))
theorem Vg(hz:A0 bag kinds ps ws js ns=0)(h0:AH bag kinds ps ws js ns 0=0)(hr:GL js.length r)(hs:Da bag kinds ps ws js ns r=true):r.length<=(BY bag kinds ps ws js ns).length/\(r.length=(BY bag kinds ps ws js ns).length->
  DR (AH bag kinds ps ws js ns 0) (BA (λx=>Aa ps.length ws js x (BY bag kinds ps ws js ns)) (AA ws js ns))<=DR (AH bag kinds ps ws js ns 0) (BA (λx=>Aa ps.length ws js x r) (AA ws js ns))/\
  (DR (AH bag kinds ps ws js ns 0) (BA (λx=>Aa ps.length ws js x (BY bag kinds ps ws js ns)) (AA ws js ns))=DR (AH bag kinds ps ws js ns 0) (BA (λx=>Aa ps.length ws js x r) (AA ws js ns))->¬HU r (BY bag kinds ps ws js ns)<0)):=by
 have g:=QJ (FY bag kinds ps ws js ns);have hm:r ∈ FY bag kinds ps ws js ns:=OD.2 ⟨hr,by rw [<-QL h0 hr];exact hs⟩;have b:=Y1 hz h0;refine ⟨g.le _ b r hm,λe=>?_⟩;have hg:=g.eq _ b r hm e;rw [h0];simp only [Hz];have asc:(JK (FY bag kinds ps ws js ns) (FY bag kinds ps ws js ns).length).Pairwise λa b=>HU a b<0:=
  (List.Pairwise.filter _ (QG (QI js.length) (CA js.length).length [])).sublist g.sub
 have:=XF (G:=λl=>BA (λx=>Aa ps.length ws js x l) (AA ws js ns)) asc hg
 rwa [<-Ve h0] at this
theorem Se(h0:¬AH bag kinds ps ws js ns 0=0):(BY bag kinds ps ws js ns).length=0/\(J4 bag kinds ps ws js ns).length=0:=by
 unfold BY J4;rw [if_pos h0,if_pos h0];exact ⟨rfl,rfl⟩
end
end Go.Ns
namespace Go.Ns
open Go.Conc Go Go.RowKit
section
variable {P:Program} {E:GE P} {O:Nat->Value} {ds:List Deferred} {h:GH} {T:(Nat->Value)->List Deferred->GH->Prop} {dst:Option Nat} {ty:TypeId} {pos:String} {af:Array Edge} {gd:Option (Nat×Bool)}
end
def MS(l:List Int):Nat:=l.length*100000+(l.foldl (λn x=>10*n+x.toNat) 0)
def chk4:Bool:=(List.range 5).all λn=>(List.range (2 ^ n)).all λ(x:Nat)=>(List.range (BI (x:Int) n).length).all λi=>decide (0<=(BI (x:Int) n).getD i 0) && decide ((BI (x:Int) n).getD i 0<(n:Int)) && (i==0 || decide ((BI (x:Int) n).getD (i-1) 0<(BI (x:Int) n).getD i 0))
def chk5:Bool:=(List.range 5).all λn=>(List.range (2 ^ n)).all λ(x:Nat)=>(List.range (2 ^ n)).all λ(y:Nat)=>EI (true,BI (y:Int) n) (BI (x:Int) n)==decide (MS (BI (y:Int) n)<MS (BI (x:Int) n))
theorem Z5:chk5=true:=aB
theorem Z6:chk4=true:=aB
theorem mask_rng{n x i:Nat}(hn:n<=4)(hx:x<2 ^ n)(hi:i<(BI (x:Int) n).length):0<=(BI (x:Int) n).getD i 0/\(BI (x:Int) n).getD i 0<(n:Int)/\(0<i->(BI (x:Int) n).getD (i-1) 0<(BI (x:Int) n).getD i 0):=by
 have h:=Z6;unfold chk4 at h;rw [List.all_eq_true] at h;have h2:=List.all_eq_true.1 (List.all_eq_true.1 (h n (List.mem_range.2 aA)) x (List.mem_range.2 hx)) i (List.mem_range.2 hi);simp only [Bool.and_eq_true,decide_eq_true_eq,Bool.or_eq_true,beq_iff_eq] at h2;exact ⟨h2.1.1,h2.1.2,λq=>h2.2.resolve_left aA⟩
theorem XG{n x y:Nat}(hn:n<=4)(hx:x<2 ^ n)(hy:y<2 ^ n):EI (true,BI (y:Int) n) (BI (x:Int) n)=decide (MS (BI (y:Int) n)<MS (BI (x:Int) n)):=by
 have h:=Z5;unfold chk5 at h;rw [List.all_eq_true] at h;have h2:=List.all_eq_true.1 (List.all_eq_true.1 (h n (List.mem_range.2 aA)) x (List.mem_range.2 hx)) y (List.mem_range.2 hy);exact eq_of_beq h2
theorem Z7:∀n,n<=4->BI (((2 ^ n-1:Nat)):Int) n=CA n
 | 0,_=>aC
 | 1,_=>aC
 | 2,_=>aC
 | 3,_=>aC
 | 4,_=>aC
 | n+5,h=>aA
def JP(ns:List AE)(l:List Int):List AE:=l.map λi=>ns.getD i.toNat AE.z
section
variable {ns:List AE} {l:List Int} {k:Nat} {h:GH}
theorem Ff(ns:List AE)(l:List Int):(JP ns l).length=l.length:=List.length_map _
theorem JQ(hk:k<l.length):(JP ns l).getD k AE.z=ns.getD (l.getD k 0).toNat AE.z:=by
 unfold JP;rw [CQ AE.z (by simpa using hk),List.getElem_map,CQ 0 hk]
theorem KB(mask:Int)(n:Nat):JP ns (BI mask n)=Db ns mask n:=by
 unfold JP BI Db;rw [List.map_map];exact List.map_congr_left λi _=>rfl
theorem XH(ns:List AE):JP ns (CA ns.length)=ns:=by
 apply List.ext_getElem
 ·rw [Ff,Ce]
 ·intro i h1 h2
  have:=JQ (ns:=ns) (l:=CA ns.length) (k:=i) (by rw [Ce];exact h2)
  rw [LT _ _ h2,CQ AE.z h1,Int.toNat_natCast,CQ AE.z h2] at this;exact this
end
section
variable {bag kinds:Int} {ps:List ByteArray} {ws:List AB} {js:List AK} {ns:List AE}
theorem Ap.alone(b:Ap bag kinds ps ws js ns){l:List Int}(h:∀i,i<l.length->0<=l.getD i 0/\l.getD i 0<ns.length)(hl:l.length<=4):Ap bag kinds ps ws js (JP ns l):=
 { b with
  nlen:=by rw [Ff];exact hl
  note:=λk hk=>by
   rw [Ff] at hk
   have:=b.note (l.getD k 0).toNat (by have:=h k hk;omega)
   rw [MI (JQ hk)];exact this }
theorem bell_of(b:Ap bag kinds ps ws js ns):A0 bag kinds ps ws js ns=0:=by
 refine Bj (k:=5) (λj hj=>?_) (Nat.le_refl _)
 match j with
 | 0=>exact if_neg (by have:=b.hbag;have:=b.hkin;omega)
 | 1=>exact (if_neg (by have:=b.plen;omega)).trans (Bj b.place (Nat.le_refl _))
 | 2=>exact (MA (by have:=b.wlen;omega) b.way (Nat.le_refl _)).trans b.led
 | 3=>exact (if_neg (by have:=b.jlen;omega)).trans (Bj b.job (Nat.le_refl _))
 | 4=>exact (if_neg (by have:=b.nlen;omega)).trans (Bj b.note (Nat.le_refl _))
 | j+5=>omega
def HM(ws:List AB)(js:List AK)(ns:List AE)(q:Nat):Prop:=(AA ws js (Db ns (q:Int) ns.length)).length=0
theorem Sf(hn:ns.length<=4):∀q,q<=2 ^ ns.length->((BT ws js ns q).1=false->∀m,m<q->¬HM ws js ns m)/\((BT ws js ns q).1=true->∃m,m<q/\(BT ws js ns q).2=BI (m:Int) ns.length/\HM ws js ns m/\∀m',m'<q->HM ws js ns m'->MS (BI (m:Int) ns.length)<=MS (BI (m':Int) ns.length))
 | 0,_=>⟨λ_ m hm=>absurd hm (Nat.not_lt_zero _),λh=>(by cases h)⟩
 | q+1,hq=>by
  obtain ⟨i1,i2⟩:=Sf hn q aA;cases hb:(BT ws js ns q).1 with
  | false=>
   have hw:EI (BT ws js ns q) (BI (q:Int) ns.length)=false:=SN hb;by_cases e:HM ws js ns q
   ·rw [IE hw (by unfold HM at e;omega)];exact ⟨λh=>(by cases h),λ_=>⟨q,Nat.lt_succ_self _,rfl,e,λm' hm' e'=>by
     rcases Nat.lt_or_ge m' q with z | z
     ·exact absurd e' (i1 hb m' z)
     ·rw [show m'=q by omega];exact Nat.le_refl _⟩⟩
   ·rw [IF hw (by unfold HM at e;omega),hb];exact ⟨λ_ m hm=>by
     rcases Nat.lt_or_ge m q with z | z
     ·exact i1 hb m z
     ·rw [show m=q by omega];exact e,λh=>(by cases h)⟩
  | true=>
   obtain ⟨m,h1,h2,h3,h4⟩:=i2 hb;have hx:BT ws js ns q=(true,BI (m:Int) ns.length):=Prod.ext hb h2;have hw:EI (BT ws js ns q) (BI (q:Int) ns.length)=decide (MS (BI (m:Int) ns.length)<MS (BI (q:Int) ns.length)):=by rw [hx];exact XG hn aA aA
   by_cases c:MS (BI (m:Int) ns.length)<MS (BI (q:Int) ns.length)
   ·rw [decide_eq_true c] at hw;rw [G0 hw,hb];exact ⟨λh=>(by cases h),λ_=>⟨m,aA,h2,h3,λm' hm' e'=>by
     rcases Nat.lt_or_ge m' q with z | z
     ·exact h4 m' z e'
     ·rw [show m'=q by omega];omega⟩⟩
   ·rw [decide_eq_false c] at hw;by_cases e:HM ws js ns q
    ·rw [IE hw (by unfold HM at e;omega)];exact ⟨λh=>(by cases h),λ_=>⟨q,Nat.lt_succ_self _,rfl,e,λm' hm' e'=>by
      rcases Nat.lt_or_ge m' q with z | z
      ·have:=h4 m' z e';omega
      ·rw [show m'=q by omega];exact Nat.le_refl _⟩⟩
    ·rw [IF hw (by unfold HM at e;omega),hb];exact ⟨λh=>(by cases h),λ_=>⟨m,aA,h2,h3,λm' hm' e'=>by
      rcases Nat.lt_or_ge m' q with z | z
      ·exact h4 m' z e'
      ·rw [show m'=q by omega] at e';exact absurd e' e⟩⟩
theorem Vh(hz:A0 bag kinds ps ws js ns=0):C3 bag kinds ps ws js ns=((AA ws js ns).length:Int):=if_pos hz
end
end Go.Ns
namespace Go.Ns
def wA(ws:List AB)(k:Nat):Nat:=(ws.getD k AB.z).a.toNat
def wB(ws:List AB)(k:Nat):Nat:=(ws.getD k AB.z).b.toNat
def MT(ws:List AB)(p:AC)(u v:Nat)(w:Int):Prop:=∃k,k<ws.length/\(wA ws k=u/\wB ws k=v\/wA ws k=v/\wB ws k=u)/\w=p.ways k
inductive K6 (ws:List AB) (p:AC) (x:Nat):Nat->Nat->Int->Prop
 | nil:K6 ws p x 0 x 0
 | step {k u v:Nat} {d w:Int}:K6 ws p x k u d->MT ws p u v w->K6 ws p x (k+1) v (d+w)
section
variable {ws:List AB} {p:AC} {x y z u v k l np:Nat} {d e w:Int}
theorem MT.symm(h:MT ws p u v w):MT ws p v u w:=by
 obtain ⟨k,h1,h2,h3⟩:=h;exact ⟨k,h1,h2.symm,h3⟩
theorem K6.append(h:K6 ws p x k y d)(g:K6 ws p y l z e):K6 ws p x (k+l) z (d+e):=by
 induction g with
 | nil=>rw [Int.add_zero];exact h
 | step _ c ih=>
  have:=ih.step c
  rwa [Int.add_assoc,Nat.add_assoc] at this
theorem K6.symm(h:K6 ws p x k y d):K6 ws p y k x d:=by
 induction h with
 | nil=>exact .nil
 | @step k u v d w _ c ih=>
  have:=(K6.step (.nil (x:=v)) c.symm).append ih
  rw [Int.zero_add] at this
  rwa [Nat.add_comm k 1,Int.add_comm d w]
theorem K6.le(hp:BH p)(h:K6 ws p x k y d):0<=d/\d<=30*(k:Int):=by
 induction h with
 | nil=>exact ⟨Int.le_refl _,Int.le_refl _⟩
 | step _ c ih=>
  obtain ⟨q,_,_,rfl⟩:=c
  have:=hp.ways q
  omega
theorem CR{Q:Nat->Nat->Prop}(hQ:∀k v,v<np->Q (k+1) v->∃u,u<np/\Q k u/\∀j,Q j u->Q (j+1) v)(hv:v<np)(h:Q k v):∃j,j<np/\Q j v:=by
 have low:∀k v,v<np->Q k v->∃j,Q j v/\∀i,i<j->¬Q i v:=by
  intro k
  induction k using Nat.strongRecOn with
  | _ k ih=>
   intro v hv h;by_cases c:∃i,i<k/\Q i v
   ·obtain ⟨i,h1,h2⟩:=c;exact ih i h1 v hv h2
   ·exact ⟨k,h,λi hi q=>c ⟨i,hi,q⟩⟩
 have chain:∀j v,v<np->Q j v->(∀i,i<j->¬Q i v)->∃f:Nat->Nat,∀i,i<=j->f i<np/\Q i (f i)/\∀t,t<i->¬Q t (f i):=by
  intro j
  induction j with
  | zero=>exact λv hv h _=>⟨λ_=>v,λi hi=>by rw [show i=0 by omega];exact ⟨hv,h,λt ht=>absurd ht (Nat.not_lt_zero _)⟩⟩
  | succ j ih=>
   intro v hv h hm;obtain ⟨u,hu,h1,h2⟩:=hQ j v hv h;obtain ⟨f,hf⟩:=ih u hu h1 λi hi q=>hm (i+1) aA (h2 i q);refine ⟨λi=>if i=j+1 then v else f i,λi hi=>?_⟩;by_cases e:i=j+1
   ·subst e;simp only [if_true];exact ⟨hv,h,hm⟩
   ·simp only [if_neg e];exact hf i aA
 obtain ⟨j,h1,h2⟩:=low k v hv h;obtain ⟨f,hf⟩:=chain j v hv h1 h2
 have:=T6 np (j+1) f (λi hi=>(hf i aA).1) λi t hit ht e=>by
  have a:=(hf i aA).2.1;rw [e] at a;exact (hf t aA).2.2 i hit a
 exact ⟨j,aA,h1⟩
end
section
variable {bag kinds:Int} {ps:List ByteArray} {ws:List AB} {js:List AK} {ns:List AE} {p:AC} {x y v k n:Nat} {d w:Int}
theorem QM(bk:Ap bag kinds ps ws js ns){u:Nat}(h:MT ws p u v w):u<ps.length/\v<ps.length:=by
 obtain ⟨k,hk,h2,_⟩:=h;have o:=L9 bk.way k hk;have h3:=o.a;have h4:=o.b;unfold wA wB at h2;omega
theorem Vi(bk:Ap bag kinds ps ws js ns)(hp:BH p){u:Nat}(h:MT ws p u v w):AX ps.length ws p u v<=w:=by
 obtain ⟨k,hk,h2,rfl⟩:=h
 have:=W9 (np:=ps.length) hp (Ka bk.way) hk
 have s:=(JN (np:=ps.length) hp (Ka bk.way)).s.sym u v;unfold wA wB at h2;rcases h2 with ⟨rfl,rfl⟩ | ⟨rfl,rfl⟩
 ·exact this
 ·rw [s];exact this
theorem UJ(bk:Ap bag kinds ps ws js ns)(hp:BH p)(hx:x<ps.length)(h:K6 ws p x k v d):AX ps.length ws p x v<=d:=by
 have fw:=JN (np:=ps.length) hp (Ka bk.way)
 induction h with
 | nil=>rw [fw.s.diag];exact Int.le_refl _
 | @step k u v d w h0 c ih=>
  have r:=QM bk c;have t:=fw.tri u r.1 x v hx r.2
  have:=Vi bk hp c
  omega
theorem Vj(bk:Ap bag kinds ps ws js ns):∀n,n<=ws.length->∀x y,x<4->y<4->At p ws n x y<1048576->∃k,K6 ws p x k y (At p ws n x y)
 | 0,_,x,y,hx,hy,h=>by
  have e:At p ws 0 x y=IW 4 x y:=rfl;rw [e,J7] at h ⊢;by_cases c:x<4/\y<4/\x≠y
  ·rw [if_pos c] at h;omega
  ·rw [if_neg c]
   have:x=y:=Decidable.byContradiction λq=>c ⟨hx,hy,q⟩
   subst this;exact ⟨0,.nil⟩
 | n+1,hn,x,y,hx,hy,h=>by
  have r:=(Ka bk.way).rng n aA;have e:At p ws (n+1)=Jy p ws (At p ws n) n:=Am _ _ _;rw [e,LV _ _ _ _ aA] at h ⊢;by_cases c:(x=(ws.getD n AB.z).a.toNat/\y=(ws.getD n AB.z).b.toNat)\/(x=(ws.getD n AB.z).b.toNat/\y=(ws.getD n AB.z).a.toNat)
  ·rw [if_pos c]
   have:=K6.step (.nil (ws:=ws) (p:=p) (x:=x)) (v:=y) (w:=p.ways n) ⟨n,aA,by unfold wA wB;omega,rfl⟩
   rw [Int.zero_add] at this;exact ⟨1,this⟩
  ·rw [if_neg c] at h ⊢;exact Vj bk n aA x y hx hy h
theorem Vk(bk:Ap bag kinds ps ws js ns)(hp:BH p):∀n,n<=ps.length->∀x y,x<ps.length->y<ps.length->Ca ps.length (At p ws ws.length) n x y<1048576->∃k,K6 ws p x k y (Ca ps.length (At p ws ws.length) n x y)
 | 0,_,x,y,hx,hy,h=>Vj bk ws.length (Nat.le_refl _) x y (by have:=bk.plen;omega) (by have:=bk.plen;omega) h
 | n+1,hn,x,y,hx,hy,h=>by
  have ih:=Vk bk hp n aA;have s:=(FW.all (J8 hp (Ka bk.way) ws.length (Nat.le_refl _)) n (show n<=ps.length by omega)).s;have e:Ca ps.length (At p ws ws.length) (n+1)=EW n ps.length (Ca ps.length (At p ws ws.length) n) ps.length:=Am _ _ _;have g:=QA (np:=ps.length) n (Ca ps.length (At p ws ws.length) n) (s.diag n) s.ok ps.length x y;rw [if_pos ⟨hx,hy⟩] at g;rw [e,g] at h ⊢;have o1:=s.ok x n;have o2:=s.ok n y;rcases Int.le_total (Ca ps.length (At p ws ws.length) n x y) (Ca ps.length (At p ws ws.length) n x n+Ca ps.length (At p ws ws.length) n n y) with c | c
  ·rw [Int.min_eq_left c] at h ⊢;exact ih x y hx hy h
  ·rw [Int.min_eq_right c] at h ⊢;obtain ⟨k,a⟩:=ih x n hx aA aA;obtain ⟨l,b⟩:=ih n y aA hy aA;exact ⟨_,a.append b⟩
theorem Vl(bk:Ap bag kinds ps ws js ns)(hv:v<ps.length):∃k d,K6 ws p 0 k v d:=by
 have one:∀(c:GJ)(a:AB),a ∈ ws->(∀i,c i=true->∃k d,K6 ws p 0 k i d)->∀i,F4 c a i=true->∃k d,K6 ws p 0 k i d:=by
  intro c a ha hc;obtain ⟨q,hq,ea⟩:=List.mem_iff_getElem.1 ha;have ed:MT ws p a.a.toNat a.b.toNat (p.ways q):=⟨q,hq,.inl (by unfold wA wB;rw [CQ AB.z hq,ea];exact ⟨rfl,rfl⟩),rfl⟩;have both:(c a.a.toNat || c a.b.toNat)=true->(∃k d,K6 ws p 0 k a.a.toNat d)/\∃k d,K6 ws p 0 k a.b.toNat d:=λh=>by
   rcases Bool.or_eq_true_iff.1 h with h | h
   ·obtain ⟨k,d,t⟩:=hc _ h;exact ⟨⟨k,d,t⟩,_,_,t.step ed⟩
   ·obtain ⟨k,d,t⟩:=hc _ h;exact ⟨⟨_,_,t.step ed.symm⟩,k,d,t⟩
  intro i hi;unfold F4 GJ.set at hi;by_cases e:i=a.b.toNat
  ·rw [if_pos e] at hi;rw [e];by_cases e2:a.b.toNat=a.a.toNat
   ·rw [if_pos e2,if_pos rfl,Bool.or_self] at hi;exact (both hi).2
   ·rw [if_neg e2,if_pos rfl] at hi;rcases Bool.or_eq_true_iff.1 hi with h | h
    ·exact hc _ h
    ·exact (both h).2
  ·rw [if_neg e] at hi;by_cases e2:i=a.a.toNat
   ·rw [if_pos e2] at hi;rw [e2];exact (both hi).1
   ·rw [if_neg e2] at hi;exact hc i hi
 have fold:∀(l:List AB)(c:GJ),(∀a ∈ l,a ∈ ws)->(∀i,c i=true->∃k d,K6 ws p 0 k i d)->∀i,l.foldl F4 c i=true->∃k d,K6 ws p 0 k i d:=by
  intro l
  induction l with
  | nil=>exact λc _ hc=>hc
  | cons a l ih=>exact λc hl hc=>ih _ (λb hb=>hl b (List.mem_cons_of_mem _ hb)) (one c a (hl a List.mem_cons_self) hc)
 have all:∀n (c:GJ),(∀i,c i=true->∃k d,K6 ws p 0 k i d)->∀i,D7 ws n c i=true->∃k d,K6 ws p 0 k i d:=by
  intro n
  induction n with
  | zero=>exact λc hc=>hc
  | succ n ih=>exact λc hc=>ih _ (fold ws c (λa ha=>ha) hc)
 have led:=bk.led;unfold E7 at led;split at led
 ·cases led
 ·rename_i q
  refine all ps.length (GJ.none.set 0 true) (λi hi=>?_) v ?_
  ·unfold GJ.set GJ.none at hi;by_cases e:i=0
   ·subst e;exact ⟨0,0,.nil⟩
   ·rw [if_neg e] at hi;cases hi
  ·refine Decidable.byContradiction λc=>q (List.any_eq_true.2 ⟨D7 ws ps.length (GJ.none.set 0 true) v,?_,?_⟩)
   ·unfold Mx;exact List.mem_map.2 ⟨v,List.mem_range.2 hv,rfl⟩
   ·rw [Bool.eq_false_iff.2 c];rfl
theorem Sg(bk:Ap bag kinds ps ws js ns)(hp:BH p)(hx:x<ps.length)(hv:v<ps.length):∃k,k<ps.length/\K6 ws p x k v (AX ps.length ws p x v):=by
 have np4:=bk.plen;have fw:=JN (np:=ps.length) hp (Ka bk.way);have small:AX ps.length ws p x v<1048576:=by
  obtain ⟨k,d,t⟩:=Vl (p:=p) bk hx;obtain ⟨l,e,t2⟩:=Vl (p:=p) bk hv;obtain ⟨j,hj,d2,t3⟩:=CR (Q:=λk v=>∃d,K6 ws p x k v d) (np:=ps.length) (λk v _ ⟨d,t⟩=>by
   cases t with
   | @step _ u _ d w t c=>exact ⟨u,(QM bk c).1,⟨_,t⟩,λj ⟨d,t⟩=>⟨_,t.step c⟩⟩) hv (k:=k+l) ⟨_,t.symm.append t2⟩
  have a:=UJ bk hp hx t3;have b:=t3.le hp;omega
 obtain ⟨k,t⟩:=Vk bk hp ps.length (Nat.le_refl _) x v hx hv small;refine CR (Q:=λk v=>K6 ws p x k v (AX ps.length ws p x v)) (np:=ps.length) (λk v hv2 t=>?_) hv t;generalize hd:AX ps.length ws p x v=D at t;cases t with
 | @step _ u _ d w t c=>
  have r:=QM bk c;have a:=UJ bk hp hx t;have b:=Vi bk hp c;have tr:=fw.tri u r.1 x v hx hv2;have e:AX ps.length ws p x u=d:=aA
  exact ⟨u,r.1,by rw [e];exact t,λj t2=>by
   have:=t2.step c
   rw [e] at this;exact this⟩
end
end Go.Ns
namespace Go.Ns
def Z8(S:Nat->Int×Int):Nat->Nat->List (List Int)
 | 0,_=>[[]]
 | f+1,i=>(ED (S i).1 (S i).2).flatMap λn=>(Z8 S f (i+1)).map λs=>n ::s
def DU(S:Nat->Int×Int):Nat->List (List Int)
 | 0=>[[]]
 | i+1=>(DU S i).flatMap λx=>(ED (S i).1 (S i).2).map λn=>x++[n]
section
variable {S:Nat->Int×Int}
theorem Vm:∀f i,Z8 S (f+1) i=(Z8 S f i).flatMap λx=>(ED (S (i+f)).1 (S (i+f)).2).map λn=>x++[n]
 | 0,i=>by
  show (ED (S i).1 (S i).2).flatMap (λn=>[[n]])=[[]].flatMap _;rw [List.flatMap_cons,List.flatMap_nil,List.append_nil,Nat.add_zero,List.map_eq_flatMap];rfl
 | f+1,i=>by
  have ih:=Vm f (i+1);show (ED (S i).1 (S i).2).flatMap (λn=>(Z8 S (f+1) (i+1)).map λs=>n ::s)=((ED (S i).1 (S i).2).flatMap λn=>(Z8 S f (i+1)).map λs=>n ::s).flatMap _;rw [List.flatMap_assoc];congr 1;funext n;rw [ih,List.map_flatMap,List.flatMap_map];congr 1;funext s;rw [List.map_map,show i+1+f=i+(f+1) by omega];rfl
theorem Il:∀m,DU S m=Z8 S m 0
 | 0=>rfl
 | m+1=>by
  rw [Vm,<-Il m,Nat.zero_add];rfl
theorem Y3:∀f i,∀s ∈ Z8 S f i,s.length=f
 | 0,_,s,h=>by rw [List.mem_singleton.1 h];rfl
 | f+1,i,s,h=>by
  obtain ⟨n,_,h⟩:=List.mem_flatMap.1 h;obtain ⟨t,ht,rfl⟩:=List.mem_map.1 h;rw [List.length_cons,Y3 f (i+1) t ht]
end
def HE(w k:List Int):AC:=⟨λi=>w.getD i 0,λi=>k.getD i 0⟩
def MU(p:AC)(i:Nat)(s:List Int):AC:={ p with ways:=λk=>if i<=k/\k<i+s.length then s.getD (k-i) 0 else p.ways k }
def MV(p:AC)(i:Nat)(s:List Int):AC:={ p with works:=λk=>if i<=k/\k<i+s.length then s.getD (k-i) 0 else p.works k }
theorem Vn{f:Nat->Int}{i n:Nat}{v:Int}{s:List Int}:(λk=>if i<=k/\k<i+(v ::s).length then (v ::s).getD (k-i) 0 else f k)=λk=>if i+1<=k/\k<i+1+s.length then s.getD (k-(i+1)) 0 else if k=i then v else f k:=by
 funext k;by_cases h1:k=i
 ·subst h1;rw [if_pos aD,if_neg aA,if_pos rfl,Nat.sub_self];rfl
 ·by_cases h2:i+1<=k/\k<i+1+s.length
  ·rw [if_pos h2,if_pos (by simp only [List.length_cons];omega),show k-i=(k-(i+1))+1 by omega];rfl
  ·rw [if_neg h2,if_neg (by simp only [List.length_cons];omega),if_neg h1]
theorem QN{p:AC}{nw i:Nat}{v:Int}{s:List Int}(h:i<nw):MU p i (v ::s)=MU (p.put nw i v) (i+1) s:=by
 unfold MU AC.put;rw [if_pos h,Vn (n:=0)];rfl
theorem XI{p:AC}{nw i:Nat}{v:Int}{s:List Int}(h:nw<=i):MV p (i-nw) (v ::s)=MV (p.put nw i v) (i+1-nw) s:=by
 unfold MV AC.put;rw [if_neg aA,Vn (n:=0),show i-nw+1=i+1-nw by omega];rfl
theorem Sh(p:AC)(i:Nat):MU p i []=p:=by
 unfold MU
 have:(λk=>if i<=k/\k<i+([]:List Int).length then ([]:List Int).getD (k-i) 0 else p.ways k)=p.ways:=funext λk=>if_neg aD
 rw [this]
theorem Z9(p:AC)(i:Nat):MV p i []=p:=by
 unfold MV
 have:(λk=>if i<=k/\k<i+([]:List Int).length then ([]:List Int).getD (k-i) 0 else p.works k)=p.works:=funext λk=>if_neg aD
 rw [this]
def II(ws:List AB)(k:Nat):Int×Int:=((ws.getD k AB.z).low,(ws.getD k AB.z).high)
def Jf(js:List AK)(k:Nat):Int×Int:=((js.getD k AK.z).low,(js.getD k AK.z).high)
section
variable {ws:List AB} {js:List AK} {ns:List AE} {ag:AC->Bool}
theorem Si:∀(f i:Nat)(p:AC),ws.length<=i->CE ag ws js f i p=(Z8 (Jf js) f (i-ws.length)).map (MV p (i-ws.length))
 | 0,i,p,_=>by
  show [p]=[[]].map _;rw [List.map_singleton,Z9]
 | f+1,i,p,h=>by
  rw [D0];have e1:CI ws js i=(Jf js (i-ws.length)).1:=if_neg aA;have e2:Fk ws js i=(Jf js (i-ws.length)).2:=if_neg aA;show _=((ED _ _).flatMap _).map _;rw [e1,e2,List.map_flatMap];congr 1;funext n;unfold B3;rw [if_neg aA,Si f (i+1) _ aA,List.map_map,show i+1-ws.length=i-ws.length+1 by omega];congr 1;funext s;show _=MV p (i-ws.length) (n ::s);rw [XI h,show i+1-ws.length=i-ws.length+1 by omega]
theorem OE{V β:Type}(q:V->Bool)(F:V->List β):∀l:List V,(l.filter q).flatMap F=l.flatMap λx=>if q x=true then F x else []
 | []=>rfl
 | x ::l=>by
  rw [List.filter_cons,List.flatMap_cons,<-OE q F l];by_cases h:q x=true
  ·rw [if_pos h,if_pos h,List.flatMap_cons]
  ·rw [if_neg h,if_neg h,List.nil_append]
theorem Vo:∀(f i:Nat)(p:AC),i+(f+1)=ws.length->CE ag ws js (f+1+js.length) i p=(Z8 (II ws) (f+1) i).flatMap λs=>if ag (MU p i s)=true then CE ag ws js js.length ws.length (MU p i s) else []
 | 0,i,p,h=>by
  rw [show 0+1+js.length=js.length+1 by omega,D0];have e1:CI ws js i=(II ws i).1:=if_pos aA;have e2:Fk ws js i=(II ws i).2:=if_pos aA;show _=((ED _ _).flatMap λn=>[[n]]).flatMap _;rw [e1,e2,List.flatMap_assoc];congr 1;funext n;rw [List.flatMap_cons,List.flatMap_nil,List.append_nil,QN (nw:=ws.length) aA,Sh];unfold B3;cases hb:ag (p.put ws.length i n) with
  | false=>rw [if_pos ⟨aA,rfl⟩];rfl
  | true=>rw [if_neg (λq=>by cases q.2),if_pos rfl,show i+1=ws.length by omega]
 | f+1,i,p,h=>by
  rw [show f+1+1+js.length=(f+1+js.length)+1 by omega,D0];have e1:CI ws js i=(II ws i).1:=if_pos aA;have e2:Fk ws js i=(II ws i).2:=if_pos aA;show _=((ED _ _).flatMap λn=>(Z8 (II ws) (f+1) (i+1)).map λs=>n ::s).flatMap _;rw [e1,e2,List.flatMap_assoc];congr 1;funext n;unfold B3;rw [if_neg (λq=>aA),Vo f (i+1) _ aA,List.flatMap_map];congr 1;funext s;rw [QN (nw:=ws.length) aA]
def LW(ws:List AB)(js:List AK)(ns:List AE):List (List Int×List Int):=
 ((DU (II ws) ws.length).filter λw=>Bc ns (HE w [])).flatMap λw=>(DU (Jf js) js.length).map λk=>(w,k)
theorem Sj{w:List Int}:MU AC.zero 0 w=HE w []:=by
 unfold MU HE AC.zero;congr 1
 ·funext k;by_cases h:k<w.length
  ·rw [if_pos aA];rfl
  ·rw [if_neg aA,BZ aA]
theorem AAA{w k:List Int}:MV (HE w []) 0 k=HE w k:=by
 unfold MV HE;congr 1;funext i;by_cases h:i<k.length
 ·rw [if_pos aA];rfl
 ·rw [if_neg aA,BZ aA];rfl
theorem IJ:AA ws js ns=(LW ws js ns).map λx=>HE x.1 x.2:=by
 have wk:∀w:List Int,CE (Bc ns) ws js js.length ws.length (HE w [])=(DU (Jf js) js.length).map λk=>HE w k:=λw=>by
  rw [Si _ _ _ (Nat.le_refl _),Nat.sub_self,Il];congr 1;funext k;exact AAA
 unfold LW;rw [OE,List.map_flatMap];have rhs:∀w:List Int,(if Bc ns (HE w [])=true then (DU (Jf js) js.length).map λk=>(w,k) else []).map (λx=>HE x.1 x.2)=if Bc ns (HE w [])=true then CE (Bc ns) ws js js.length ws.length (HE w []) else []:=λw=>by
  split
  ·rw [wk,List.map_map];rfl
  ·rfl
 simp only [rhs];unfold AA;rcases Nat.eq_zero_or_pos ws.length with h | h
 ·rw [h,Nat.zero_add];show _=[[]].flatMap _;rw [List.flatMap_cons,List.flatMap_nil,List.append_nil];have z:(HE [] []:AC)=AC.zero:=by rw [<-Sj,Sh]
  rw [z];by_cases c:Bc ns AC.zero=true
  ·rw [if_pos (.inr c),if_pos c]
  ·rw [if_neg (λq=>q.elim aA c),if_neg c]
 ·rw [if_pos (.inl h)]
  have:=Vo (ag:=Bc ns) (ws:=ws) (js:=js) (ws.length-1) 0 AC.zero aA
  rw [show ws.length-1+1=ws.length by omega] at this;rw [this,Il];congr 1;funext w;rw [Sj]
end
end Go.Ns
namespace Go.Ns
section
variable {np x i k:Nat} {o:Nat->Int} {v:Int} {ws:List AB} {p:AC}
end
section
variable {bag kinds:Int} {ps:List ByteArray} {ws:List AB} {js:List AK} {ns:List AE} {p:AC} {x i:Nat}
end
section
variable {F:AC->Int} {pq:List AC} {hl:List (List Int×List Int)}
end
end Go.Ns
namespace Go.Ns
open Go.Conc
section
variable {S:Nat->Int×Int}
theorem KC:∀(m:Nat)(s:List Int),s ∈ DU S m->s.length=m/\∀k,k<m->(S k).1<=s.getD k 0/\s.getD k 0<=(S k).2
 | 0,s,h=>by rw [List.mem_singleton.1 h];exact ⟨rfl,λk hk=>absurd hk (Nat.not_lt_zero _)⟩
 | m+1,s,h=>by
  obtain ⟨x,hx,h⟩:=List.mem_flatMap.1 h;obtain ⟨n,hn,rfl⟩:=List.mem_map.1 h;obtain ⟨e,r⟩:=KC m x hx;have hn:=PN.1 hn;refine ⟨by rw [List.length_append,e];rfl,λk hk=>?_⟩;rw [Ii];by_cases c:k<m
  ·rw [if_pos aA];exact r k c
  ·have:k=m:=aA
   subst this;rw [if_neg aA,e,Nat.sub_self];show (S k).1<=n/\n<=(S k).2;omega
end
section
variable {bag kinds:Int} {ps:List ByteArray} {ws:List AB} {js:List AK} {ns:List AE} {k:Nat}
section
variable {W K:List (List Int)} {i j:Nat}
end
theorem num_ok(bk:Ap bag kinds ps ws js ns){s:List Int}(hs:s ∈ DU (II ws) ws.length)(k:Nat):0<=s.getD k 0/\s.getD k 0<=30:=by
 obtain ⟨e,r⟩:=KC _ s hs;by_cases h:k<ws.length
 ·have:=(L9 bk.way k h).time
  have q:=r k h;unfold II at q;omega
 ·rw [BZ aA];decide
theorem numJ_ok(bk:Ap bag kinds ps ws js ns){s:List Int}(hs:s ∈ DU (Jf js) js.length)(k:Nat):0<=s.getD k 0/\s.getD k 0<=30:=by
 obtain ⟨e,r⟩:=KC _ s hs;by_cases h:k<js.length
 ·have:=(MB (bk.job k h)).time
  have q:=r k h;unfold Jf at q;omega
 ·rw [BZ aA];decide
theorem Sm(bk:Ap bag kinds ps ws js ns){x:List Int×List Int}(h:x ∈ LW ws js ns):BH (HE x.1 x.2)/\x.1.length=ws.length/\x.2.length=js.length:=by
 obtain ⟨w,hw,h⟩:=List.mem_flatMap.1 h;obtain ⟨k,hk,rfl⟩:=List.mem_map.1 h;have hw:=(List.mem_filter.1 hw).1;exact ⟨⟨num_ok bk hw,numJ_ok bk hk⟩,(KC _ w hw).1,(KC _ k hk).1⟩
end
section
variable {bag kinds:Int} {ps:List ByteArray} {ws:List AB} {js:List AK} {ns:List AE} {l:List Int} {p:AC}
end
section
variable {G:AC->Int} {pq:List AC} {due:Int}
end
section
variable {bag kinds:Int} {ps:List ByteArray} {ws:List AB} {js:List AK} {ns:List AE} {l:List Int}
end
section
variable {G:AC->Int} {pq:List AC} {due v:Int} {i:Nat}
end
end Go.Ns
namespace Go.Ns
section
variable {V β γ:Type}
theorem Sn{A B:List V}{f g:V->List β}(h:A.Perm B)(e:∀a ∈ A,(f a).Perm (g a)):(A.flatMap f).Perm (B.flatMap g):=by
 have one:∀A:List V,(∀a ∈ A,(f a).Perm (g a))->(A.flatMap f).Perm (A.flatMap g):=by
  intro A
  induction A with
  | nil=>exact λ_=>List.Perm.refl _
  | cons a A ih=>
   intro e;rw [List.flatMap_cons,List.flatMap_cons];exact (e a List.mem_cons_self).append (ih λb hb=>e b (List.mem_cons_of_mem _ hb))
 exact (one A e).trans (h.flatMap_right _)
theorem Vp(g:β->γ)(k:β->List γ):∀B:List β,(B.flatMap λx=>g x ::k x).Perm (B.map g++B.flatMap k)
 | []=>List.Perm.refl _
 | b ::B=>by
  rw [List.flatMap_cons,List.map_cons,List.flatMap_cons,List.cons_append,List.cons_append];refine List.Perm.cons _ (((Vp g k B).append_left (k b)).trans ?_);rw [<-List.append_assoc,<-List.append_assoc];exact List.perm_append_comm.append_right _
theorem Ss(f:V->β->γ)(B:List β):∀A:List V,(A.flatMap λn=>B.map (f n)).Perm (B.flatMap λx=>A.map λn=>f n x)
 | []=>aD
 | a ::A=>by
  rw [List.flatMap_cons];exact ((Ss f B A).append_left _).trans (Vp (f a) (λx=>A.map λn=>f n x) B).symm
theorem Ea{l:List V}{z:V}{k:Nat}(h:k<l.length):l.reverse.getD k z=l.getD (l.length-1-k) z:=by
 rw [CQ z (by rw [List.length_reverse];exact h),CQ z (show l.length-1-k<l.length by omega),List.getElem_reverse]
end
theorem St{S:Nat->Int×Int}:∀f i,Z8 S f (i+1)=Z8 (λk=>S (k+1)) f i
 | 0,_=>rfl
 | f+1,i=>by
  unfold Z8;rw [St f (i+1)]
theorem QO{S:Nat->Int×Int}:∀(m:Nat)(S':Nat->Int×Int),(∀k,k<m->S' k=S (m-1-k))->(DU S' m).Perm ((DU S m).map List.reverse)
 | 0,_,_=>List.Perm.refl _
 | m+1,S',h=>by
  have ih:=QO m (λk=>S' (k+1)) λk hk=>by rw [h (k+1) aA];congr 1;omega
  have h0:S' 0=S m:=h 0 (Nat.succ_pos _);have e1:DU S' (m+1)=(ED (S m).1 (S m).2).flatMap λn=>(DU (λk=>S' (k+1)) m).map (n ::·):=by
   rw [Il,Il,<-St m 0,<-h0];rfl
  have e2:(DU S (m+1)).map List.reverse=(DU S m).flatMap λx=>(ED (S m).1 (S m).2).map λn=>n ::x.reverse:=by
   show ((DU S m).flatMap λx=>(ED (S m).1 (S m).2).map λn=>x++[n]).map List.reverse=_;rw [List.map_flatMap];congr 1;funext x;rw [List.map_map];exact List.map_congr_left λn _=>List.reverse_append
  rw [e1,e2];have s:=Ss (λ(n:Int)(x:List Int)=>n ::x) ((DU S m).map List.reverse) (ED (S m).1 (S m).2);refine ((Sn (List.Perm.refl _) λn _=>ih.map _).trans s).trans ?_;rw [List.flatMap_map]
def BF(m:Int)(l:List Int):List Int:=l.map λx=>m-x
theorem Dp(m:Int)(l:List Int):(BF m l).length=l.length:=List.length_map _
theorem Su{m:Int}{l:List Int}{k:Nat}(h:k<l.length):(BF m l).getD k 0=m-l.getD k 0:=by
 unfold BF;rw [CQ 0 (by simpa using h),List.getElem_map,CQ 0 h]
theorem LX(m:Int)(l:List Int):BF m (BF m l)=l:=by
 unfold BF;rw [List.map_map]
 have:((λx=>m-x) ∘ λx:Int=>m-x)=id:=funext λx=>by show m-(m-x)=x;omega
 rw [this,List.map_id]
structure Gb(nw:Nat)(ns ns':List AE):Prop where
 len:ns'.length=ns.length
 at_:∀k,k<ns.length->(ns'.getD k AE.z).ways=BF ((nw:Int)-1) (ns.getD (ns.length-1-k) AE.z).ways/\(ns'.getD k AE.z).low=(ns.getD (ns.length-1-k) AE.z).low/\(ns'.getD k AE.z).high=(ns.getD (ns.length-1-k) AE.z).high
section
variable {bag kinds:Int} {ps:List ByteArray} {ws:List AB} {js:List AK} {ns ns':List AE} {w k l:List Int} {nw:Nat}
theorem Gb.symm(h:Gb nw ns ns'):Gb nw ns' ns:=⟨h.len.symm,λk hk=>by
 rw [h.len] at hk ⊢;obtain ⟨a,b,c⟩:=h.at_ (ns.length-1-k) aA;rw [show ns.length-1-(ns.length-1-k)=k by omega] at a b c;exact ⟨by rw [a,LX],b.symm,c.symm⟩⟩
theorem QP(hw:w.length=nw):∀{l:List Int},(∀x ∈ l,0<=x/\x<=(nw:Int)-1)->Dv (HE w.reverse []) (BF ((nw:Int)-1) l)=Dv (HE w []) l
 | [],_=>rfl
 | x ::l,h=>by
  have ih:=QP hw (l:=l) λy hy=>h y (List.mem_cons_of_mem _ hy);have hx:=h x List.mem_cons_self;have e:w.reverse.getD ((nw:Int)-1-x).toNat 0=w.getD x.toNat 0:=by
   rw [Ea aA];congr 1;omega
  unfold Dv BF at ih ⊢;rw [List.map_cons,List.map_cons,List.map_cons,List.sum_cons,List.sum_cons,ih];show w.reverse.getD ((nw:Int)-1-x).toNat 0+_=w.getD x.toNat 0+_;rw [e]
theorem Sv(p:AC):Bc ns p=true↔∀k,k<ns.length->(ns.getD k AE.z).low<=Dv p (ns.getD k AE.z).ways/\Dv p (ns.getD k AE.z).ways<=(ns.getD k AE.z).high:=by
 unfold Bc;rw [List.all_eq_true];refine ⟨λh k hk=>of_decide_eq_true (h _ (BO hk)),λh x hx=>?_⟩;obtain ⟨k,hk,e⟩:=List.mem_iff_getElem.1 hx
 have:=h k hk
 rw [CQ AE.z hk,e] at this;exact decide_eq_true this
theorem UK(hn:∀k,k<ns.length->Cq nw ns k=0){k:Nat}(hk:k<ns.length):∀x ∈ (ns.getD k AE.z).ways,0<=x/\x<=(nw:Int)-1:=λx hx=>by
 have h:=hn k hk;unfold Cq at h;split at h
 ·cases h
 ·split at h
  ·cases h
  ·rename_i q
   refine Decidable.byContradiction λc=>q (List.any_eq_true.2 ⟨x,hx,decide_eq_true c⟩)
theorem XJ(hR:Gb nw ns ns')(hn:∀k,k<ns.length->Cq nw ns k=0)(hw:w.length=nw):Bc ns' (HE w.reverse [])=Bc ns (HE w []):=by
 have key:Bc ns' (HE w.reverse [])=true↔Bc ns (HE w [])=true:=by
  rw [Sv,Sv];constructor
  ·intro h k hk
   have:=h (ns.length-1-k) (by rw [hR.len];omega)
   obtain ⟨a,b,c⟩:=hR.at_ (ns.length-1-k) aA;rw [show ns.length-1-(ns.length-1-k)=k by omega] at a b c;rw [a,b,c,QP hw (UK hn hk)] at this;exact this
  ·intro h k hk;rw [hR.len] at hk
   have:=h (ns.length-1-k) aA
   obtain ⟨a,b,c⟩:=hR.at_ k hk;rw [a,b,c,QP hw (UK hn aA)];exact this
 cases h1:Bc ns' (HE w.reverse []) <;> cases h2:Bc ns (HE w []) <;> simp_all
theorem Vq{S:Nat->Int×Int}{m:Nat}{s:List Int}(h:s ∈ DU S m):s.length=m:=by
 rw [Il] at h;exact Y3 m 0 s h
theorem AAB:(DU (II ws.reverse) ws.length).Perm ((DU (II ws) ws.length).map List.reverse):=QO _ _ λk hk=>by unfold II;rw [Ea hk]
theorem AAC:(DU (Jf js.reverse) js.length).Perm ((DU (Jf js) js.length).map List.reverse):=QO _ _ λk hk=>by unfold Jf;rw [Ea hk]
theorem AAD(hR:Gb ws.length ns ns')(hn:∀k,k<ns.length->Cq ws.length ns k=0):(LW ws.reverse js.reverse ns').Perm ((LW ws js ns).map λx=>(x.1.reverse,x.2.reverse)):=by
 unfold LW;rw [List.length_reverse,List.length_reverse,List.map_flatMap];have f1:=AAB (ws:=ws).filter λw=>Bc ns' (HE w []);have f2:((DU (II ws) ws.length).map List.reverse).filter (λw=>Bc ns' (HE w []))=((DU (II ws) ws.length).filter λw=>Bc ns (HE w [])).map List.reverse:=by
  rw [List.filter_map];congr 1;exact List.filter_congr λw hw=>XJ hR hn (Vq hw)
 rw [f2] at f1;refine (Sn f1 (g:=λw=>((DU (Jf js) js.length).map List.reverse).map λk=>(w,k)) λw _=>AAC.map _).trans ?_;rw [List.flatMap_map];simp only [List.map_map];exact List.Perm.refl _
theorem NE(hR:Gb ws.length ns ns')(hn:∀k,k<ns.length->Cq ws.length ns k=0):(AA ws.reverse js.reverse ns').Perm ((LW ws js ns).map λx=>HE x.1.reverse x.2.reverse):=by
 rw [IJ]
 have:=(AAD (js:=js) hR hn).map λx=>HE x.1 x.2
 rwa [List.map_map] at this
theorem GA(hR:Gb ws.length ns ns')(hn:∀k,k<ns.length->Cq ws.length ns k=0):(AA ws.reverse js.reverse ns').length=(AA ws js ns).length:=by
 rw [(NE hR hn).length_eq,IJ,List.length_map,List.length_map]
end
section
variable {bag kinds:Int} {ps:List ByteArray} {ws:List AB} {js:List AK} {ns ns':List AE} {w k:List Int} {nw x u v n:Nat} {d:Int}
theorem step_rev(hw:w.length=ws.length)(h:MT ws (HE w k) u v d):MT ws.reverse (HE w.reverse k.reverse) u v d:=by
 obtain ⟨q,hq,hs,e⟩:=h;refine ⟨ws.length-1-q,by rw [List.length_reverse];omega,?_,?_⟩
 ·unfold wA wB at hs ⊢;rw [Ea aA,show ws.length-1-(ws.length-1-q)=q by omega];exact hs
 ·rw [e];show w.getD q 0=w.reverse.getD (ws.length-1-q) 0;rw [Ea aA];congr 1;omega
theorem Y4(hw:w.length=ws.length)(h:K6 ws (HE w k) x n v d):K6 ws.reverse (HE w.reverse k.reverse) x n v d:=by
 induction h with
 | nil=>exact .nil
 | step _ c ih=>exact ih.step (step_rev hw c)
theorem trw_can{p:AC}(h:K6 ws p 0 n v d):D7 ws n c0 v=true:=by
 induction h with
 | nil=>rfl
 | step _ c ih=>
  obtain ⟨q,hq,hs,_⟩:=c;rw [IH];have m:ws.getD q AB.z ∈ ws:=BO hq;unfold wA wB at hs;rcases hs with ⟨rfl,rfl⟩ | ⟨rfl,rfl⟩
  ·exact (F9 ws _ m (.inl ih)).2
  ·exact (F9 ws _ m (.inr ih)).1
theorem pair_way(h:∀k,k<ws.length->Cn nw ws k=0){i j:Nat}(hi:i<j)(hj:j<ws.length):¬((ws.getD i AB.z).a=(ws.getD j AB.z).a/\(ws.getD i AB.z).b=(ws.getD j AB.z).b):=λe=>by
 have q:=h j hj;unfold Cn at q;split at q
 ·rename_i c;exact c q
 ·split at q
  ·cases q
  ·split at q
   ·cases q
   ·rename_i c
    refine c (List.any_eq_true.2 ⟨ws.getD i AB.z,?_,decide_eq_true e⟩)
    have:(ws.take j).getD i AB.z=ws.getD i AB.z:=by
     rw [CQ AB.z (by rw [List.length_take];omega),List.getElem_take,CQ AB.z aA]
    rw [<-this];exact BO (by rw [List.length_take];omega)
theorem way_rev(h:∀k,k<ws.length->Cn nw ws k=0)(q:Nat)(hq:q<ws.reverse.length):Cn nw ws.reverse q=0:=by
 rw [List.length_reverse] at hq;have o:=h (ws.length-1-q) aA;unfold Cn at o ⊢;rw [Ea hq];split at o
 ·rename_i c;exact absurd o c
 ·rename_i c1
  rw [if_neg c1];split at o
  ·cases o
  ·rename_i c2
   rw [if_neg c2];split at o
   ·cases o
   ·split at o
    ·cases o
    ·rename_i c4
     rw [if_neg,if_neg c4];intro a;obtain ⟨y,hy,e⟩:=List.any_eq_true.1 a;obtain ⟨i,hi,ey⟩:=List.mem_iff_getElem.1 hy;rw [List.length_take,List.length_reverse] at hi;have e2:=of_decide_eq_true e;rw [<-ey,List.getElem_take,<-CQ AB.z,Ea aA] at e2;exact pair_way h (show ws.length-1-q<ws.length-1-i by omega) aA ⟨e2.1.symm,e2.2.symm⟩
theorem note_rev(hR:Gb nw ns ns')(hn:∀k,k<ns.length->Cq nw ns k=0)(q:Nat)(hq:q<ns'.length):Cq nw ns' q=0:=by
 rw [hR.len] at hq;obtain ⟨a,b,c⟩:=hR.at_ q hq;have i:=UK hn (k:=ns.length-1-q) aA;have o:=hn (ns.length-1-q) aA;unfold Cq at o ⊢;rw [a,b,c,Dp];split at o
 ·cases o
 ·rename_i c1
  rw [if_neg c1];split at o
  ·cases o
  ·rw [if_neg]
   ·exact o
   ·intro z;obtain ⟨y,hy,e⟩:=List.any_eq_true.1 z;obtain ⟨y0,hy0,rfl⟩:=List.mem_map.1 hy
    have:=i y0 hy0
    exact of_decide_eq_true e ⟨aA,aA⟩
theorem Ap.rev(bk:Ap bag kinds ps ws js ns)(hR:Gb ws.length ns ns'):Ap bag kinds ps ws.reverse js.reverse ns':=by
 have hled:E7 ps.length ws.reverse=0:=by
  unfold E7;rw [if_neg];intro a;obtain ⟨y,hy,e⟩:=List.any_eq_true.1 a;unfold Mx at hy;obtain ⟨q,hq,rfl⟩:=List.mem_map.1 hy;have hq2:=List.mem_range.1 hq;obtain ⟨n,hn,t⟩:=Sg (x:=0) (v:=q) (p:=HE (List.replicate ws.length 0) []) bk ⟨λi=>by
    show 0<=(List.replicate ws.length (0:Int)).getD i 0/\(List.replicate ws.length (0:Int)).getD i 0<=30;by_cases h:i<ws.length
    ·rw [CQ 0 (by rw [List.length_replicate];exact h),List.getElem_replicate];omega
    ·rw [BZ (by rw [List.length_replicate];omega)];omega,λi=>⟨Int.le_refl _,(aC:(0:Int)<=30)⟩⟩ (by have:=bk.plen;omega) hq2
  have c:=Kb (trw_can (Y4 (List.length_replicate ..) t)) (ps.length-n) (m:=ps.length) (n:=n) aA;unfold c0 at c;rw [c] at e;cases e
 have hjob:∀q,q<js.reverse.length->FJ ps.length kinds js.reverse q=0:=λq hq=>by
  rw [List.length_reverse] at hq
  have:=bk.job (js.length-1-q) aA
  unfold FJ at this ⊢;rw [Ea hq];exact this
 have hnote:∀q,q<ns'.length->Cq ws.reverse.length ns' q=0:=λq hq=>by rw [List.length_reverse];exact note_rev hR bk.note q hq
 exact ⟨bk.hbag,bk.hkin,bk.plen,bk.place,(by rw [List.length_reverse];exact bk.wlen),way_rev bk.way,hled,(by rw [List.length_reverse];exact bk.jlen),hjob,(by rw [hR.len];exact bk.nlen),hnote⟩
end
end Go.Ns
namespace Go.Ns
section
variable {bag kinds:Int} {ps:List ByteArray} {ws:List AB} {js js2:List AK} {ns ns' ns2:List AE} {w k l:List Int} {a b:Nat} {s:Int} {F F':AC->Int}
theorem BH.rev(h:BH (HE w k)):BH (HE w.reverse k.reverse):=by
 have one:∀l:List Int,(∀i,0<=l.getD i 0/\l.getD i 0<=30)->∀i,0<=l.reverse.getD i 0/\l.reverse.getD i 0<=30:=λl h i=>by
  by_cases c:i<l.length
  ·rw [Ea c];exact h _
  ·rw [BZ (by rw [List.length_reverse];omega)];omega
 exact ⟨one w h.ways,one k h.works⟩
theorem QQ(bk:Ap bag kinds ps ws js ns)(bk2:Ap bag kinds ps ws.reverse js2 ns2)(hp:BH (HE w k))(hw:w.length=ws.length)(ha:a<ps.length)(hb:b<ps.length):AX ps.length ws.reverse (HE w.reverse k.reverse) a b<=AX ps.length ws (HE w k) a b:=by
 obtain ⟨n,_,t⟩:=Sg bk hp ha hb;exact UJ bk2 hp.rev ha (Y4 hw t)
theorem UL(bk:Ap bag kinds ps ws js ns)(bk2:Ap bag kinds ps ws.reverse js2 ns2)(hp:BH (HE w k))(hw:w.length=ws.length)(ha:a<ps.length)(hb:b<ps.length):AX ps.length ws.reverse (HE w.reverse k.reverse) a b=AX ps.length ws (HE w k) a b:=by
 refine Int.le_antisymm (QQ bk bk2 hp hw ha hb) ?_
 have:=QQ (ws:=ws.reverse) (w:=w.reverse) (k:=k.reverse) (js2:=js) (ns2:=ns) bk2 (by rw [List.reverse_reverse];exact bk) hp.rev (by rw [List.length_reverse,List.length_reverse];exact hw) ha hb
 rwa [List.reverse_reverse,List.reverse_reverse,List.reverse_reverse] at this
theorem GL.turn(h:GL js.length l):GL js.reverse.length (BF ((js.length:Int)-1) l):=by
 rw [List.length_reverse];refine ⟨?_,λx hx=>?_⟩
 ·unfold BF;exact List.Pairwise.map _ (λa b n e=>n aA) h.1
 ·obtain ⟨y,hy,rfl⟩:=List.mem_map.1 hx
  have:=h.2 y hy
  omega
theorem MW(h:GL js.length l){q:Nat}(hq:q<l.length):js.reverse.getD ((BF ((js.length:Int)-1) l).getD q 0).toNat AK.z=js.getD (l.getD q 0).toNat AK.z/\(k.length=js.length->k.reverse.getD ((BF ((js.length:Int)-1) l).getD q 0).toNat 0=k.getD (l.getD q 0).toNat 0):=by
 have r:=h.at q hq;rw [Su hq];refine ⟨?_,λe=>?_⟩
 ·rw [Ea aA];congr 1;omega
 ·rw [Ea aA];congr 1;omega
theorem Y5(h:GL js.length l):∀q,q<=l.length->GX js.reverse (BF ((js.length:Int)-1) l) q=GX js l q
 | 0,_=>rfl
 | q+1,hq=>by
  show (js.reverse.getD ((BF ((js.length:Int)-1) l).getD q 0).toNat AK.z).place=(js.getD (l.getD q 0).toNat AK.z).place;rw [(MW (k:=[]) h aA).1]
theorem QR(bk:Ap bag kinds ps ws js ns)(bk2:Ap bag kinds ps ws.reverse js2 ns2)(hp:BH (HE w k))(hw:w.length=ws.length)(hk:k.length=js.length)(h:GL js.length l):∀q,q<=l.length->Bn ps.length ws.reverse js.reverse (HE w.reverse k.reverse) (BF ((js.length:Int)-1) l) q=Bn ps.length ws js (HE w k) l q
 | 0,_=>rfl
 | q+1,hq=>by
  have t:=MW (k:=k) h (q:=q) aA;have g:=Pm bk h.at q aA;have p:=(My bk (h.at q aA)).place;unfold Bn;rw [QR bk bk2 hp hw hk h q aA,Y5 h q aA,t.1,UL bk bk2 hp hw aA aA];show _+(_+k.reverse.getD _ 0)=_+(_+k.getD _ 0);rw [t.2 hk]
theorem AAE(bk:Ap bag kinds ps ws js ns)(bk2:Ap bag kinds ps ws.reverse js2 ns2)(hp:BH (HE w k))(hw:w.length=ws.length)(hk:k.length=js.length)(h:GL js.length l):Aa ps.length ws.reverse js.reverse (HE w.reverse k.reverse) (BF ((js.length:Int)-1) l)=Aa ps.length ws js (HE w k) l:=by
 have g:=Pm bk h.at l.length (Nat.le_refl _)
 have:=bk.plen
 unfold Aa;rw [Dp,QR bk bk2 hp hw hk h _ (Nat.le_refl _),Y5 h _ (Nat.le_refl _),UL bk bk2 hp hw aA aA]
theorem UM(bk:Ap bag kinds ps ws js ns)(h0:0<(AA ws js ns).length)(hR:Gb ws.length ns ns')(e:∀w k:List Int,BH (HE w k)->w.length=ws.length->k.length=js.length->F' (HE w.reverse k.reverse)=F (HE w k)):CC F' (AA ws.reverse js.reverse ns')=CC F (AA ws js ns)/\BA F' (AA ws.reverse js.reverse ns')=BA F (AA ws js ns):=by
 have len:=GA (js:=js) hR bk.note;have fwd:∀y ∈ AA ws.reverse js.reverse ns',∃x ∈ AA ws js ns,F' y=F x:=λy hy=>by
  obtain ⟨x,hx,rfl⟩:=List.mem_map.1 ((NE hR bk.note).mem_iff.1 hy);have o:=Sm bk hx;exact ⟨HE x.1 x.2,by rw [IJ];exact List.mem_map.2 ⟨x,hx,rfl⟩,e _ _ o.1 o.2.1 o.2.2⟩
 have bwd:∀x ∈ AA ws js ns,∃y ∈ AA ws.reverse js.reverse ns',F' y=F x:=λx hx=>by
  rw [IJ] at hx;obtain ⟨z,hz,rfl⟩:=List.mem_map.1 hx;have o:=Sm bk hz;exact ⟨_,(NE hR bk.note).mem_iff.2 (List.mem_map.2 ⟨z,hz,rfl⟩),e _ _ o.1 o.2.1 o.2.2⟩
 have h1:0<(AA ws.reverse js.reverse ns').length:=aA
 constructor
 ·obtain ⟨y,hy,ey⟩:=VX (F:=F') h1;obtain ⟨x,hx,ex⟩:=VX (F:=F) h0;obtain ⟨x1,hx1,e1⟩:=fwd y hy;obtain ⟨y1,hy1,e2⟩:=bwd x hx;have a:=Yx (F:=F) hx1;have b:=Yx (F:=F') hy1;omega
 ·obtain ⟨y,hy,ey⟩:=VY (F:=F') h1;obtain ⟨x,hx,ex⟩:=VY (F:=F) h0;obtain ⟨x1,hx1,e1⟩:=fwd y hy;obtain ⟨y1,hy1,e2⟩:=bwd x hx;have a:=Yy (F:=F) hx1;have b:=Yy (F:=F') hy1;omega
theorem Im(hz:A0 bag kinds ps ws js ns=0)(hR:Gb ws.length ns ns'):A0 bag kinds ps ws.reverse js.reverse ns'=0:=bell_of ((B2 hz).rev hR)
theorem H4(hz:A0 bag kinds ps ws js ns=0)(hR:Gb ws.length ns ns'):AH bag kinds ps ws.reverse js.reverse ns' s=AH bag kinds ps ws js ns s:=by
 unfold AH;rw [Im hz hR,hz,GA hR (B2 hz).note]
theorem Vr(hz:A0 bag kinds ps ws js ns=0)(hR:Gb ws.length ns ns'):C3 bag kinds ps ws.reverse js.reverse ns'=C3 bag kinds ps ws js ns:=by
 rw [Vh (Im hz hR),Vh hz,GA hR (B2 hz).note]
theorem QS(hz:A0 bag kinds ps ws js ns=0)(hR:Gb ws.length ns ns')(ha:a<ps.length)(hb:b<ps.length) :
  DR (AH bag kinds ps ws.reverse js.reverse ns' s) (CC (λx=>AX ps.length ws.reverse x a b) (AA ws.reverse js.reverse ns'))=DR (AH bag kinds ps ws js ns s) (CC (λx=>AX ps.length ws x a b) (AA ws js ns))/\
  DR (AH bag kinds ps ws.reverse js.reverse ns' s) (BA (λx=>AX ps.length ws.reverse x a b) (AA ws.reverse js.reverse ns'))=DR (AH bag kinds ps ws js ns s) (BA (λx=>AX ps.length ws x a b) (AA ws js ns)):=by
 rw [H4 hz hR];by_cases h0:AH bag kinds ps ws js ns s=0
 ·have bk:=B2 hz;have m:=UM (F:=λx=>AX ps.length ws x a b) (F':=λx=>AX ps.length ws.reverse x a b) bk (Dj h0).2.2 hR λw k hp hw _=>UL bk (bk.rev hR) hp hw ha hb;rw [m.1,m.2];exact ⟨rfl,rfl⟩
 ·rw [ID h0,ID h0,ID h0,ID h0];exact ⟨rfl,rfl⟩
theorem Y6(bk:Ap bag kinds ps ws js ns)(h0:0<(AA ws js ns).length)(hR:Gb ws.length ns ns')(h:GL js.length l){q:Nat}(hq:q<=l.length) :
  CC (λx=>Bn ps.length ws.reverse js.reverse x (BF ((js.length:Int)-1) l) q) (AA ws.reverse js.reverse ns')=CC (λx=>Bn ps.length ws js x l q) (AA ws js ns)/\
  BA (λx=>Bn ps.length ws.reverse js.reverse x (BF ((js.length:Int)-1) l) q) (AA ws.reverse js.reverse ns')=BA (λx=>Bn ps.length ws js x l q) (AA ws js ns):=
 UM bk h0 hR λw k hp hw hk=>QR bk (bk.rev hR) hp hw hk h q hq
theorem Vs(bk:Ap bag kinds ps ws js ns)(h0:0<(AA ws js ns).length)(hR:Gb ws.length ns ns')(h:GL js.length l) :
  BA (λx=>Aa ps.length ws.reverse js.reverse x (BF ((js.length:Int)-1) l)) (AA ws.reverse js.reverse ns')=BA (λx=>Aa ps.length ws js x l) (AA ws js ns):=
 (UM bk h0 hR λw k hp hw hk=>AAE bk (bk.rev hR) hp hw hk h).2
theorem Sw(bk:Ap bag kinds ps ws js ns)(h0:0<(AA ws js ns).length)(hR:Gb ws.length ns ns')(h:GL js.length l):∀q,q<=l.length->GY ps.length ws.reverse js.reverse (AA ws.reverse js.reverse ns') (BF ((js.length:Int)-1) l) q=GY ps.length ws js (AA ws js ns) l q
 | 0,_=>rfl
 | q+1,hq=>by
  have m:=Y6 bk h0 hR h hq;show GY ps.length ws.reverse js.reverse _ _ q++[(CC _ _,BA _ _)]=GY ps.length ws js _ _ q++[(CC _ _,BA _ _)];rw [Sw bk h0 hR h q aA,m.1,m.2]
theorem GL.turn'(h:GL js.length l):AU js.reverse.length (BF ((js.length:Int)-1) l)=0:=h.turn.bell
theorem Sx(hz:A0 bag kinds ps ws js ns=0)(hR:Gb ws.length ns ns')(h:GL js.length l):En bag kinds ps ws.reverse js.reverse ns' (BF ((js.length:Int)-1) l)=En bag kinds ps ws js ns l:=by
 unfold En;rw [h.turn',h.bell,H4 hz hR];by_cases h0:AH bag kinds ps ws js ns 0=0
 ·rw [if_neg (λq=>q h0),if_neg (λq=>q h0),Dp,Sw (B2 hz) (Dj h0).2.2 hR h _ (Nat.le_refl _)]
 ·rw [if_pos h0,if_pos h0]
theorem Sy(h:GL js.length l):∀q,q<=l.length->CK kinds js.reverse (BF ((js.length:Int)-1) l) q=CK kinds js l q
 | 0,_=>rfl
 | q+1,hq=>by
  have t:=(MW (k:=[]) h (show q<l.length by omega)).1;show F8 (CK kinds js.reverse _ q) (js.reverse.getD _ AK.z).parts (js.reverse.getD _ AK.z).parts.length=F8 (CK kinds js l q) (js.getD _ AK.z).parts (js.getD _ AK.z).parts.length;rw [Sy h q aA,t]
theorem AAF(bk:Ap bag kinds ps ws js ns)(h0:0<(AA ws js ns).length)(hR:Gb ws.length ns ns')(h:GL js.length l):Bv ps.length ws.reverse js.reverse (AA ws.reverse js.reverse ns') (BF ((js.length:Int)-1) l) bag kinds=Bv ps.length ws js (AA ws js ns) l bag kinds:=by
 have on:∀q,q<l.length->LR ps.length ws.reverse js.reverse (AA ws.reverse js.reverse ns') (BF ((js.length:Int)-1) l) q=LR ps.length ws js (AA ws js ns) l q:=λq hq=>by
  have m:=(Y6 bk h0 hR h (show q+1<=l.length by omega)).2;show decide (BA _ _<=(js.reverse.getD _ AK.z).due)=decide (BA _ _<=(js.getD _ AK.z).due);rw [m,(MW (k:=[]) h hq).1]
 unfold Bv DB;rw [Dp,Sy h _ (Nat.le_refl _)];congr 1;rw [Bool.eq_iff_iff,List.all_eq_true,List.all_eq_true];exact ⟨λg q hq=>by rw [<-on q (List.mem_range.1 hq)];exact g q hq,λg q hq=>by rw [on q (List.mem_range.1 hq)];exact g q hq⟩
theorem Ke(hz:A0 bag kinds ps ws js ns=0)(hR:Gb ws.length ns ns')(h:GL js.length l):Da bag kinds ps ws.reverse js.reverse ns' (BF ((js.length:Int)-1) l)=Da bag kinds ps ws js ns l:=by
 unfold Da;rw [h.turn',h.bell,H4 hz hR];by_cases h0:AH bag kinds ps ws js ns 0=0
 ·rw [if_neg (λq=>q h0),if_neg (λq=>q h0),AAF (B2 hz) (Dj h0).2.2 hR h]
 ·rw [if_pos h0,if_pos h0]
theorem Kf(hz:A0 bag kinds ps ws js ns=0)(hR:Gb ws.length ns ns'):(BY bag kinds ps ws.reverse js.reverse ns').length=(BY bag kinds ps ws js ns).length/\
  DR (AH bag kinds ps ws.reverse js.reverse ns' 0) (BA (λx=>Aa ps.length ws.reverse js.reverse x (BY bag kinds ps ws.reverse js.reverse ns')) (AA ws.reverse js.reverse ns'))=DR (AH bag kinds ps ws js ns 0) (BA (λx=>Aa ps.length ws js x (BY bag kinds ps ws js ns)) (AA ws js ns)):=by
 have o:=H4 (s:=0) hz hR;have hz2:=Im hz hR;by_cases h0:AH bag kinds ps ws js ns 0=0
 ·have h2:AH bag kinds ps ws.reverse js.reverse ns' 0=0:=o.trans h0;have bk:=B2 hz;have hp:=(Dj h0).2.2;obtain ⟨r1,s1⟩:=Vf hz h0;obtain ⟨r2,s2⟩:=Vf hz2 h2;have r3:GL js.length (BF ((js.length:Int)-1) (BY bag kinds ps ws.reverse js.reverse ns')):=by
   have:=r2.turn (js:=js.reverse)
   rwa [List.reverse_reverse,List.length_reverse] at this
  have t1:=Vg hz2 h2 r1.turn (by rw [Ke hz hR r1,QL h0 r1];exact s1);have t2:=Vg hz h0 r3 (by rw [<-Ke hz hR r3,LX,QL h2 r2];exact s2);rw [Dp] at t1 t2;have e:(BY bag kinds ps ws.reverse js.reverse ns').length=(BY bag kinds ps ws js ns).length:=Nat.le_antisymm t2.1 t1.1;have u1:=(t1.2 e.symm).1;have u2:=(t2.2 e).1;rw [h2,Hz,Hz,Vs bk hp hR r1] at u1;rw [h0,Hz,Hz,<-Vs bk hp hR r3,LX] at u2;refine ⟨e,?_⟩;rw [h2,h0,Hz,Hz];exact Int.le_antisymm u1 u2
 ·have h2:¬AH bag kinds ps ws.reverse js.reverse ns' 0=0:=λe=>h0 (o.symm.trans e);rw [(Se h0).1,(Se h2).1,ID h0,ID h2];exact ⟨rfl,rfl⟩
def chk8:Bool:=(List.range 5).all λn=>(List.range (2 ^ n)).all λ(x:Nat)=>(List.range (2 ^ n)).all λ(y:Nat)=> !(decide (MS (BI (x:Int) n)<=MS (BI (y:Int) n))) || decide ((BI (x:Int) n).length<=(BI (y:Int) n).length)
def chk9:Bool:=(List.range 5).all λn=>(List.range (2 ^ n)).all λ(x:Nat)=>(List.range (2 ^ n)).any λ(y:Nat)=>BI (y:Int) n==(BF ((n:Int)-1) (BI (x:Int) n)).reverse
theorem AAG:chk8=true:=aB
theorem AAH:chk9=true:=aB
theorem key_len{n x y:Nat}(hn:n<=4)(hx:x<2 ^ n)(hy:y<2 ^ n)(e:MS (BI (x:Int) n)<=MS (BI (y:Int) n)):(BI (x:Int) n).length<=(BI (y:Int) n).length:=by
 have h:=AAG;unfold chk8 at h;rw [List.all_eq_true] at h;have h2:=List.all_eq_true.1 (List.all_eq_true.1 (h n (List.mem_range.2 aA)) x (List.mem_range.2 hx)) y (List.mem_range.2 hy);rw [decide_eq_true e] at h2;exact of_decide_eq_true h2
theorem AAI{n x:Nat}(hn:n<=4)(hx:x<2 ^ n):∃y:Nat,y<2 ^ n/\BI (y:Int) n=(BF ((n:Int)-1) (BI (x:Int) n)).reverse:=by
 have h:=AAH;unfold chk9 at h;rw [List.all_eq_true] at h;obtain ⟨y,hy,e⟩:=List.any_eq_true.1 (List.all_eq_true.1 (h n (List.mem_range.2 aA)) x (List.mem_range.2 hx));exact ⟨y,List.mem_range.1 hy,eq_of_beq e⟩
theorem Gb.alone{nw:Nat}(hR:Gb nw ns ns')(hl:∀i,i<l.length->0<=l.getD i 0/\l.getD i 0<ns.length):Gb nw (JP ns l) (JP ns' (BF ((ns.length:Int)-1) l).reverse):=by
 refine ⟨by rw [Ff,Ff,List.length_reverse,Dp],λk hk=>?_⟩;rw [Ff] at hk;have r:=hl (l.length-1-k) aA;rw [JQ (by rw [List.length_reverse,Dp];exact hk),Ff,JQ (show l.length-1-k<l.length by omega),Ea (by rw [Dp];exact hk),Dp,Su aA];have a:=hR.at_ ((ns.length:Int)-1-l.getD (l.length-1-k) 0).toNat aA;rw [show ns.length-1-((ns.length:Int)-1-l.getD (l.length-1-k) 0).toNat=(l.getD (l.length-1-k) 0).toNat by omega] at a;exact a
theorem S0(bk:Ap bag kinds ps ws js ns)(hR:Gb ws.length ns ns'){m:Nat}(hm:m<2 ^ ns.length)(h:HM ws js ns m):∃y:Nat,y<2 ^ ns.length/\(BI (y:Int) ns.length).length=(BI (m:Int) ns.length).length/\HM ws.reverse js.reverse ns' y:=by
 have hn:=bk.nlen;obtain ⟨y,hy,e⟩:=AAI hn hm;have rg:∀i,i<(BI (m:Int) ns.length).length->0<=(BI (m:Int) ns.length).getD i 0/\(BI (m:Int) ns.length).getD i 0<ns.length:=λi hi=>by
  have:=mask_rng hn hm hi;exact ⟨this.1,this.2.1⟩
 have hl4:(BI (m:Int) ns.length).length<=4:=by have:=Mq (m:Int) ns.length;omega
 have t:=GA (js:=js) (hR.alone rg) (bk.alone rg hl4).note;unfold HM at h ⊢;refine ⟨y,hy,by rw [e,List.length_reverse,Dp],?_⟩;rw [hR.len,<-KB,e,t,KB];exact h
theorem S1(hz:A0 bag kinds ps ws js ns=0)(h0:(AA ws js ns).length=0):∃m:Nat,m<2 ^ ns.length/\Cg bag kinds ps ws js ns=BI (m:Int) ns.length/\HM ws js ns m/\∀m':Nat,m'<2 ^ ns.length->HM ws js ns m'->(BI (m:Int) ns.length).length<=(BI (m':Int) ns.length).length:=by
 have hn:=(B2 hz).nlen;have full:HM ws js ns (2 ^ ns.length-1):=by unfold HM;rw [<-KB,Z7 _ hn,XH];exact h0
 have h2:0<2 ^ ns.length:=Nat.two_pow_pos _;obtain ⟨c1,c2⟩:=Sf (ws:=ws) (js:=js) hn (2 ^ ns.length) (Nat.le_refl _);cases hb:(BT ws js ns (2 ^ ns.length)).1 with
 | false=>exact absurd full (c1 hb _ aA)
 | true=>
  obtain ⟨m,hm,e,hN,mn⟩:=c2 hb;refine ⟨m,hm,?_,hN,λm' h1 h3=>key_len hn hm h1 (mn m' h1 h3)⟩;unfold Cg;rw [if_neg (λx=>x hz),if_neg aA,e]
theorem S3(hz:A0 bag kinds ps ws js ns=0)(hR:Gb ws.length ns ns'):(Cg bag kinds ps ws.reverse js.reverse ns').length=(Cg bag kinds ps ws js ns).length:=by
 have bk:=B2 hz;have len:=GA (js:=js) hR bk.note;have hz2:=Im hz hR;by_cases h0:(0:Int)<(AA ws js ns).length
 ·rw [JB h0,JB aA]
 ·obtain ⟨m,hm,e,hN,mn⟩:=S1 hz aA;obtain ⟨m2,hm2,e2,hN2,mn2⟩:=S1 hz2 aA;obtain ⟨y,hy,ly,ny⟩:=S0 bk hR hm hN;obtain ⟨y2,hy2,ly2,ny2⟩:=S0 (ns:=ns') (ns':=ns) (bk.rev hR) (by rw [List.length_reverse];exact hR.symm) hm2 hN2;rw [List.reverse_reverse,List.reverse_reverse] at ny2;rw [hR.len] at mn2 hy2 ly2 e2 hm2;have a:=mn2 y hy ny;have b:=mn y2 hy2 ny2;rw [e,e2];omega
end
end Go.Ns
namespace Go.Ns
open Go.Conc
theorem Oj{P:Program}{E:GE P}{O:Nat->Value}{ds:List Deferred}{h hq:GH}{T:(Nat->Value)->List Deferred->GH->Prop}{dst:Option Nat}{ty:TypeId}{pos:String}{af:Array Edge}{gd:Option (Nat×Bool)}{V:Type}{x:Operand}{t:TypeId}{n:Nat}{enc:V->Array Value}{xs:List V}{v:Value}(ht:Jj P t=true)(hs:AL hq v n enc xs)(hx:AN O x=v)(k:T (putS O dst (.int .i64 xs.length)) ds h):BU E ⟨dst,.call ⟨.builtin .len,#[x],#[t]⟩,ty,pos,af,gd⟩ O ds h T:=by
 obtain ⟨a,cap,rfl,_,_,_⟩:=hs;exact LC ht hx k
section
variable {V:Type} {l:List V} {z:V} {q:Nat}
theorem Vt(h:q<l.length){i:Int}(e:i=(l.length:Int)-1-(q:Int)):l.reverse.take q++[l.getD i.toNat z]=l.reverse.take (q+1):=by
 rw [Dd z (by rw [List.length_reverse];exact h),Ea h,show i.toNat=l.length-1-q by omega]
theorem Y7(h:l.length<=q):l.reverse.take q=l.reverse:=List.take_of_length_le (by rw [List.length_reverse];exact h)
end
theorem XK{m:Int}{l:List Int}{k:Nat}(h:k<l.length):BF m (l.take k)++[m-l.getD k 0]=BF m (l.take (k+1)):=by
 unfold BF;rw [Dd 0 h,List.map_append];rfl
structure UN(nw:Nat)(ns nl:List AE)(q:Nat):Prop where
 len:nl.length=q
 at_:∀k,k<q->(nl.getD k AE.z).ways=BF ((nw:Int)-1) (ns.getD (ns.length-1-k) AE.z).ways/\(nl.getD k AE.z).low=(ns.getD (ns.length-1-k) AE.z).low/\(nl.getD k AE.z).high=(ns.getD (ns.length-1-k) AE.z).high
section
variable {nw q:Nat} {ns nl:List AE} {h h' h0:GH} {t:TypeId} {w:Value}
theorem UN.zero:UN nw ns [] 0:=⟨rfl,λ_ h=>absurd h (Nat.not_lt_zero _)⟩
theorem UN.next(x:UN nw ns nl q)(h:q<ns.length){i m:Int}(e:i=(ns.length:Int)-1-(q:Int))(em:m=(nw:Int)-1):UN nw ns (nl++[⟨w,BF m (ns.getD i.toNat AE.z).ways,(ns.getD i.toNat AE.z).low,(ns.getD i.toNat AE.z).high⟩]) (q+1):=by
 subst em;rw [show i.toNat=ns.length-1-q by omega];refine ⟨by rw [List.length_append,x.len];rfl,λk hk=>?_⟩;rw [Ii];by_cases c:k<nl.length
 ·rw [if_pos c];exact x.at_ k (by rw [<-x.len];exact c)
 ·have hl:=x.len;rw [if_neg c,show k-nl.length=0 by omega,show k=q by omega];exact ⟨rfl,rfl,rfl⟩
theorem UN.all(x:UN nw ns nl q)(h:q<=ns.length)(h2:ns.length<=q):Gb nw ns nl:=by
 have e:q=ns.length:=aA
 subst e;exact ⟨x.len,x.at_⟩
theorem Bm.rev{js:List AK}(x:Bm h js):Bm h js.reverse:=λk=>by
 by_cases c:k<js.length
 ·rw [Ea c];exact x _
 ·rw [BZ (by rw [List.length_reverse];omega)];exact Bm.nil h 0
theorem CB.nil(h:GH)(t:TypeId):CB h t []:=λ_=>Bz.nil _ _
theorem CB.app1{x:AE}(a:CB h t nl)(b:Bz h t x.wv x.ways):CB h t (nl++[x]):=λk=>by
 rw [Ii];by_cases c:k<nl.length
 ·rw [if_pos c];exact a k
 ·rw [if_neg c];cases e:k-nl.length with
  | zero=>exact b
  | succ n=>exact Bz.nil _ _
theorem CB.grown{V:Type}{v v':Value}{t':TypeId}{n:Nat}{enc:V->Array Value}{ys:List V}(g:Fy h h' v v')(o:AO h0 h v t' n enc ys)(ne:t'≠t)(x:CB h t nl):CB h' t nl:=λk=>(x k).grown g o ne
end
theorem AAJ{a b w:Value}(h:w.cells=#[w]):Instr.fill (λx=>#[(0,1),(1,2)][x]?) #[.slice none 0 0,.int .i64 0,.int .i64 0] [(0,w),(1,.agg #[a,b])]=some #[w,a,b]:=by
 have e1:∀cs,(Value.agg cs).cells=cs:=λ_=>rfl;simp [Instr.fill,h,e1]
end Go.Ns
namespace Go.Ns
open Go.Conc
universe u
theorem Z{V:Sort u}{a:V}:a=a:=rfl
theorem Lr{h:GH}:GH.Le h h:=GH.Le.refl h
theorem Ln{h h':GH}(l:h.Le h'){r:Nat}(hr:h' r=none):h r=none:=l.nothing hr
theorem CM{h:GH}{b r:Nat}{p:Bool}{o:Obj}(hb:h b=some (p,o))(hr:h r=none):b≠r:=GH.ne_of hb hr
theorem Nb{a b:Nat}(h:Nat.ble a b=true):a<=b:=Nat.le_of_ble_eq_true h
theorem Dn{p:Prop}[Decidable p](h:¬¬p):p:=Decidable.not_not.1 h
theorem Et{V:Sort u}{a b c:V}(x:a=b)(y:b=c):a=c:=x.trans y
theorem Kl{h0 h:GH}(k:KeepD (λb=>h0 b=none) h0 h):h0.Le h:=k.leOf
theorem Bx{h:GH}{b:Nat}{p:Bool}{c:Array Value}{t:TypeId}{f:Nat×Nat}(hb:h b=some (p,.cells c t f)){n:Nat}(hn:c.size=n):AY h b 0 n c:=AY.box hb hn
abbrev lE(v:Value):Law2:=λ_ u _=>u=v
abbrev lF(v:Value):R3:=λu _=>u=v
abbrev zP:Array Value:=#[.int .i64 0,.int .i64 0,.slice none 0 0,.slice none 0 0,.slice none 0 0,.slice none 0 0,.map none]
section
variable {P:Program} {E:GE P} {O:Nat->Value} {ds:List Deferred} {h:GH} {Q:Post} {T:(Nat->Value)->List Deferred->GH->Prop}
variable {dst:Option Nat} {ty:TypeId} {pos:String} {af:Array Edge} {ops:Array Oper} {o:Oper} {l:List Oper}
theorem Sq{x y:Code}(a:Tr E x O ds h (λe σ' ds' h'=>match e with | .normal=>Tr E y σ' ds' h' Q | e=>Q e σ' ds' h')):Tr E (.seq x y) O ds h Q:=tr_seq a
theorem Rg{id:Nat}{l:List Oper}(a:DN E l.toArray l O ds h Q):Tr E (.region id l.toArray false) O ds h Q:=ZE a
theorem Nl(q:Q .normal O ds h):DN E ops [] O ds h Q:=trL_nil q
abbrev Rt:=@tr_ret
abbrev Bk:=@tr_block
abbrev Sk:=@tr_skip
abbrev Xt:=@tr_exit
def plainB(N:Nat)(o:Oper):Bool:=o.guard.isNone && !C0 o.op && Cx o.dst N
theorem Pl(hp:plainB E.N o=true)(x:BU E o O ds h λσ' ds' h'=>DN E ops l σ' ds' h' Q):DN E ops (o ::l) O ds h Q:=by
 simp only [plainB,Bool.and_eq_true,Option.isNone_iff_eq_none,Bool.not_eq_true'] at hp;exact GN hp.1.1 hp.1.2 hp.2 x
theorem Mv{x:Operand}(v:Value)(hp:Cx dst E.N=true)(hx:AN O x=v)(k:DN E ops l (putS O dst v) ds h Q):DN E ops (⟨dst,.move x,ty,pos,af,none⟩ ::l) O ds h Q:=GN rfl rfl hp (Td hx k)
theorem As{x:Operand}(v:Value)(hp:Cx dst E.N=true)(hx:AN O x=v)(k:DN E ops l (putS O dst v) ds h Q):DN E ops (⟨dst,.assign x,ty,pos,af,none⟩ ::l) O ds h Q:=GN rfl rfl hp (GO hx k)
theorem Ld{t:TypeId}{x:Operand}{b off:Nat}(v:Value)(hp:Cx dst E.N=true)(hx:AN O x=.pointer (some ⟨b,off,none⟩))(hr:Rd P h t b off v)(k:DN E ops l (putS O dst v) ds h Q):DN E ops (⟨dst,.load t x,ty,pos,af,none⟩ ::l) O ds h Q:=
 GN rfl rfl hp (CU hx hr k)
theorem Fa{s:TypeId}{x:Operand}{f o b off:Nat}(hf:Ds P s f=some o)(hp:Cx dst E.N=true)(hx:AN O x=.pointer (some ⟨b,off,none⟩))(k:DN E ops l (putS O dst (.pointer (some ⟨b,off+o,none⟩))) ds h Q) :
  DN E ops (⟨dst,.fieldAddr s x f,ty,pos,af,none⟩ ::l) O ds h Q:=GN rfl rfl hp (AG hf hx k)
theorem Pk{c a b:Operand}(t:Bool)(v:Value)(hp:Cx dst E.N=true)(hc:AN O c=.bool t)(hv:(if t then AN O a else AN O b)=v)(k:DN E ops l (putS O dst v) ds h Q):DN E ops (⟨dst,.pick c a b,ty,pos,af,none⟩ ::l) O ds h Q:=
 GN rfl rfl hp (BJ hc hv k)
theorem Ad{xt yt:TypeId}{x y:Operand}(a b:Int)(hp:Cx dst E.N=true)(hx:AN O x=.int .i64 a)(hy:AN O y=.int .i64 b)(hr: -9223372036854775808<=a+b/\a+b<=9223372036854775807)(k:DN E ops l (putS O dst (.int .i64 (a+b))) ds h Q) :
  DN E ops (⟨dst,.binOp .add xt x y yt,ty,pos,af,none⟩ ::l) O ds h Q:=GN rfl rfl hp (Ow hx hy hr k)
def skipB(N:Nat)(ops:Array Oper)(o:Oper)(j d:Nat)(is:Bool):Bool:=(match o.guard with
 | some (i,w)=>i==j && w !=is
 | none=>false) && (match ops[j]? with
 | some oj=>(match oj.dst with
  | some e=>e==d
  | none=>false)
 | none=>false) && Nat.blt d N && Cx o.dst N
theorem Gs(j d:Nat){is:Bool}(hv:O d=.bool is)(hs:skipB E.N ops o j d is=true)(x:DN E ops l (putS O o.dst undef) ds h Q):DN E ops (o ::l) O ds h Q:=by
 simp only [skipB,Bool.and_eq_true] at hs;obtain ⟨⟨⟨h1,h2⟩,h3⟩,h4⟩:=hs;cases hg:o.guard with
 | none=>rw [hg] at h1;cases h1
 | some q=>
  obtain ⟨i,w⟩:=q;rw [hg] at h1;simp only [Bool.and_eq_true,beq_iff_eq,bne_iff_ne,ne_eq] at h1;obtain ⟨rfl,hne⟩:=h1;cases hj:ops[i]? with
  | none=>rw [hj] at h2;cases h2
  | some oj=>
   cases hd:oj.dst with
   | none=>simp [hj,hd] at h2
   | some e=>
    obtain rfl:e=d:=by simpa [hj,hd] using h2
    exact On hg hj hd hv h3 hne h4 x
def goB(N:Nat)(ops:Array Oper)(o:Oper)(j d:Nat)(is:Bool):Bool:=(match o.guard with
 | some (i,w)=>i==j && w==is
 | none=>false) && (match ops[j]? with
 | some oj=>(match oj.dst with
  | some e=>e==d
  | none=>false)
 | none=>false) && Nat.blt d N && !C0 o.op && Cx o.dst N
theorem Gg(j d:Nat){is:Bool}(hv:O d=.bool is)(hs:goB E.N ops o j d is=true)(x:BU E o O ds h λσ' ds' h'=>DN E ops l σ' ds' h' Q):DN E ops (o ::l) O ds h Q:=by
 simp only [goB,Bool.and_eq_true,Bool.not_eq_true'] at hs;obtain ⟨⟨⟨⟨h1,h2⟩,h3⟩,h5⟩,h4⟩:=hs;cases hg:o.guard with
 | none=>rw [hg] at h1;cases h1
 | some q=>
  obtain ⟨i,w⟩:=q;rw [hg] at h1;simp only [Bool.and_eq_true,beq_iff_eq] at h1;obtain ⟨rfl,rfl⟩:=h1;cases hj:ops[i]? with
  | none=>rw [hj] at h2;cases h2
  | some oj=>
   cases hd:oj.dst with
   | none=>simp [hj,hd] at h2
   | some e=>
    obtain rfl:e=d:=by simpa [hj,hd] using h2
    exact trL_opg hg hj hd hv h3 (.inr h5) h4 x
end
section
variable {S:Nat->Prop} {Pre:Nat->GH->Prop} {Φ:List Law2} {cl:List Nat} {k d:Nat} {h h':GH} {O:Nat->Value} {ds:List Deferred} {v:Value}
theorem fL{Φ:List R3}(p:Lx Φ k v h):ds=ds/\GH.Le h h/\∃w,putS O (some d) v=putS O (some d) w/\Lx Φ k w h:=⟨rfl,GH.Le.refl _,_,rfl,p⟩
theorem K1{R:GH->GH->Prop}{Φ:List R3}{a:Value}(x:Fw R Φ):Fw R (lF a ::Φ):=⟨λ_ _ _ _ y=>y,x⟩
theorem K2{R:GH->GH->Prop}{Φ:List R3}{a b:Value}(x:Fw R Φ):Fw R (lF a ::lF b ::Φ):=K1 (K1 x)
theorem K4{R:GH->GH->Prop}{Φ:List R3}{a b c d:Value}(x:Fw R Φ):Fw R (lF a ::lF b ::lF c ::lF d ::Φ):=K2 (K2 x)
theorem K8{R:GH->GH->Prop}{Φ:List R3}{a b c d a' b' c' d':Value}(x:Fw R Φ):Fw R (lF a ::lF b ::lF c ::lF d ::lF a' ::lF b' ::lF c' ::lF d' ::Φ):=K4 (K4 x)
end
end Go.Ns
namespace Go.Ns
open Go.Conc
section
variable {P:Program} {E:GE P} {O:Nat->Value} {ds:List Deferred} {h:GH} {Q:Post} {T:(Nat->Value)->List Deferred->GH->Prop}
variable {dst:Option Nat} {ty:TypeId} {pos:String} {af:Array Edge} {ops:Array Oper} {o:Oper} {l:List Oper} {gd:Option (Nat×Bool)}
theorem Mz{x:Operand}(v:Value)(e:(Cx dst E.N,AN O x)=(true,v))(k:DN E ops l (putS O dst v) ds h Q):DN E ops (⟨dst,.move x,ty,pos,af,none⟩ ::l) O ds h Q:=Mv v (congrArg Prod.fst e) (congrArg Prod.snd e) k
theorem Az{x:Operand}(v:Value)(e:(Cx dst E.N,AN O x)=(true,v))(k:DN E ops l (putS O dst v) ds h Q):DN E ops (⟨dst,.assign x,ty,pos,af,none⟩ ::l) O ds h Q:=As v (congrArg Prod.fst e) (congrArg Prod.snd e) k
theorem Lz{t:TypeId}{x:Operand}{b off:Nat}(v:Value)(e:(Cx dst E.N,AN O x)=(true,.pointer (some ⟨b,off,none⟩)))(hr:Rd P h t b off v)(k:DN E ops l (putS O dst v) ds h Q):DN E ops (⟨dst,.load t x,ty,pos,af,none⟩ ::l) O ds h Q:=
 Ld v (congrArg Prod.fst e) (congrArg Prod.snd e) hr k
theorem Fz{s:TypeId}{x:Operand}{f o b off:Nat}(hf:Ds P s f=some o)(e:(Cx dst E.N,AN O x)=(true,.pointer (some ⟨b,off,none⟩)))(k:DN E ops l (putS O dst (.pointer (some ⟨b,off+o,none⟩))) ds h Q) :
  DN E ops (⟨dst,.fieldAddr s x f,ty,pos,af,none⟩ ::l) O ds h Q:=Fa hf (congrArg Prod.fst e) (congrArg Prod.snd e) k
theorem Pz{c a b:Operand}(t:Bool)(v:Value)(e:(Cx dst E.N,AN O c,(if t then AN O a else AN O b))=(true,.bool t,v))(k:DN E ops l (putS O dst v) ds h Q):DN E ops (⟨dst,.pick c a b,ty,pos,af,none⟩ ::l) O ds h Q:=
 Pk t v (congrArg Prod.fst e) (congrArg (λq=>q.2.1) e) (congrArg (λq=>q.2.2) e) k
theorem Yd{xt yt:TypeId}{x y:Operand}{a b:Int}(e:(Cx dst E.N,AN O x,AN O y)=(true,.int .i64 a,.int .i64 b))(hr: -9223372036854775808<=a+b/\a+b<=9223372036854775807)(k:DN E ops l (putS O dst (.int .i64 (a+b))) ds h Q) :
  DN E ops (⟨dst,.binOp .add xt x y yt,ty,pos,af,none⟩ ::l) O ds h Q:=Ad a b (congrArg Prod.fst e) (congrArg (λq=>q.2.1) e) (congrArg (λq=>q.2.2) e) hr k
theorem Mo{x:Operand}(v:Value)(hx:AN O x=v)(k:T (putS O dst v) ds h):BU E ⟨dst,.move x,ty,pos,af,gd⟩ O ds h T:=Td hx k
theorem Lo{t:TypeId}{x:Operand}{b off:Nat}(v:Value)(hx:AN O x=.pointer (some ⟨b,off,none⟩))(hr:Rd P h t b off v)(k:T (putS O dst v) ds h):BU E ⟨dst,.load t x,ty,pos,af,gd⟩ O ds h T:=CU hx hr k
theorem Ex{x:Operand}{n:Nat}{vs:Array Value}(v:Value)(e:(AN O x,vs[n]?)=(.tuple vs,some v))(k:T (putS O dst v) ds h):BU E ⟨dst,.extract x n,ty,pos,af,gd⟩ O ds h T:=WQ (congrArg Prod.fst e) (congrArg Prod.snd e) k
theorem Bo{t:TypeId}{x:Operand}{v:Value}(c:Array Value)(hx:AN O x=v)(hc:v.cells=c)
  (k:∀r h',h r=none->h.Le h'->h' r=some (true,.cells c t (0,0))->(∀b,b≠r->h' b=h b)->T (putS O dst (.pointer (some ⟨r,0,none⟩))) ds h'):BU E ⟨dst,.box t x,ty,pos,af,gd⟩ O ds h T:=Te hx hc k
theorem So{t:TypeId}{a x:Operand}{b off n:Nat}{g:Bool}{c:Array Value}{et:TypeId}(v:Value)(c':Array Value)(ht:CZ P t=some (g,n))(e:(AN O a,AN O x)=(.pointer (some ⟨b,off,none⟩),v))(hb:h b=some (true,.cells c et (0,0)))
  (e2:(v.cells.size,Value.fine v)=(n,true)) (hn:off+n<=c.size) (hc:Bq c off v.cells.toList=c') (k:∀h',h' b=some (true,.cells c' et (0,0))->(∀x,x≠b->h' x=h x)->T (putS O dst undef) ds h') :
  BU E ⟨dst,.store t a x,ty,pos,af,gd⟩ O ds h T:=Ac ht (congrArg Prod.fst e) (congrArg Prod.snd e) hb (congrArg Prod.fst e2) (congrArg Prod.snd e2) hn hc k
theorem Ot{fn:Func}{R:Value->GH->Prop}{t:Tmp}(v:Value)(e:(fn.results,O t)=(#[.tmp t],v))(x:R v h):GM P fn O R [] h:=Jl (congrArg Prod.fst e) (congrArg Prod.snd e) x
theorem Ou{fn:Func}{R:Value->GH->Prop}{t u:Tmp}(v v':Value)(e:(fn.results,O t,O u)=(#[.tmp t,.tmp u],v,v'))(x:R (.tuple #[v,v']) h):GM P fn O R [] h:=outs2 (congrArg Prod.fst e) (congrArg (λq=>q.2.1) e) (congrArg (λq=>q.2.2) e) x
theorem Sr{id:Nat}{y:Code}(a:DN E l.toArray l O ds h (λe σ' ds' h'=>match e with | .normal=>Tr E y σ' ds' h' Q | e=>Q e σ' ds' h')):Tr E (.seq (.region id l.toArray false) y) O ds h Q:=Sq (Rg a)
theorem S2{id:Nat}{y z:Code}(a:DN E l.toArray l O ds h (λe σ' ds' h'=>match e with | .normal=>Tr E y σ' ds' h' (λe σ' ds' h'=>match e with | .normal=>Tr E z σ' ds' h' Q | e=>Q e σ' ds' h') | e=>(λe σ' ds' h'=>match e with | .normal=>Tr E z σ' ds' h' Q | e=>Q e σ' ds' h') e σ' ds' h')) :
  Tr E (.seq (.seq (.region id l.toArray false) y) z) O ds h Q:=Sq (Sq (Rg a))
theorem Zr{V:Type}{a b:V}:a=b\/a=a:=.inr rfl
theorem M2{x x':Operand}{dst':Option Nat}{ty':TypeId}{pos':String}{af':Array Edge}(v v':Value)(e:(Cx dst E.N,AN O x,Cx dst' E.N,AN (putS O dst v) x')=(true,v,true,v'))(k:DN E ops l (putS (putS O dst v) dst' v') ds h Q):DN E ops (⟨dst,.move x,ty,pos,af,none⟩ ::⟨dst',.move x',ty',pos',af',none⟩ ::l) O ds h Q:=
 Mv v (congrArg Prod.fst e) (congrArg (λq=>q.2.1) e) (Mv v' (congrArg (λq=>q.2.2.1) e) (congrArg (λq=>q.2.2.2) e) k)
theorem A2{x x':Operand}{dst':Option Nat}{ty':TypeId}{pos':String}{af':Array Edge}(v v':Value)(e:(Cx dst E.N,AN O x,Cx dst' E.N,AN (putS O dst v) x')=(true,v,true,v'))(k:DN E ops l (putS (putS O dst v) dst' v') ds h Q):DN E ops (⟨dst,.assign x,ty,pos,af,none⟩ ::⟨dst',.assign x',ty',pos',af',none⟩ ::l) O ds h Q:=
 As v (congrArg Prod.fst e) (congrArg (λq=>q.2.1) e) (As v' (congrArg (λq=>q.2.2.1) e) (congrArg (λq=>q.2.2.2) e) k)
theorem Ct{W:Wk P}{f:FuncId}{fn:Func}{c:Code}{args:Array Value}{R:Value->GH->Prop}(hf:P.funcs[f]? =some fn)(e:(fn.body,Nat.ble args.size fn.ntmps)=(some c,true))
  (x:Tr ⟨W,f,none,fn.ntmps⟩ c (λi=>args.getD i undef) [] h (λe O ds h'=>(e=.normal\/e=.ret)/\GM P fn O R ds h')):AV W f args h R:=WO hf (congrArg Prod.fst e) (Nat.le_of_ble_eq_true (congrArg Prod.snd e)) x
end
section
variable {P:Program} {E:GE P} {l:List Oper} {n:Nat} {fl:Bool} {hs:GH} {ds:List Deferred} {Lw:Nat->Value->GH->Prop} {F:(Nat->Value)->GH->Prop} {π:List Nat} {O:Nat->Value} {h:GH} {m k g d:Nat} {dst:Option Nat} {op:Op} {ty:TypeId} {pos:String} {af:Array Edge} {v:Value} {w is:Bool} {og:Oper}
theorem Rz(e:(Kv m,l[k]?)=((.r,k),some ⟨dst,op,ty,pos,af,none⟩))(x:Tk E ⟨dst,op,ty,pos,af,none⟩ O ds h v)(y:TD E l n fl hs ds Lw F (dK π) (putS O dst v) h):TD E l n fl hs ds Lw F (dK (m ::π)) O h:=tR (congrArg Prod.fst e) (congrArg Prod.snd e) x y
theorem Rm{x:Operand}(v:Value)(e:(Kv m,l[k]?,AN O x)=((.r,k),some ⟨dst,.move x,ty,pos,af,none⟩,v))(y:TD E l n fl hs ds Lw F (dK π) (putS O dst v) h):TD E l n fl hs ds Lw F (dK (m ::π)) O h:=
 tR (congrArg Prod.fst e) (congrArg (λq=>q.2.1) e) (Td (congrArg (λq=>q.2.2) e) vz) y
theorem Rl{t:TypeId}{x:Operand}{b off:Nat}(v:Value)(e:(Kv m,l[k]?,AN O x)=((.r,k),some ⟨dst,.load t x,ty,pos,af,none⟩,.pointer (some ⟨b,off,none⟩)))(hr:Rd P h t b off v)(y:TD E l n fl hs ds Lw F (dK π) (putS O dst v) h):TD E l n fl hs ds Lw F (dK (m ::π)) O h:=
 tR (congrArg Prod.fst e) (congrArg (λq=>q.2.1) e) (CU (congrArg (λq=>q.2.2) e) hr vz) y
theorem Py(e:(Kv m,l[k]?)=((.p,k),some ⟨dst,op,ty,pos,af,none⟩))(x:∀hx,Tk E ⟨dst,op,ty,pos,af,none⟩ O ds hx v)(y:TD E l n fl hs ds Lw F (dK π) (putS O dst v) h):TD E l n fl hs ds Lw F (dK (m ::π)) O h:=tP (congrArg Prod.fst e) (congrArg Prod.snd e) x y
theorem Ry(e:(Kv m,l[k]?,l[g]?,og.dst)=((.r,k),some ⟨dst,op,ty,pos,af,some (g,w)⟩,some og,some d))(h3:O d=.bool w)(x:Tk E ⟨dst,op,ty,pos,af,some (g,w)⟩ O ds h v)
  (y:TD E l n fl hs ds Lw F (dK π) (putS O dst v) h):TD E l n fl hs ds Lw F (dK (m ::π)) O h:=tRg (congrArg Prod.fst e) (congrArg (λq=>q.2.1) e) (congrArg (λq=>q.2.2.1) e) (congrArg (λq=>q.2.2.2) e) h3 x y
theorem Sz{kd:Kd}(e:(Kv m,l[k]?,l[g]?,og.dst)=((kd,k),some ⟨dst,op,ty,pos,af,some (g,w)⟩,some og,some d))(h3:O d=.bool is)(hne:(is==w)=false)
  (y:TD E l n fl hs ds Lw F (dK π) (putS O dst undef) h) (hl:(kd !=Kd.l)=true:=by rfl):TD E l n fl hs ds Lw F (dK (m ::π)) O h:=tS (congrArg Prod.fst e) (congrArg (λq=>q.2.1) e) (congrArg (λq=>q.2.2.1) e) (congrArg (λq=>q.2.2.2) e) h3 hne y hl
end
end Go.Ns
namespace Go.Ns
open Go.Conc
structure FL(h:GH)(ps:List ByteArray)(psv:Value)(ws:List AB)(wsv:Value)(js:List AK)(jsv:Value)(ns:List AE)(nsv:Value):Prop where
 a:AL h psv 1 Ec ps
 b:AL h wsv 4 Cr ws
 c:AL h jsv 5 Co js
 d:Bm h js
 e:AL h nsv 3 B6 ns
 f:Ao h ns
theorem FL.le{h h':GH}{ps:List ByteArray}{psv:Value}{ws:List AB}{wsv:Value}{js:List AK}{jsv:Value}{ns:List AE}{nsv:Value}(x:FL h ps psv ws wsv js jsv ns nsv)(l:h.Le h'):FL h' ps psv ws wsv js jsv ns nsv:=⟨x.1.le l,x.2.le l,x.3.le l,x.4.le l,x.5.le l,x.6.le l⟩
abbrev J(x:Int):Value:=.int .i64 x
abbrev Pt(b:Nat):Value:=.pointer (some ⟨b,0,none⟩)
abbrev Sc(b:Nat)(n c:Nat):Value:=.slice (some ⟨b,0,none⟩) n c
abbrev Q0:Array Value:=#[J 0,J 0,.slice none 0 0,.slice none 0 0,.slice none 0 0,.slice none 0 0,.slice none 0 0,.map none]
abbrev Q1(a:List AB)(b:List AK)(c:List AE)(d:Nat):Array Value:=#[J (((AA a b c).getD (((d:Int)-1).toNat) AC.zero).ways 0),J (((AA a b c).getD (((d:Int)-1).toNat) AC.zero).ways 1),J (((AA a b c).getD (((d:Int)-1).toNat) AC.zero).ways 2),J (((AA a b c).getD (((d:Int)-1).toNat) AC.zero).ways 3),J (((AA a b c).getD (((d:Int)-1).toNat) AC.zero).ways 4)]
abbrev Q2(a:List AB)(b:List AK)(c:List AE)(d:Nat):Array Value:=#[J (((AA a b c).getD d AC.zero).ways 0),J (((AA a b c).getD d AC.zero).ways 1),J (((AA a b c).getD d AC.zero).ways 2),J (((AA a b c).getD d AC.zero).ways 3),J (((AA a b c).getD d AC.zero).ways 4)]
abbrev Q3(a:List AB)(b:Nat):Array Value:=#[J ((a.getD b AB.z).a),J ((a.getD b AB.z).b),J ((a.getD b AB.z).low),J ((a.getD b AB.z).high)]
abbrev Q4(a:ByteArray)(b:Nat):=decide (¬(((97<=((bytesOf a).getD b 0))/\(((bytesOf a).getD b 0)<=122))\/(((0<(b:Int))/\(48<=((bytesOf a).getD b 0)))/\(((bytesOf a).getD b 0)<=57))))
abbrev Q5:Value:=.slice none 0 0
abbrev Q6(a:List AE)(b:Nat):Array Value:=#[(a.getD b AE.z).wv,J ((a.getD b AE.z).low),J ((a.getD b AE.z).high)]
abbrev Q7(a:List AK)(b:Nat):=decide ((¬(((0<=((a.getD b AK.z).low)/\((a.getD b AK.z).low)<=((a.getD b AK.z).high))/\((a.getD b AK.z).high)<=30)/\((a.getD b AK.z).high)-((a.getD b AK.z).low)<2))\/(¬(0<=((a.getD b AK.z).due)/\((a.getD b AK.z).due)<=200)))
abbrev Q8(a:ByteArray)(b:Nat):=(bytesOf a).getD b 0
abbrev Q9(a:List AB)(b:Nat):=(a.getD b AB.z).b
abbrev Qa(a:List AK)(b:Nat):Array Value:=#[J ((a.getD b AK.z).place),J ((a.getD b AK.z).low),J ((a.getD b AK.z).high),J ((a.getD b AK.z).due),(a.getD b AK.z).pv]
abbrev Qb(a:List AC)(b:Nat):=(a.drop (1)).getD b AC.zero
abbrev Qc(a:List AB)(b:Nat):=(a.getD b AB.z).a
abbrev Qd(a:List ByteArray)(b:List AB)(c:List AK)(d:List AE):=decide ((((20<(a.length:Int))\/(20<(b.length:Int)))\/(20<(c.length:Int)))\/(20<(d.length:Int)))
abbrev Qe(a:Int)(b:Int):=decide ((¬(0<=a/\a<=9))\/(¬(0<=b/\b<=3)))
abbrev Qf(a:List AB)(b:List AK)(c:List AE)(d:Nat):Value:=.agg (Ab ((AA a b c).getD d AC.zero))
abbrev Qg(a:Int)(b:Int):Value:=.bool (decide (a<=b))
abbrev Qh(a:Int)(b:Int)(c:Int)(d:Int):=decide ((((0<=a)/\(a<=b))/\(b<=c))/\((b-a)<d))
abbrev Qi(a:List ByteArray)(b:List AB)(c:Nat):=J (Br a.length [(b.getD c AB.z).a,(b.getD c AB.z).b])
abbrev Qj(a:List AC):=a.getD 0 AC.zero
abbrev Qk(a:List AK)(b:List Int):=AU a.length b
abbrev Ql(a:List Int)(b:Nat):=J (a.getD b 0)
abbrev Qm(a:List ByteArray)(b:Int)(c:Int):=Br a.length [b,c]
abbrev Qn(a:List AE)(b:Nat):Array Value:=#[J ((a.getD b AE.z).low),J ((a.getD b AE.z).high)]
abbrev Qo(a:List AK)(b:Int):=E9 a.length b
abbrev Qp(a:List AB)(b:Nat):Array Value:=#[J ((a.getD b AB.z).low),J ((a.getD b AB.z).high)]
abbrev Qq(a:List AK)(b:Nat):Array Value:=#[J ((a.getD b AK.z).low),J ((a.getD b AK.z).high)]
abbrev Qr(a:List AE)(b:Nat)(c:Nat):=((a.getD b AE.z).ways).getD c 0
abbrev Qs(a:Int)(b:Int):=decide (((0<=a/\a<=b)/\b<=30)/\((b-a)<2))
abbrev Qt(a:Int)(b:Int)(c:Int):=decide ((a<=b)/\(b<=c))
abbrev Qu(a:Int)(b:Int)(c:Int)(d:Int):=decide (((a<=b)/\(b<=c))/\(c<=d))
abbrev Qv(a:Nat)(b:Nat)(c:Array Int):=decide (((a:Int)<(b:Int))/\((c[b]!)<(c[((b:Int)-1).toNat]!)))
abbrev Qw(a:List AK)(b:Nat):=(a.getD b AK.z).due
abbrev Qx(a:List AE)(b:Nat):=(a.getD b AE.z).wv
abbrev Qy(a:ByteArray):=decide (((a.size:Int)<1)\/(10<(a.size:Int)))
abbrev Qz(a:List AK)(b:Nat):=(a.getD b AK.z).high
abbrev Q10(a:Int):=decide ((97<=a)/\(a<=122))
abbrev Vu(a:Int)(b:Int)(c:Value)(d:Value)(e:Value)(f:Value):Array Value:=#[.agg #[J a,J b,c,d,e,f]]
abbrev Q12(a:Int):=decide (¬(0<=a/\a<=3))
abbrev Q13(a:List Int)(b:Nat)(c:List Int):=J (H9 (a.getD b 0) (c.getD b 0))
abbrev Q14(a:List Sl)(b:Nat):=((a.drop (1)).getD b Sl.z).1
abbrev Q15(a:Int):=decide ((48<=a)/\(a<=57))
abbrev Q16(a:Nat):Value:=.func (.func 95) #[] #[Pt a]
abbrev Q17(a:Nat):Value:=.func (.func 69) #[] #[Pt a]
abbrev Q18(a:List AK)(b:Nat):=(a.getD b AK.z).low
abbrev Q19:=Ab AC.zero
abbrev Q1a(a:Nat)(b:Nat):Value:=.func (.func 81) #[] #[Pt a,Pt b]
abbrev Q1b(a:List AK)(b:List Int)(c:Nat):=J (E9 a.length (b.getD c 0))
end Go.Ns
namespace Go.Ns
open Go.Conc Go.Proofs Go.Proofs.Tryz
theorem Ri:Ie prog 101 101=some (126,9,72):=aB
theorem Vv:Ie prog 22 22=some (9,1,16):=aB
theorem OF:Ie prog 23 23=some (79,4,32):=aB
theorem OG:Ie prog 24 24=some (57,5,56):=aB
theorem IK:Ie prog 25 25=some (82,3,40):=aB
theorem CJ:Ie prog 32 32=some (3,1,8):=aB
theorem Vw:Ie prog 45 45=some (49,2,16):=aB
theorem Fm:Ie prog 97 97=some (32,1,24):=aB
theorem AAK:arrOf prog 142=some (5,false,1):=aB
theorem Hl:Nh prog 123=some (5,1):=aB
theorem Dq:Nh prog 124=some (4,1):=aB
theorem ER:Nh prog 138=some (4,1):=aB
theorem FC:Nh prog 166=some (4,4):=aB
theorem fx_bt3:MF prog 3=some 8:=aB
theorem fx_bt4:MF prog 4=some 1:=aB
theorem AAL:AM Tryz.f10=true:=aB
theorem XL:AM Tryz.f100=true:=aB
theorem XM:AM Tryz.f101=true:=aB
theorem XN:AM Tryz.f102=true:=aB
theorem XO:AM Tryz.f103=true:=aB
theorem QT:AM Tryz.f104=true:=aB
theorem QU:AM Tryz.f105=true:=aB
theorem QV:AM Tryz.f106=true:=aB
theorem QW:AM Tryz.f107=true:=aB
theorem QX:AM Tryz.f108=true:=aB
theorem XP:AM Tryz.f109=true:=aB
theorem XQ:AM Tryz.f110=true:=aB
theorem LY:AM Tryz.f111=true:=aB
theorem QY:AM Tryz.f112=true:=aB
theorem XR:AM Tryz.f113=true:=aB
theorem XS:AM Tryz.f114=true:=aB
theorem QZ:AM Tryz.f115=true:=aB
theorem XT:AM Tryz.f116=true:=aB
theorem JR:AM Tryz.f117=true:=aB
theorem RA:AM Tryz.f118=true:=aB
theorem LZ:AM Tryz.f119=true:=aB
theorem XU:AM Tryz.f120=true:=aB
theorem RB:AM Tryz.f121=true:=aB
theorem XV:AM Tryz.f127=true:=aB
theorem NF:AM Tryz.f13=true:=aB
theorem XW:AM Tryz.f131=true:=aB
theorem XX:AM Tryz.f132=true:=aB
theorem XY:AM Tryz.f133=true:=aB
theorem XZ:AM Tryz.f134=true:=aB
theorem Xa:AM Tryz.f135=true:=aB
theorem Xb:AM Tryz.f136=true:=aB
theorem NG:AM Tryz.f14=true:=aB
theorem NH:AM Tryz.f15=true:=aB
theorem Xc:AM Tryz.f159=true:=aB
theorem AAM:AM Tryz.f16=true:=aB
theorem Xd:AM Tryz.f160=true:=aB
theorem Xe:AM Tryz.f161=true:=aB
theorem Xf:AM Tryz.f162=true:=aB
theorem Xg:AM Tryz.f163=true:=aB
theorem Xh:AM Tryz.f164=true:=aB
theorem Xi:AM Tryz.f165=true:=aB
theorem Xj:AM Tryz.f166=true:=aB
theorem Xk:AM Tryz.f167=true:=aB
theorem La:AM Tryz.f168=true:=aB
theorem Xl:AM Tryz.f169=true:=aB
theorem NI:AM Tryz.f17=true:=aB
theorem RC:AM Tryz.f170=true:=aB
theorem Xm:AM Tryz.f171=true:=aB
theorem Xn:AM Tryz.f172=true:=aB
theorem Xo:AM Tryz.f173=true:=aB
theorem Xp:AM Tryz.f174=true:=aB
theorem Xq:AM Tryz.f175=true:=aB
theorem Xr:AM Tryz.f176=true:=aB
theorem Xs:AM Tryz.f177=true:=aB
theorem Gc:AM Tryz.f18=true:=aB
theorem AAN:AM Tryz.f21=true:=aB
theorem AAO:AM Tryz.f22=true:=aB
theorem NJ:AM Tryz.f24=true:=aB
theorem NK:AM Tryz.f26=true:=aB
theorem AAP:AM Tryz.f27=true:=aB
theorem Fo:AM Tryz.f30=true:=aB
theorem AAQ:AM Tryz.f31=true:=aB
theorem AAR:AM Tryz.f32=true:=aB
theorem NL:AM Tryz.f35=true:=aB
theorem Kg:AM Tryz.f36=true:=aB
theorem S4:AM Tryz.f37=true:=aB
theorem AAS:AM Tryz.f38=true:=aB
theorem AAT:AM Tryz.f39=true:=aB
theorem AAU:AM Tryz.f40=true:=aB
theorem AAV:AM Tryz.f41=true:=aB
theorem AAW:AM Tryz.f42=true:=aB
theorem AAX:AM Tryz.f43=true:=aB
theorem AAY:AM Tryz.f44=true:=aB
theorem FD:AM Tryz.f45=true:=aB
theorem In:AM Tryz.f46=true:=aB
theorem S5:AM Tryz.f49=true:=aB
theorem AAZ:AM Tryz.f50=true:=aB
theorem Hm:AM Tryz.f52=true:=aB
theorem Io:AM Tryz.f53=true:=aB
theorem AAa:AM Tryz.f54=true:=aB
theorem AAb:AM Tryz.f55=true:=aB
theorem Fp:AM Tryz.f56=true:=aB
theorem NM:AM Tryz.f57=true:=aB
theorem Kh:AM Tryz.f58=true:=aB
theorem DH:AM Tryz.f59=true:=aB
theorem Ge:AM Tryz.f60=true:=aB
theorem S6:AM Tryz.f61=true:=aB
theorem S7:AM Tryz.f62=true:=aB
theorem S8:AM Tryz.f63=true:=aB
theorem S9:AM Tryz.f66=true:=aB
theorem NN:AM Tryz.f67=true:=aB
theorem EA:AM Tryz.f68=true:=aB
theorem TA:AM Tryz.f69=true:=aB
theorem fx_call7:AM Tryz.f7=true:=aB
theorem TB:AM Tryz.f70=true:=aB
theorem TC:AM Tryz.f71=true:=aB
theorem AAc:AM Tryz.f72=true:=aB
theorem TE:AM Tryz.f75=true:=aB
theorem TF:AM Tryz.f76=true:=aB
theorem TG:AM Tryz.f77=true:=aB
theorem Ip:AM Tryz.f79=true:=aB
theorem Vx:AM Tryz.f8=true:=aB
theorem TH:AM Tryz.f80=true:=aB
theorem TJ:AM Tryz.f81=true:=aB
theorem NO:AM Tryz.f82=true:=aB
theorem NP:AM Tryz.f83=true:=aB
theorem AAd:AM Tryz.f84=true:=aB
theorem AAe:AM Tryz.f85=true:=aB
theorem AAf:AM Tryz.f86=true:=aB
theorem AAg:AM Tryz.f87=true:=aB
theorem AAh:AM Tryz.f88=true:=aB
theorem TK:AM Tryz.f89=true:=aB
theorem TL:AM Tryz.f90=true:=aB
theorem AAi:AM Tryz.f91=true:=aB
theorem AAj:AM Tryz.f92=true:=aB
theorem AAk:AM Tryz.f93=true:=aB
theorem AAl:AM Tryz.f94=true:=aB
theorem TM:AM Tryz.f95=true:=aB
theorem AAm:AM Tryz.f96=true:=aB
theorem TN:AM Tryz.f97=true:=aB
theorem AAn:AM Tryz.f98=true:=aB
theorem Ki:AM Tryz.f99=true:=aB
theorem TO:prog.eqGuardType prog.depth 123=false:=aB
theorem H5:prog.eqGuardType prog.depth 49=false:=aB
theorem FE:Ef prog 101=some 9:=aB
theorem NQ:Ef prog 153=some 1:=aB
theorem AAo:Ef prog 214=some 1:=aB
theorem G2:Ef prog 22=some 1:=aB
theorem Er:Ef prog 23=some 4:=aB
theorem Es:Ef prog 24=some 5:=aB
theorem GB:Ef prog 25=some 3:=aB
theorem A7:Ef prog 32=some 1:=aB
theorem Vy:Ef prog 45=some 2:=aB
theorem Eu:Ef prog 97=some 1:=aB
theorem Kj:∀a:E8,ckP prog 4 135 (El a)=true:=by intros;kernel_rfl
theorem Kk:∀a b:E8,O5 prog 4 135 (El a) (El b)=some ((a.1.1==b.1.1 && (a.1.2.1==b.1.2.1 && (a.1.2.2.1==b.1.2.2.1 && (a.1.2.2.2.1==b.1.2.2.2.1 && (a.1.2.2.2.2==b.1.2.2.2.2 && true))))) && (a.2.1==b.2.1 && (a.2.2==b.2.2 && true))):=by intros;kernel_rfl
theorem Al:Ds prog 103 0=some 0:=aB
theorem Dc:Ds prog 109 0=some 0:=aB
theorem G3:Ds prog 109 1=some 6:=aB
theorem IL:Ds prog 109 2=some 7:=aB
theorem Ch:Ds prog 126 0=some 0:=aB
theorem KD:Ds prog 126 1=some 5:=aB
theorem Vz:Ds prog 152 0=some 0:=aB
theorem V0:Ds prog 152 1=some 1:=aB
theorem Lb:Ds prog 27 0=some 0:=aB
theorem H6:Ds prog 27 1=some 1:=aB
theorem B1:Ds prog 27 2=some 2:=aB
theorem BQ:Ds prog 27 3=some 3:=aB
theorem BR:Ds prog 27 4=some 4:=aB
theorem BX:Ds prog 27 5=some 5:=aB
theorem D1:Ds prog 49 0=some 0:=aB
theorem DV:Ds prog 49 1=some 1:=aB
theorem JS:Ds prog 57 0=some 0:=aB
theorem Lc:Ds prog 57 1=some 1:=aB
theorem JT:Ds prog 57 2=some 3:=aB
theorem EJ:Ds prog 57 3=some 4:=aB
theorem CL:Ds prog 79 0=some 0:=aB
theorem CS:Ds prog 79 1=some 1:=aB
theorem Lf:Ds prog 79 2=some 2:=aB
theorem D2:Ds prog 82 0=some 0:=aB
theorem H7:Ds prog 82 1=some 1:=aB
theorem Xu:(prog.info? 152).isSome=true:=aB
theorem fx_infs3:(prog.info? 3).isSome=true:=aB
theorem fx_infs4:(prog.info? 4).isSome=true:=aB
theorem Xv:(prog.info? 152).map (·.zero)=some (some (.agg #[.int .i64 0,.bool false])):=aB
theorem fx_infz3:(prog.info? 3).map (·.zero)=some (some (.int .i64 0)):=aB
theorem fx_infz4:(prog.info? 4).map (·.zero)=some (some (.bool false)):=aB
theorem RD:Oz prog 156=some .u64:=aB
theorem Ev:Oz prog 3=some .i64:=aB
theorem G4:Oz prog 5=some .u8:=aB
theorem Km:Ly prog 107=some (135,3):=aB
theorem NR:Ly prog 139=some (3,3):=aB
theorem NS:∀a:Int,ckP prog 3 3 (Dk a)=true:=by intros;kernel_rfl
theorem NT:∀a b:Int,O5 prog 3 3 (Dk a) (Dk b)=some (a==b):=by intros;kernel_rfl
theorem A4:prog.follows .mixedOrders=true:=aB
theorem RE:(prog.info? 3).bind (·.zero)=some (.int .i64 0):=aB
theorem V1:(prog.info? 3).bind (·.zero)=some (.int .i64 0):=aB
theorem G5:Eg prog 103=some [(0,6)]:=aB
theorem G6:Eg prog 109=some [(0,6),(6,1),(7,1)]:=aB
theorem MX:Eg prog 135=some [(0,5),(5,1),(6,1)]:=aB
theorem fx_pl152:Eg prog 152=some [(0,1),(1,1)]:=aB
theorem fx_pl27:Eg prog 27=some [(0,1),(1,1),(2,1),(3,1),(4,1),(5,1)]:=aB
theorem JU:Eg prog 49=some [(0,1),(1,1)]:=aB
theorem UO:Eg prog 57=some [(0,1),(1,2),(3,1),(4,1)]:=aB
theorem UP:Eg prog 79=some [(0,1),(1,1),(2,2)]:=aB
theorem Ok:Eg prog 82=some [(0,1),(1,2)]:=aB
theorem V2:s2bOf prog 9 214=some 5:=aB
theorem AAp:DP prog 101=some (9,#[.int .i64 0,.int .i64 0,.int .i64 0,.int .i64 0,.int .i64 0,.int .i64 0,.int .i64 0,.int .i64 0,.int .i64 0],126):=aB
theorem AAq:DP prog 153=some (1,#[.bool false],4):=aB
theorem V3:DP prog 22=some (1,#[.string ⟨#[]⟩],9):=aB
theorem RF:DP prog 23=some (4,#[.int .i64 0,.int .i64 0,.int .i64 0,.int .i64 0],79):=aB
theorem RG:DP prog 24=some (5,#[.int .i64 0,.int .i64 0,.int .i64 0,.int .i64 0,.slice none 0 0],57):=aB
theorem KE:DP prog 25=some (3,#[.slice none 0 0,.int .i64 0,.int .i64 0],82):=aB
theorem BN:DP prog 32=some (1,#[.int .i64 0],3):=aB
theorem V4:DP prog 45=some (2,#[.int .i64 0,.int .i64 0],49):=aB
theorem Iq:DP prog 97=some (1,#[.slice none 0 0],32):=aB
theorem Ew:Jj prog 101=true:=aB
theorem fx_sl153:Jj prog 153=true:=aB
theorem fx_sl214:Jj prog 214=true:=aB
theorem DK:Jj prog 22=true:=aB
theorem Dw:Jj prog 23=true:=aB
theorem Eb:Jj prog 24=true:=aB
theorem FF:Jj prog 25=true:=aB
theorem A8:Jj prog 32=true:=aB
theorem UQ:Jj prog 45=true:=aB
theorem Gn:Jj prog 97=true:=aB
theorem EK:Oy prog 9=true:=aB
theorem G7:CZ prog 101=some (false,1):=aB
theorem B5:CZ prog 103=some (true,6):=aB
theorem MY:CZ prog 107=some (false,1):=aB
theorem Ak:CZ prog 109=some (true,8):=aB
theorem G8:CZ prog 123=some (true,5):=aB
theorem CT:CZ prog 126=some (true,9):=aB
theorem MZ:CZ prog 129=some (false,1):=aB
theorem fx_ty142:CZ prog 142=some (true,5):=aB
theorem Ma:CZ prog 148=some (false,1):=aB
theorem Mb:CZ prog 149=some (false,1):=aB
theorem RH:CZ prog 150=some (false,1):=aB
theorem fx_ty152:CZ prog 152=some (true,2):=aB
theorem fx_ty163:CZ prog 163=some (false,1):=aB
theorem KF:CZ prog 164=some (false,1):=aB
theorem DL:CZ prog 22=some (false,1):=aB
theorem CX:CZ prog 23=some (false,1):=aB
theorem CY:CZ prog 24=some (false,1):=aB
theorem Ci:CZ prog 25=some (false,1):=aB
theorem Ag:CZ prog 27=some (true,6):=aB
theorem AT:CZ prog 3=some (false,1):=aB
theorem Bf:CZ prog 32=some (false,1):=aB
theorem Gf:CZ prog 4=some (false,1):=aB
theorem A1:CZ prog 49=some (true,2):=aB
theorem fx_ty5:CZ prog 5=some (false,1):=aB
theorem Hd:CZ prog 57=some (true,5):=aB
theorem FZ:CZ prog 79=some (true,4):=aB
theorem Fb:CZ prog 82=some (true,3):=aB
theorem NU:CZ prog 9=some (false,1):=aB
theorem He:CZ prog 97=some (false,1):=aB
theorem Fq:(prog.underlying 180).isSome=true:=aB
theorem fx_und29:(prog.underlying 29).isSome=true:=aB
theorem Y8:(prog.underlying 3).isSome=true:=aB
theorem Gp:(prog.underlying 5).isSome=true:=aB
theorem KG:prog.underlying 148=some (.chan .both 152):=aB
theorem KH:prog.underlying 149=some (.chan .both 3):=aB
theorem KI:prog.underlying 150=some (.chan .both 4):=aB
theorem Xw:Bt prog 101=some #[.slice none 0 0]:=aB
theorem DW:Bt prog 103=some #[.int .i64 0,.int .i64 0,.slice none 0 0,.slice none 0 0,.slice none 0 0,.slice none 0 0]:=aB
theorem A5:Bt prog 109=some #[.int .i64 0,.int .i64 0,.slice none 0 0,.slice none 0 0,.slice none 0 0,.slice none 0 0,.slice none 0 0,.map none]:=aB
theorem Fg:Bt prog 126=some #[.int .i64 0,.int .i64 0,.int .i64 0,.int .i64 0,.int .i64 0,.int .i64 0,.int .i64 0,.int .i64 0,.int .i64 0]:=aB
theorem Xx:Bt prog 129=some #[.nilFunc]:=aB
theorem JV:Bt prog 135=some #[.int .i64 0,.int .i64 0,.int .i64 0,.int .i64 0,.int .i64 0,.int .i64 0,.int .i64 0]:=aB
theorem RI:Bt prog 138=some #[.bool false,.bool false,.bool false,.bool false]:=aB
theorem Xy:Bt prog 148=some #[.chan none]:=aB
theorem Xz:Bt prog 149=some #[.chan none]:=aB
theorem X3:Bt prog 150=some #[.chan none]:=aB
theorem RJ:Bt prog 152=some #[.int .i64 0,.bool false]:=aB
theorem X4:Bt prog 164=some #[.nilFunc]:=aB
theorem X5:Bt prog 166=some #[.int .i64 0,.int .i64 0,.int .i64 0,.int .i64 0,.int .i64 0,.int .i64 0,.int .i64 0,.int .i64 0,.int .i64 0,.int .i64 0,.int .i64 0,.int .i64 0,.int .i64 0,.int .i64 0,.int .i64 0,.int .i64 0]:=aB
theorem Fs:Bt prog 27=some #[.int .i64 0,.int .i64 0,.slice none 0 0,.slice none 0 0,.slice none 0 0,.slice none 0 0]:=aB
theorem fx_zero3:Bt prog 3=some #[.int .i64 0]:=aB
theorem fx_zero32:Bt prog 32=some #[.slice none 0 0]:=aB
theorem fx_zero4:Bt prog 4=some #[.bool false]:=aB
theorem Bh:Bt prog 49=some #[.int .i64 0,.int .i64 0]:=aB
theorem Gh:Bt prog 57=some #[.int .i64 0,.int .i64 0,.int .i64 0,.int .i64 0,.slice none 0 0]:=aB
theorem Ft:Bt prog 79=some #[.int .i64 0,.int .i64 0,.int .i64 0,.int .i64 0]:=aB
theorem FG:Bt prog 82=some #[.slice none 0 0,.int .i64 0,.int .i64 0]:=aB
theorem fx_zero9:Bt prog 9=some #[.string ⟨#[]⟩]:=aB
theorem TP:Bt prog 97=some #[.slice none 0 0]:=aB
end Go.Ns
