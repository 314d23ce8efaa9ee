/- Rules and walks, part 3 of 6. No conditions. -/
import Derived.Carry
import Derived.Conc.LeavingOf
import Derived.LaidMore
import Derived.OpenShut
import Derived.ProofKit
import Derived.Test.YteobolclmgpkcaaGreatDoorPNB
import Derived.Test.YteobolclmgpkcaaGreatDoorProg
set_option linter.unusedVariables false
set_option linter.unusedSimpArgs false
set_option linter.unnecessarySimpa false
set_option linter.unusedSectionVars false
namespace Go.Ns
open Go.Conc
section
variable {P:Program} {E:Gr P} {O:Nat->Value} {ds:List Deferred} {h:GH} {T:(Nat->Value)->List Deferred->GH->Prop}
variable {dst:Option Nat} {ty:TypeId} {pos:String} {af:Array Edge} {gd:Option (Nat×Bool)}
def Mi(P:Program)(e:TypeId):Option Nat:=(P.info? e).map (·.bytes)
theorem UG(z:Value)(n:Nat):(Array.range n).map (λi=>(#[z]:Array Value)[i%(#[z]:Array Value).size]!)=Array.replicate n z:=by
 apply Array.ext
 ·simp
 ·intro i h1 h2;simp [Nat.mod_one]
theorem Mj{t:TypeId}{l c:Operand}{N by_:Nat}{z:Value}{e:TypeId}(hs:DZ P t=some (1,#[z],e))(hby:Mi P e=some by_)(hl:AQ O l=.int .i64 N)(hc:AQ O c=.int .i64 N)(hb:by_*N<=281474976710656)(hN2:N<=16777216)
  (k:∀r h',h r=none->h.Le h'->h' r=some (true,.cells (Array.replicate N z) e (0,0))->(∀b,b≠r->h' b=h b)->T (putS O dst (.slice (some ⟨r,0,none⟩) N N)) ds h'):BX E ⟨dst,.makeSlice t l c,ty,pos,af,gd⟩ O ds h T:=by
 unfold BX execOp;refine GP ?_;unfold DZ at hs;unfold Instr.makeSlice;rw [hl,hc];cases hu:P.underlying t with
 | none=>rw [hu] at hs;cases hs
 | some d=>
  rw [hu] at hs;cases d <;> first | (cases hs;done) | skip
  rename_i e'
  simp only at hs;cases ht:Co P e' with
  | none=>rw [ht] at hs;cases hs
  | some x=>
   cases hz:B5 P e' with
   | none=>rw [ht,hz] at hs;cases hs
   | some z'=>
    rw [ht,hz] at hs;simp only [Option.some.injEq,Prod.mk.injEq] at hs;obtain ⟨hx2,rfl,rfl⟩:=hs;refine AH _ _ (An hu ?_);refine AH _ _ (Ax ?_);refine AH _ _ (Ax ?_);unfold Mi at hby;unfold B5 at hz;cases hi:P.info? e' with
    | none=>rw [hi] at hz;cases hz
    | some i=>
    rw [hi] at hz hby;simp only [Option.map_some,Option.some.injEq] at hby;simp only [Option.map_eq_some_iff] at hz;obtain ⟨v,hv,hvz⟩:=hz;refine AH _ _ (Cw hi ?_);have hw:IntKind.i64.wrap (N:Int)=N:=IntWalk.i64_in _ aA;simp only [hw,hby];have hb':((by_:Int)*(N:Int))<=281474976710656:=by rw [<-Int.natCast_mul];exact Int.ofNat_le.2 hb
    rw [if_neg (by simp;omega)];simp only [Int.toNat_natCast];have hask:∀(m:Nat)(Q:Unit->GH->Prop),Q () h->(askRoom m).gh P h Q:=λm Q q=>by
     unfold askRoom;split
     ·exact ⟨rfl,q⟩
     ·exact q
    refine AH _ _ (hask _ _ ?_);refine AH _ _ (Gx (by rw [ht];rfl) ?_);dsimp only;rw [hx2,Nat.mul_one];by_cases hN:N=0
    ·subst hN;rw [if_pos rfl];refine AH _ _ (Ax ?_);rw [show (Array.range 0).map (λi=>(#[]:Array Value)[i%(#[]:Array Value).size]!)=Array.replicate 0 z from aD];refine AH _ _ ?_;unfold newRow;refine AH _ _ (λr hr=>?_);exact k r _ hr (GH.Le.new hr _ _) (GH.set_same _ _ _ _) λb hb=>GH.set_ne _ _ _ hb
    rw [if_neg hN];unfold zeroValue;refine AH _ _ (AH _ _ (AH _ _ (Cw hi ?_)));rw [hv];refine Ax ?_;refine AH _ _ (Ax ?_);rw [hvz,UG];refine AH _ _ ?_;unfold newRow;refine AH _ _ (λr hr=>?_);exact k r _ hr (GH.Le.new hr _ _) (GH.set_same _ _ _ _) λb hb=>GH.set_ne _ _ _ hb
theorem Kh{V:Type}{enc:V->Array Value}{x:V}{z:Value}(he:enc x=#[z]):∀N:Nat,Dq enc (List.replicate N x)=List.replicate N z
 | 0=>rfl
 | N+1=>by
  have:=Kh he N
  unfold Dq at this ⊢;rw [List.replicate_succ,List.flatMap_cons,this,he];rfl
theorem AM.made{V:Type}{h h':GH}{r N:Nat}{t:TypeId}{enc:V->Array Value}{x:V}{z:Value}(hr:h r=none)(hb:h' r=some (true,.cells (Array.replicate N z) t (0,0)))(hN:N<=16777216)(he:enc x=#[z]) :
  AM h h' (.slice (some ⟨r,0,none⟩) N N) t 1 enc (List.replicate N x):=
 .inr ⟨r,N,_,by rw [List.length_replicate],hr,hb,aD,aD,by rw [List.length_replicate];omega,by rw [Kh he,List.length_replicate,Nat.mul_one];simp,λy hy=>by rw [(List.mem_replicate.1 hy).2,he];rfl⟩
end
def Gc(nj:Nat)(k:Int):Int:=if¬(0<=k/\k<=(nj:Int)-1) then 6 else 0
def Il(nj:Nat)(l:List Int)(k:Nat):Int:=if¬Gc nj (l.getD k 0)=0 then Gc nj (l.getD k 0) else if (l.take k).any (λx=>decide (l.getD k 0=x))=true then 5 else 0
def Ai(nj:Nat)(l:List Int):Int:=C9 (Il nj l) 0 l.length
def Ge(bag kinds:Int)(ps:List ByteArray)(ws:List AA)(js:List AK)(ns:List AF)(l:List Int):Int:=
 if¬Aj bag kinds ps ws js ns=0 then Aj bag kinds ps ws js ns else Ai js.length l
theorem OP{nj:Nat}{k:Int}(h:Gc nj k=0):0<=k/\k<nj:=by
 unfold Gc at h;split at h
 ·cases h
 ·omega
theorem Fb{nj:Nat}{l:List Int}(h:Ai nj l=0)(k:Nat)(hk:k<l.length):0<=l.getD k 0/\l.getD k 0<nj:=by
 have h1:=De h k (Nat.zero_le _) aA;unfold Il at h1;split at h1
 ·rename_i a;exact absurd h1 a
 ·rename_i a;exact OP (Decidable.not_not.1 a)
def G7(out ps:List Int):Nat->List Int
 | 0=>out
 | i+1=>(G7 out ps i).set i ((G7 out ps i).getD i 0+ps.getD i 0)
def Cv(kinds:Int)(js:List AK)(l:List Int):Nat->List Int
 | 0=>List.replicate kinds.toNat 0
 | q+1=>G7 (Cv kinds js l q) (js.getD (l.getD q 0).toNat AK.z).parts (js.getD (l.getD q 0).toNat AK.z).parts.length
def DX(kinds:Int)(js:List AK)(l:List Int):List Int:=Cv kinds js l l.length
theorem Ml(out ps:List Int):∀i,(G7 out ps i).length=out.length
 | 0=>rfl
 | i+1=>by rw [G7,List.length_set,Ml out ps i]
theorem QD(out ps:List Int)(hl:ps.length=out.length):∀i,i<=ps.length->∀j,(G7 out ps i).getD j 0=if j<i then out.getD j 0+ps.getD j 0 else out.getD j 0
 | 0,_,j=>by rw [if_neg aA];rfl
 | i+1,h,j=>by
  have e:=QD out ps hl i aA;have hn:=Ml out ps i;unfold G7;rw [List.getD_eq_getElem?_getD,List.getElem?_set];by_cases hij:i=j
  ·subst hij;rw [if_pos rfl,if_pos aA,if_pos aA,Option.getD_some,e i,if_neg aA]
  ·rw [if_neg hij,<-List.getD_eq_getElem?_getD,e j];by_cases h1:j<i
   ·rw [if_pos h1,if_pos aA]
   ·rw [if_neg h1,if_neg aA]
section
variable {bag kinds:Int} {ps:List ByteArray} {ws:List AA} {js:List AK} {ns:List AF} {l:List Int}
theorem QE(b:BD bag kinds ps ws js ns){k:Int}(h:0<=k/\k<js.length):JobOK ps.length kinds (js.getD k.toNat AK.z):=Kc (b.job k.toNat aA)
theorem Jr(b:BD bag kinds ps ws js ns):∀q,(Cv kinds js l q).length=kinds.toNat
 | 0=>List.length_replicate
 | q+1=>by rw [Cv,Ml,Jr b q]
theorem Ly(b:BD bag kinds ps ws js ns)(hr:∀k,k<l.length->0<=l.getD k 0/\l.getD k 0<js.length):∀q,q<=l.length->∀j,0<=(Cv kinds js l q).getD j 0/\(Cv kinds js l q).getD j 0<=5*(q:Int)
 | 0,_,j=>by
  unfold Cv;rw [List.getD_eq_getElem?_getD,List.getElem?_replicate];split <;> simp
 | q+1,h,j=>by
  have e:=Ly b hr q aA j;have x:=QE b (hr q aA);have x2:=x.part j;have x3:=x.len;unfold Cv;rw [QD _ _ (by rw [Jr b q];omega) _ (Nat.le_refl _)];split <;> omega
theorem addP_rng(b:BD bag kinds ps ws js ns)(hr:∀k,k<l.length->0<=l.getD k 0/\l.getD k 0<js.length){q:Nat}(hq:q<l.length){i:Nat}(hi:i<(js.getD (l.getD q 0).toNat AK.z).parts.length) :
  (G7 (Cv kinds js l q) (js.getD (l.getD q 0).toNat AK.z).parts i).length=(js.getD (l.getD q 0).toNat AK.z).parts.length/\0<=(G7 (Cv kinds js l q) (js.getD (l.getD q 0).toNat AK.z).parts i).getD i 0/\(G7 (Cv kinds js l q) (js.getD (l.getD q 0).toNat AK.z).parts i).getD i 0<=5*(q:Int)/\
  0<=(js.getD (l.getD q 0).toNat AK.z).parts.getD i 0/\(js.getD (l.getD q 0).toNat AK.z).parts.getD i 0<=5:=by
 have x:=QE b (hr q hq);have e:=Ly b hr q aA i;have x3:=x.len;have hl:=Jr (l:=l) b q;refine ⟨by rw [Ml,hl];omega,?_⟩;rw [QD _ _ (by rw [hl];omega) i aA,if_neg aA];exact ⟨e.1,e.2,x.part i⟩
theorem XE(b:BD bag kinds ps ws js ns):(DX kinds js l).length=kinds.toNat:=Jr b _
theorem XF(b:BD bag kinds ps ws js ns)(hr:∀k,k<l.length->0<=l.getD k 0/\l.getD k 0<js.length)(j:Nat):0<=(DX kinds js l).getD j 0/\(DX kinds js l).getD j 0<=5*(l.length:Int):=Ly b hr _ (Nat.le_refl _) j
theorem sum_take(xs:List Int){k:Nat}(h:k<xs.length):(xs.take (k+1)).sum=(xs.take k).sum+xs.getD k 0:=by
 rw [List.take_add_one,List.sum_append,List.getD_eq_getElem?_getD,List.getElem?_eq_getElem h];simp
theorem sum_all(xs:List Int){k:Nat}(h:xs.length<=k):(xs.take k).sum=xs.sum:=by rw [List.take_of_length_le h]
theorem VW(h:Ge bag kinds ps ws js ns l=0):BD bag kinds ps ws js ns/\∀k,k<l.length->0<=l.getD k 0/\l.getD k 0<js.length:=by
 unfold Ge at h;split at h
 ·rename_i a;exact absurd h a
 ·rename_i a;exact ⟨Bt (Decidable.not_not.1 a),Fb h⟩
def Sh(bag kinds:Int)(ps:List ByteArray)(ws:List AA)(js:List AK)(ns:List AF)(l:List Int):List Int:=if¬Ge bag kinds ps ws js ns l=0 then [] else DX kinds js l
def ZV(bag kinds:Int)(ps:List ByteArray)(ws:List AA)(js:List AK)(ns:List AF)(l:List Int):Bool:=if¬Ge bag kinds ps ws js ns l=0 then false else decide ((DX kinds js l).sum<=bag)
end
end Go.Ns
namespace Go.Ns
open Go.Conc
section
variable {P:Program} {E:Gr P} {O:Nat->Value} {ds:List Deferred} {h:GH} {T:(Nat->Value)->List Deferred->GH->Prop}
variable {dst:Option Nat} {ty:TypeId} {pos:String} {af:Array Edge} {gd:Option (Nat×Bool)}
theorem L0{t kt vt:TypeId}{x ix:Operand}{r np:Nat}{ws:List AA}{pq:List AG}{q:AG}{a b:Int}{z:Value}(ht:MQ P t=some (kt,vt))(hx:AQ O x=.map (some r))(hk:AQ O ix=FF (q.w5,a,b))(hm:Eg h r np ws pq)
  (hc:∀a:FZ,ckP P 4 kt (FF a)=true)
  (he:∀a b:FZ,PT P 4 kt (FF a) (FF b)=some ((a.1.1==b.1.1 && (a.1.2.1==b.1.2.1 && (a.1.2.2.1==b.1.2.2.1 && (a.1.2.2.2.1==b.1.2.2.2.1 && (a.1.2.2.2.2==b.1.2.2.2.2 && true))))) && (a.2.1==b.2.1 && (a.2.2==b.2.2 && true))))
  (hz:(P.info? vt).bind (·.zero)=some z) (hq:q ∈ pq) (ha:0<=a/\a<np) (hb:0<=b/\b<np)
  (k:T (putS O dst (.int .i64 (BA np ws q a.toNat b.toNat))) ds h):BX E ⟨dst,.lookup t x ix false,ty,pos,af,gd⟩ O ds h T:=by
 obtain ⟨pm,M,hM,hF⟩:=hm;have e:=hF q hq a.toNat b.toNat aA aA;rw [Int.toNat_of_nonneg ha.1,Int.toNat_of_nonneg hb.1] at e;refine ST (d:=3) (a:=(q.w5,a,b)) ht hx hk hM rfl (hc _) (λb=>by rw [he,FZ.eq_iff]) hz ?_;rw [e];exact k
theorem Si{V:Type}{t:TypeId}{x:Operand}{olo ohi:Option Operand}{n:Nat}{enc:V->Array Value}{xs:List V}{v:Value}{hk:GH}(lo hi:Nat)(ht:E9 P t=some n)(hs:AI hk v n enc xs)(hx:AQ O x=v)
  (hlo:match olo with | none=>lo=0 | some o=>∃kd,AQ O o=.int kd lo) (hhi:match ohi with | none=>hi=xs.length | some o=>∃kd,AQ O o=.int kd hi) (h1:lo<=hi) (h2:hi<=xs.length)
  (k:∀v',AI hk v' n enc ((xs.take hi).drop lo)->T (putS O dst v') ds h):BX E ⟨dst,.slice t x olo ohi none,ty,pos,af,gd⟩ O ds h T:=by
 have hs':=hs;obtain ⟨a,cap,rfl,hc,_,_⟩:=hs';exact K7 lo hi ht hc hx hlo hhi h1 h2 (k _ (hs.part h1 h2))
end
def fLo(F:AG->Int)(l:List AG):Nat->Int
 | 0=>F (l.getD 0 AG.zero)
 | k+1=>min (fLo F l k) (F ((l.drop 1).getD k AG.zero))
def fHi(F:AG->Int)(l:List AG):Nat->Int
 | 0=>F (l.getD 0 AG.zero)
 | k+1=>max (fHi F l k) (F ((l.drop 1).getD k AG.zero))
def EW(F:AG->Int)(l:List AG):Int:=fLo F l (l.length-1)
def Ci(F:AG->Int)(l:List AG):Int:=fHi F l (l.length-1)
theorem drop1_mem{l:List AG}{k:Nat}(h:k<l.length-1):(l.drop 1).getD k AG.zero ∈ l:=List.mem_of_mem_drop (Bj (by rw [List.length_drop];exact h))
def Gf(s v:Int):Int:=if s=0 then v else 0
theorem OQ(v:Int):Gf 0 v=v:=if_pos rfl
theorem GE{s v:Int}(h:¬s=0):Gf s v=0:=if_neg h
end Go.Ns
namespace Go.Ns
open Go.Conc
theorem UH:∀(n m:Nat)(f:Nat->Nat),(∀i,i<m->f i<n)->(∀i j,i<j->j<m->f i≠f j)->m<=n
 | 0,m,f,h,_=>by
  rcases Nat.eq_zero_or_pos m with e | e
  ·omega
  ·exact absurd (h 0 e) (Nat.not_lt_zero _)
 | n+1,m,f,h,d=>by
  rcases Nat.eq_zero_or_pos m with e | e
  ·omega
  ·have x:=UH n (m-1) (λi=>if f i=n then f (m-1) else f i) (λi hi=>by
    have h1:=h i aA;have h2:=h (m-1) aA;have h3:=d i (m-1) hi aA;show (if f i=n then f (m-1) else f i)<n;split <;> omega) (λi j hij hj=>by
    have h1:=d i j hij aA;have h2:=d i (m-1) aA aA;have h3:=d j (m-1) aA aA;show (if f i=n then f (m-1) else f i)≠(if f j=n then f (m-1) else f j);split <;> split <;> omega)
   omega
theorem JI{nj:Nat}{l:List Int}(h:Ai nj l=0):l.length<=nj:=by
 refine UH nj l.length (λk=>(l.getD k 0).toNat) (λi hi=>?_) λi j hij hj=>?_
 ·have:=Fb h i hi
  show (l.getD i 0).toNat<nj;omega
 ·have hi:=Fb h i aA;have hj':=Fb h j hj;have h1:=De h j (Nat.zero_le _) aA;unfold Il at h1;split at h1
  ·rename_i a;exact absurd h1 a
  ·split at h1
   ·cases h1
   ·rename_i a b
    show (l.getD i 0).toNat≠(l.getD j 0).toNat;intro e;refine b (List.any_eq_true.2 ⟨l.getD i 0,?_,decide_eq_true aA⟩);rw [List.mem_iff_getElem];refine ⟨i,by rw [List.length_take];omega,?_⟩;rw [List.getElem_take,List.getD_eq_getElem?_getD,List.getElem?_eq_getElem aA];rfl
def Hn(js:List AK)(l:List Int):Nat->Int
 | 0=>0
 | q+1=>(js.getD (l.getD q 0).toNat AK.z).place
def CM(np:Nat)(ws:List AA)(js:List AK)(p:AG)(l:List Int):Nat->Int
 | 0=>0
 | q+1=>CM np ws js p l q+(BA np ws p (Hn js l q).toNat (js.getD (l.getD q 0).toNat AK.z).place.toNat+p.works (l.getD q 0).toNat)
def FG(np:Nat)(ws:List AA)(js:List AK)(p:AG)(l:List Int):Nat->List Int
 | 0=>[]
 | q+1=>FG np ws js p l q++[CM np ws js p l (q+1)]
def A4(np:Nat)(ws:List AA)(js:List AK)(p:AG)(l:List Int):Int:=CM np ws js p l l.length+BA np ws p (Hn js l l.length).toNat 0
theorem Js(np:Nat)(ws:List AA)(js:List AK)(p:AG)(l:List Int):∀q,(FG np ws js p l q).length=q
 | 0=>rfl
 | q+1=>by rw [FG,List.length_append,Js np ws js p l q];rfl
theorem QF(np:Nat)(ws:List AA)(js:List AK)(p:AG)(l:List Int):∀q i,i<q->(FG np ws js p l q).getD i 0=CM np ws js p l (i+1)
 | 0,i,h=>absurd h (Nat.not_lt_zero _)
 | q+1,i,h=>by
  have hl:=Js np ws js p l q;rw [FG,List.getD_eq_getElem?_getD];by_cases e:i<q
  ·rw [List.getElem?_append_left aA,<-List.getD_eq_getElem?_getD];exact QF np ws js p l q i e
  ·have e2:i=q:=aA
   subst e2;rw [List.getElem?_append_right aA,hl,Nat.sub_self];rfl
section
variable {bag kinds:Int} {ps:List ByteArray} {ws:List AA} {js:List AK} {ns:List AF} {l:List Int} {p:AG}
theorem Sj{np:Nat}(hp:B6 p):(BA np ws p).ok:=VU (QA hp)
theorem goAt_rng(b:BD bag kinds ps ws js ns)(hr:∀k,k<l.length->0<=l.getD k 0/\l.getD k 0<js.length):∀q,q<=l.length->0<=Hn js l q/\Hn js l q<ps.length
 | 0,_=>by have:=b.plen;show (0:Int)<=0/\(0:Int)<_;omega
 | q+1,h=>by have:=(QE b (hr q aA)).place;show 0<=(js.getD (l.getD q 0).toNat AK.z).place/\(js.getD (l.getD q 0).toNat AK.z).place<ps.length;omega
theorem Sm(hp:B6 p):∀q,0<=CM ps.length ws js p l q/\CM ps.length ws js p l q<=1048606*(q:Int)
 | 0=>⟨Int.le_refl 0,Int.le_refl 0⟩
 | q+1=>by
  have e:=Sm hp q;have f:=Sj (np:=ps.length) (ws:=ws) hp (Hn js l q).toNat (js.getD (l.getD q 0).toNat AK.z).place.toNat;have w:=hp.works (l.getD q 0).toNat;unfold CM;omega
end
end Go.Ns
namespace Go.Ns
open Go.Conc
theorem Eg.store{h h':GH}{q r np:Nat}{ws:List AA}{pq:List AG}(x:Eg h r np ws pq)(ho:∀b,b≠q->h' b=h b)(n:r≠q):Eg h' r np ws pq:=by
 obtain ⟨pm,M,⟨es,clk,hb,hl⟩,hM⟩:=x;exact ⟨pm,M,⟨es,clk,(ho r n).trans hb,hl⟩,hM⟩
def XG(x:Int×Int):Array Value:=#[.int .i64 x.1,.int .i64 x.2]
section
variable (np:Nat) (ws:List AA) (js:List AK) (pq:List AG) (l:List Int)
def endLo(i:Nat):Int:=EW (λx=>CM np ws js x l (i+1)) pq
def endHi(i:Nat):Int:=Ci (λx=>CM np ws js x l (i+1)) pq
def Jt:Nat->List (Int×Int)
 | 0=>[]
 | q+1=>Jt q++[(endLo np ws js pq l q,endHi np ws js pq l q)]
theorem QG:∀q,(Jt np ws js pq l q).length=q
 | 0=>rfl
 | q+1=>by rw [Jt,List.length_append,QG q];rfl
def QH(i:Nat):Bool:=decide (endHi np ws js pq l i<=(js.getD (l.getD i 0).toNat AK.z).due)
def CR(bag kinds:Int):Bool:=decide ((DX kinds js l).sum<=bag) && (List.range l.length).all (QH np ws js pq l)
variable {np ws js pq l}
theorem onTime_of{q:Nat}(h:¬(js.getD (l.getD q 0).toNat AK.z).due<Ci (λx=>CM np ws js x l ((q:Int).toNat+1)) pq):QH np ws js pq l q=true:=decide_eq_true (Int.not_lt.1 h)
theorem onTime_no{q:Nat}(h:(js.getD (l.getD q 0).toNat AK.z).due<Ci (λx=>CM np ws js x l ((q:Int).toNat+1)) pq):QH np ws js pq l q=false:=decide_eq_false (Int.not_le.2 h)
variable {bag kinds:Int}
theorem XH(h:¬(DX kinds js l).sum<=bag):CR np ws js pq l bag kinds=false:=by unfold CR;rw [decide_eq_false h];rfl
theorem safe_late{k:Nat}(hk:k<l.length)(h:(js.getD (l.getD k 0).toNat AK.z).due<Ci (λx=>CM np ws js x l ((k:Int).toNat+1)) pq):CR np ws js pq l bag kinds=false:=by
 unfold CR;rw [Bool.and_eq_false_iff];refine .inr (Bool.eq_false_iff.2 λe=>?_)
 have:=List.all_eq_true.1 e k (List.mem_range.2 hk)
 rw [onTime_no h] at this;cases this
theorem safe_all{k:Nat}(h:¬¬(DX kinds js l).sum<=bag)(hs:∀j,j<k->QH np ws js pq l j=true)(hk:l.length<=k):CR np ws js pq l bag kinds=true:=by
 unfold CR;rw [decide_eq_true (Decidable.not_not.1 h),Bool.true_and];exact List.all_eq_true.2 λj hj=>hs j (by have:=List.mem_range.1 hj;omega)
end
def BQ:Nat->List Int
 | 0=>[]
 | k+1=>BQ k++[(k:Int)]
theorem CQ:∀n,(BQ n).length=n
 | 0=>rfl
 | n+1=>by rw [BQ,List.length_append,CQ n];rfl
def Cs(nj:Nat)(l:List Int)(i:Int):Int:=if¬Ai nj l=0 then Ai nj l else if¬(0<=i/\i<=(l.length:Int)-1) then 1 else 0
theorem VX{nj:Nat}{l:List Int}{i:Int}(h:Cs nj l i=0):Ai nj l=0/\0<=i/\i<l.length:=by
 unfold Cs at h;split at h
 ·rename_i a;exact absurd h a
 ·rename_i a
  split at h
  ·cases h
  ·exact ⟨Decidable.not_not.1 a,aA⟩
section
variable (bag kinds:Int) (ps:List ByteArray) (ws:List AA) (js:List AK) (ns:List AF) (l:List Int)
def Sn:List (Int×Int):=if¬AY bag kinds ps ws js ns (Ai js.length l)=0 then [] else Jt ps.length ws js (AD ws js ns) l l.length
def ZW:Bool:=if¬AY bag kinds ps ws js ns (Ai js.length l)=0 then false else CR ps.length ws js (AD ws js ns) l bag kinds
def LZ(i:Int):Int:=
 if¬AY bag kinds ps ws js ns (Cs js.length l i)=0 then 0 else if (js.getD (l.getD i.toNat 0).toNat AK.z).due<endLo ps.length ws js (AD ws js ns) l i.toNat then 1
 else if endHi ps.length ws js (AD ws js ns) l i.toNat<=(js.getD (l.getD i.toNat 0).toNat AK.z).due then 2 else 0
variable {bag kinds ps ws js ns l} {i:Int}
theorem late_yes(h0:AY bag kinds ps ws js ns (Cs js.length l i)=0)(h:(js.getD (l.getD i.toNat 0).toNat AK.z).due<EW (λx=>CM ps.length ws js x l (i.toNat+1)) (AD ws js ns)):(1:Int)=LZ bag kinds ps ws js ns l i:=by
 unfold LZ;rw [if_neg (λx=>x h0)];exact (if_pos h).symm
theorem late_no(h0:AY bag kinds ps ws js ns (Cs js.length l i)=0)(h:¬(js.getD (l.getD i.toNat 0).toNat AK.z).due<EW (λx=>CM ps.length ws js x l (i.toNat+1)) (AD ws js ns))
  (h2:Ci (λx=>CM ps.length ws js x l (i.toNat+1)) (AD ws js ns)<=(js.getD (l.getD i.toNat 0).toNat AK.z).due):(2:Int)=LZ bag kinds ps ws js ns l i:=by
 unfold LZ;rw [if_neg (λx=>x h0)];exact ((if_neg h).trans (if_pos h2)).symm
theorem late_open(h0:AY bag kinds ps ws js ns (Cs js.length l i)=0)(h:¬(js.getD (l.getD i.toNat 0).toNat AK.z).due<EW (λx=>CM ps.length ws js x l (i.toNat+1)) (AD ws js ns))
  (h2:¬Ci (λx=>CM ps.length ws js x l (i.toNat+1)) (AD ws js ns)<=(js.getD (l.getD i.toNat 0).toNat AK.z).due):(0:Int)=LZ bag kinds ps ws js ns l i:=by
 unfold LZ;rw [if_neg (λx=>x h0)];exact ((if_neg h).trans (if_neg h2)).symm
theorem late_bad(h0:¬AY bag kinds ps ws js ns (Cs js.length l i)=0):(0:Int)=LZ bag kinds ps ws js ns l i:=by unfold LZ;rw [if_pos h0]
end
end Go.Ns
namespace Go.Ns
open Go.Conc
def HL(i:Nat)(pq:List AG):Nat->List Int
 | 0=>[]
 | k+1=>HL i pq k++[(pq.getD k AG.zero).works i]
theorem HZ(i:Nat)(pq:List AG):∀k,(HL i pq k).length=k
 | 0=>rfl
 | k+1=>by rw [HL,List.length_append,HZ i pq k];rfl
theorem QI{i:Nat}{pq:List AG}{k:Nat}(h:0<k):HL i pq k≠[]:=λe=>by
 have:=HZ i pq k
 rw [e] at this;simp at this;omega
def Nc(bag kinds:Int)(ps:List ByteArray)(ws:List AA)(js:List AK)(ns:List AF)(i:Int):List Int:=
 if¬AY bag kinds ps ws js ns (Gc js.length i)=0 then [] else D2 (Fp (HL i.toNat (AD ws js ns) (AD ws js ns).length))
end Go.Ns
namespace Go.Ns
open Go.Conc
theorem VY{h:GH}{r:Nat}{M:Int->Option Int}(x:C4 h r D9 D9 M):∃y,h r=some y:=by
 obtain ⟨es,clk,hb,_⟩:=x;exact ⟨_,hb⟩
def Dx(ns:List AF)(mask:Int)(k:Nat):List AF:=((List.range k).filter (OG mask)).map λ(i:Nat)=>ns.getD i AF.z
section
variable {ns:List AF} {mask:Int} {k:Nat} {h:GH}
theorem pickN_t(hb:mask.fdiv (2 ^ k)%2=1):Dx ns mask (k+1)=Dx ns mask k++[ns.getD k AF.z]:=by
 unfold Dx;rw [KV (by unfold OG;rw [decide_eq_true hb]),List.map_append];rfl
theorem pickN_f(hb:¬mask.fdiv (2 ^ k)%2=1):Dx ns mask (k+1)=Dx ns mask k:=by
 unfold Dx;rw [KW (by unfold OG;rw [decide_eq_false hb])]
theorem Ss(ns:List AF)(mask:Int)(k:Nat):(Dx ns mask k).length<=k:=by
 unfold Dx;rw [List.length_map]
 have:=List.length_filter_le (OG mask) (List.range k)
 rwa [List.length_range] at this
theorem VZ(ns:List AF)(mask:Int)(k q:Nat)(hq:q<(Dx ns mask k).length):∃i,i<k/\(Dx ns mask k).getD q AF.z=ns.getD i AF.z:=by
 have hm:(Dx ns mask k).getD q AF.z ∈ Dx ns mask k:=Bj hq;unfold Dx at hm ⊢;obtain ⟨i,hi,e⟩:=List.mem_map.1 hm;exact ⟨i,List.mem_range.1 (List.mem_filter.1 hi).1,e.symm⟩
theorem Ac.pick(x:Ac h ns)(mask:Int)(k:Nat):Ac h (Dx ns mask k):=λq=>by
 by_cases hq:q<(Dx ns mask k).length
 ·obtain ⟨i,_,e⟩:=VZ ns mask k q hq;rw [e];exact x i
 ·rw [List.getD_eq_getElem?_getD,List.getElem?_eq_none aA];exact Ac.nil h 0
theorem Ac.fine1(x:Ac h ns)(k:Nat):(Bh (ns.getD k AF.z)).toList.all (·.oneCell')=true:=by
 show (((ns.getD k AF.z).wv.oneCell') && (true && (true && true)))=true;rw [(AI.one (x k)).2];rfl
theorem Ac.fine(x:Ac h ns):∀y ∈ ns,(Bh y).toList.all (·.oneCell')=true:=λy hy=>by
 obtain ⟨i,hi,e⟩:=List.mem_iff_getElem.1 hy
 have:=x.fine1 i
 rw [List.getD_eq_getElem?_getD,List.getElem?_eq_getElem hi] at this;rw [<-e];exact this
theorem Mm{nw:Nat}{ns ns':List AF}{k i:Nat}(e:ns'.getD k AF.z=ns.getD i AF.z):D5 nw ns' k=D5 nw ns i:=by unfold D5;rw [e]
theorem BD.pick{bag kinds:Int}{ps:List ByteArray}{ws:List AA}{js:List AK}(b:BD bag kinds ps ws js ns)(mask:Int):BD bag kinds ps ws js (Dx ns mask ns.length):=
 { b with
  nlen:=Nat.le_trans (Ss ns mask ns.length) b.nlen
  note:=λk hk=>by
   obtain ⟨i,hi,e⟩:=VZ ns mask ns.length k hk;rw [Mm e];exact b.note i hi }
end
section
variable (ws:List AA) (js:List AK) (ns:List AF)
def Eo(x:Bool×List Int)(l:List Int):Bool:=x.1 && (decide ((x.2.length:Int)<l.length) || (decide ((l.length:Int)=x.2.length) && decide (0<KX l x.2)))
def Be:Nat->Bool×List Int
 | 0=>(false,[])
 | q+1=>if Eo (Be q) (Bd (q:Int) ns.length)=true then Be q else if (AD ws js (Dx ns (q:Int) ns.length)).length=0 then (true,Bd (q:Int) ns.length) else Be q
variable {ws js ns} {q:Nat}
theorem Ha(h:Eo (Be ws js ns q) (Bd (q:Int) ns.length)=true):Be ws js ns (q+1)=Be ws js ns q:=if_pos h
theorem Im(h:Eo (Be ws js ns q) (Bd (q:Int) ns.length)=false)(h2:((AD ws js (Dx ns (q:Int) ns.length)).length:Int)=0):Be ws js ns (q+1)=(true,Bd (q:Int) ns.length):=by
 rw [Be,if_neg (by rw [h];simp),if_pos aA]
theorem In(h:Eo (Be ws js ns q) (Bd (q:Int) ns.length)=false)(h2:¬((AD ws js (Dx ns (q:Int) ns.length)).length:Int)=0):Be ws js ns (q+1)=Be ws js ns q:=by
 rw [Be,if_neg (by rw [h];simp),if_neg aA]
theorem St{x:Bool×List Int}{l:List Int}(h:x.1=false):Eo x l=false:=by unfold Eo;rw [h];rfl
theorem tWorse_f2{x:Bool×List Int}{l:List Int}(h:¬(x.2.length:Int)<l.length)(h2:¬(l.length:Int)=x.2.length):Eo x l=false:=by
 unfold Eo;rw [decide_eq_false h,decide_eq_false h2];simp
theorem tWorse_f3{x:Bool×List Int}{l:List Int}(h:¬(x.2.length:Int)<l.length)(h2:¬0<KX l x.2):Eo x l=false:=by
 unfold Eo;rw [decide_eq_false h,decide_eq_false h2];simp
theorem Su{x:Bool×List Int}{l:List Int}(h:x.1=true)(h1:(x.2.length:Int)<l.length):Eo x l=true:=by
 unfold Eo;rw [h,decide_eq_true h1];simp
theorem Sv{x:Bool×List Int}{l:List Int}(h:x.1=true)(h1:(l.length:Int)=x.2.length)(h2:0<KX l x.2):Eo x l=true:=by
 unfold Eo;rw [h,decide_eq_true h1,decide_eq_true h2];simp
theorem pow_16:∀{n:Nat},n<=4->(1:Int)<=(2:Int) ^ n/\(2:Int) ^ n<=16
 | 0,_=>aC
 | 1,_=>aC
 | 2,_=>aC
 | 3,_=>aC
 | 4,_=>aC
theorem QJ:∀q,(Be ws js ns q).2.length<=ns.length
 | 0=>Nat.zero_le _
 | q+1=>by
  have e:=QJ q;unfold Be;split
  ·exact e
  ·split
   ·exact SZ _ _
   ·exact e
def Cy(bag kinds:Int)(ps:List ByteArray)(ws:List AA)(js:List AK)(ns:List AF):List Int:=
 if¬Aj bag kinds ps ws js ns=0 then [] else if (0:Int)<(AD ws js ns).length then [] else (Be ws js ns (2 ^ ns.length)).2
end
section
variable {bag kinds:Int} {ps:List ByteArray} {ws:List AA} {js:List AK} {ns:List AF} {q:Nat}
theorem OR(h:¬Aj bag kinds ps ws js ns=0):Cy bag kinds ps ws js ns=[]:=if_pos h
theorem Mn(h:(0:Int)<(AD ws js ns).length):Cy bag kinds ps ws js ns=[]:=by
 unfold Cy;rw [if_pos h];exact ite_self _
theorem Va(h:Aj bag kinds ps ws js ns=0)(h1:¬(0:Int)<(AD ws js ns).length)(hq:¬(q:Int)<(2:Int) ^ ((ns.length:Int)).toNat)(hq2:(q:Int)<=(2:Int) ^ ((ns.length:Int)).toNat):Cy bag kinds ps ws js ns=(Be ws js ns q).2:=by
 have e:((2 ^ ns.length:Nat):Int)=(2:Int) ^ ((ns.length:Int)).toNat:=by rw [Int.toNat_natCast,Int.natCast_pow];rfl
 rw [<-e] at hq hq2
 have:2 ^ ns.length=q:=aA
 unfold Cy;rw [if_neg (λx=>x h),if_neg h1,this]
end
section
variable (ws:List AA) (js:List AK) (ns:List AF)
abbrev KL(pq:List AG)(i:Nat):Nat->Int:=λk=>(pq.getD k AG.zero).ways i
def L1(pq:List AG)(i:Nat):Int:=FA (KL pq i) pq.length
def FH(pq:List AG)(k:Nat):Int×Int:=askTo (L1 pq) (pq.length:Int) k
theorem OS(f:Nat->Int):∀k,0<=FA f k/\FA f k<=(k:Int)
 | 0=>by simp [FA]
 | k+1=>by
  have h1:=OS f k;have h2:=F9 f (k+1) (f k);unfold FA;omega
theorem LC{pq:List AG}{k:Nat}(h:L1 pq k<(FH pq k).2):FH pq (k+1)=((k:Int),L1 pq k):=if_pos h
theorem LD{pq:List AG}{k:Nat}(h:¬L1 pq k<(FH pq k).2):FH pq (k+1)=FH pq k:=if_neg h
def EQ(bag kinds:Int)(ps:List ByteArray)(ws:List AA)(js:List AK)(ns:List AF):Int:=if¬AY bag kinds ps ws js ns 0=0 then 0 else (FH (AD ws js ns) ws.length).1
def DL(bag kinds:Int)(ps:List ByteArray)(ws:List AA)(js:List AK)(ns:List AF):Int:=if¬AY bag kinds ps ws js ns 0=0 then 0 else (FH (AD ws js ns) ws.length).2
end
end Go.Ns
namespace Go.Ns
open Go.Conc
def Ig(hs:GH)(k0 ln:Nat)(c:Array Value)(t:TypeId)(k:Nat)(v:Value)(h:GH):Prop:=k=k0->∃r,v=.slice (some ⟨r,0,none⟩) ln ln/\hs r=none/\h r=some (true,.cells c t (0,0))
theorem Ig.mono(hs:GH)(k0 ln:Nat)(c:Array Value)(t:TypeId):∀k v h1 h2,GH.Le h1 h2->Ig hs k0 ln c t k v h1->Ig hs k0 ln c t k v h2:=λ_ _ _ _ l x e=>by
 obtain ⟨r,q1,q2,q3⟩:=x e;exact ⟨r,q1,q2,l.keep q3 rfl⟩
theorem GF{P:Program}{E:Gr P}{O:Nat->Value}{ds:List Deferred}{hs hx:GH}{dst:Option Nat}{ty:TypeId}{pos:String}{af:Array Edge}{gd:Option (Nat×Bool)}{t:TypeId}{len n k0 k:Nat}{z cells:Array Value}{e:TypeId}{parts:Array (Nat×Operand)}
  (h0:DZ P t=some (n,z,e)) (hl:len*n<=2 ^ 24) (hn:(len*n=0)=False) (hf:Instr.fill (λi=>some (i*n,n)) ((Array.range (len*n)).map (z[·%z.size]!)) (parts.map λ(i,x)=>(i,AQ O x)).toList=some cells) (l:hs.Le hx) :
  BX E ⟨dst,.buildSlice t len parts,ty,pos,af,gd⟩ O ds hx λσ' ds' h'=>ds'=ds/\∃v,σ'=putS O dst v/\hx.Le h'/\Ig hs k0 len cells e k v h':=
 AX h0 hl hn hf λr h' hr le bx _=>⟨rfl,_,rfl,le,λ_=>⟨r,rfl,GH.Le.nothing l hr,bx⟩⟩
def LfW(hs:GH)(k0 ln:Nat)(c:Array Value)(t:TypeId)(n:Nat)(Fr:GH->Prop)(k:Nat)(v:Value)(h:GH):Prop:=Ig hs k0 ln c t k v h/\(k=n->Fr h)
theorem LfW.mono(hs:GH)(k0 ln:Nat)(c:Array Value)(t:TypeId)(n:Nat){Fr:GH->Prop}(m:∀h1 h2,GH.Le h1 h2->Fr h1->Fr h2):∀k v h1 h2,GH.Le h1 h2->LfW hs k0 ln c t n Fr k v h1->LfW hs k0 ln c t n Fr k v h2:=λ_ _ _ _ l x=>⟨Ig.mono _ _ _ _ _ _ _ _ _ l x.1,λe=>m _ _ l (x.2 e)⟩
theorem XI{P:Program}{E:Gr P}{O:Nat->Value}{ds:List Deferred}{hs hx:GH}{dst:Option Nat}{ty:TypeId}{pos:String}{af:Array Edge}{gd:Option (Nat×Bool)}{t:TypeId}{len n k0 N:Nat}{z cells:Array Value}{e:TypeId}{parts:Array (Nat×Operand)}{Fr:GH->Prop}(hk:k0≠N)
  (h0:DZ P t=some (n,z,e)) (hl:len*n<=2 ^ 24) (hn:(len*n=0)=False) (hf:Instr.fill (λi=>some (i*n,n)) ((Array.range (len*n)).map (z[·%z.size]!)) (parts.map λ(i,x)=>(i,AQ O x)).toList=some cells) (l:hs.Le hx) :
  BX E ⟨dst,.buildSlice t len parts,ty,pos,af,gd⟩ O ds hx λσ' ds' h'=>ds'=ds/\∃v,σ'=putS O dst v/\hx.Le h'/\LfW hs k0 len cells e N Fr k0 v h':=
 AX h0 hl hn hf λr h' hr le bx _=>⟨rfl,_,rfl,le,λ_=>⟨r,rfl,GH.Le.nothing l hr,bx⟩,λe=>absurd e hk⟩
theorem tFg{P:Program}{E:Gr P}{l:List Oper}{n:Nat}{fl:Bool}{hs:GH}{ds:List Deferred}{Lw:Nat->Value->GH->Prop}{F:(Nat->Value)->GH->Prop}{π:List Nat}{O:Nat->Value}{h:GH}{m k g d:Nat}{dst:Option Nat}{op:Op}{ty:TypeId}{pos:String}{af:Array Edge}{v:Value}{w:Bool}{og:Oper}
  (hk:LU m=(.p,k)) (ho:l[k]? =some ⟨dst,op,ty,pos,af,some (g,w)⟩) (h1:l[g]? =some og) (h2:og.dst=some d) (h3:O d=.bool w) (x:∀hx,Lw n undef hx->Tx E ⟨dst,op,ty,pos,af,some (g,w)⟩ O ds hx v)
  (y:TD E l n fl hs ds Lw F (dK π) (putS O dst v) h):TD E l n fl hs ds Lw F (dK (m ::π)) O h:=by
 unfold dK;rw [hk];exact ⟨_,true,ho,H0 h1 h2 h3,λe=>(by cases e),λ_=>⟨v,x,y⟩⟩
theorem tWLg{P:Program}{E:Gr P}{l:List Oper}{n:Nat}{hs:GH}{ds:List Deferred}{Lw:Nat->Value->GH->Prop}{F:(Nat->Value)->GH->Prop}{π:List Nat}{O:Nat->Value}{h:GH}{m k g d:Nat}{dst:Option Nat}{op:Op}{ty:TypeId}{pos:String}{af:Array Edge}{w:Bool}{og:Oper}(hk:LU m=(.w,k))(ho:l[k]? =some ⟨dst,op,ty,pos,af,some (g,w)⟩)(h1:l[g]? =some og)(h2:og.dst=some d)(h3:O d=.bool w)
  (x:BX E ⟨dst,op,ty,pos,af,some (g,w)⟩ O ds h λσ' ds' h'=>ds'=ds/\∃v,σ'=putS O dst v/\Lw n undef h'/\TD E l n false hs ds Lw F (dK π) (putS O dst v) h'):TD E l n false hs ds Lw F (dK (m ::π)) O h:=by
 unfold dK;rw [hk];exact ⟨_,true,ho,H0 h1 h2 h3,λe=>(by cases e),λ_ hx hg=>by rw [hg.2 rfl];exact x⟩
def Ty(h:GH)(t:TypeId)(v:Value):Prop:=∀b,Ch v=some b->∃p c f,h b=some (p,.cells c t f)
def B8(h:GH)(t:TypeId)(v:Value)(xs:List Int):Prop:=AI h v 1 eI xs/\Ty h t v
theorem B8.le{h h':GH}{t:TypeId}{v:Value}{xs:List Int}(x:B8 h t v xs)(l:h.Le h'):B8 h' t v xs:=⟨x.1.le l,λb hb=>by
 obtain ⟨p,c,f,q⟩:=x.2 b hb;exact ⟨p,c,f,l.keep q rfl⟩⟩
theorem B8.nil(h:GH)(t:TypeId):B8 h t (.slice none 0 0) []:=⟨AI.nil _ _ _,λb hb=>by cases hb⟩
theorem B8.own{h0 h:GH}{t:TypeId}{v:Value}{xs:List Int}(o:AM h0 h v t 1 eI xs):B8 h t v xs:=⟨o.sl,λb hb=>by
 rcases o with ⟨rfl,_⟩ | ⟨b1,cap,c,rfl,_,h2,_⟩
 ·cases hb
 ·simp only [Ch,Option.some.injEq] at hb;subst hb;exact ⟨_,_,_,h2⟩⟩
theorem B8.same{h h':GH}{t:TypeId}{w:Value}{xs:List Int}(x:B8 h t w xs)(key:∀b,Ch w=some b->h' b=h b):B8 h' t w xs:=by
 refine ⟨?_,λb hb=>by rw [key b hb];exact x.2 b hb⟩;obtain ⟨a,cap,hv,hc,hm,he⟩:=x.1;refine ⟨a,cap,hv,hc,hm,λi hi=>?_⟩;obtain ⟨b,off,h1,h2⟩:=he i hi;exact ⟨b,off,h1,h2.same (key b (by rw [hv,h1];rfl))⟩
theorem B8.grown{V:Type}{h h' h0:GH}{v v':Value}{t t':TypeId}{n:Nat}{enc:V->Array Value}{ys:List V}(g:GU h h' v v')(o:AM h0 h v t' n enc ys)(ne:t'≠t){w:Value}{xs:List Int}(x:B8 h t w xs):B8 h' t w xs:=
 x.same λb hb=>by
  obtain ⟨p,c,f,q⟩:=x.2 b hb;rw [q];refine g.1 b _ q λe=>?_;rcases o with ⟨rfl,_⟩ | ⟨b1,cap,c1,rfl,_,h2,_⟩
  ·cases e
  ·simp only [Ch,Option.some.injEq] at e;subst e;rw [q] at h2;cases h2;exact ne rfl
theorem B8.keepX{X:Nat->Prop}{h h':GH}{t:TypeId}{w:Value}{xs:List Int}(x:B8 h t w xs)(k:B4 X h h')(n:∀b,Ch w=some b->¬X b):B8 h' t w xs:=
 x.same λb hb=>by
  obtain ⟨p,c,f,q⟩:=x.2 b hb;rw [q];exact k.box q (n b hb) rfl
theorem B8.store{h h':GH}{t t':TypeId}{w:Value}{xs:List Int}{r:Nat}{p:Bool}{c:Array Value}{f:Nat×Nat}(x:B8 h t w xs)(hr:h r=some (p,.cells c t' f))(ne:t'≠t)(ho:∀b,b≠r->h' b=h b):B8 h' t w xs:=
 x.same λb hb=>ho b λe=>by
  obtain ⟨p2,c2,f2,q⟩:=x.2 b hb;rw [e,hr] at q;cases q;exact ne rfl
def B0(h:GH)(t:TypeId)(l:List Sl):Prop:=∀k,B8 h t (l.getD k Sl.z).1 (l.getD k Sl.z).2
theorem B0.le{h h':GH}{t:TypeId}{l:List Sl}(x:B0 h t l)(e:h.Le h'):B0 h' t l:=λk=>(x k).le e
theorem B0.nil(h:GH)(t:TypeId):B0 h t []:=λk=>by
 rw [BM aD];exact B8.nil _ _
theorem Hb{V:Type}(z:V)(a b:List V)(k:Nat):(a++b).getD k z=if k<a.length then a.getD k z else b.getD (k-a.length) z:=by
 simp only [List.getD_eq_getElem?_getD,List.getElem?_append];split <;> rfl
theorem B0.app{h:GH}{t:TypeId}{l l':List Sl}(a:B0 h t l)(b:B0 h t l'):B0 h t (l++l'):=λk=>by
 rw [Hb];split
 ·exact a k
 ·exact b _
theorem B0.one{h:GH}{t:TypeId}{x:Sl}(a:B8 h t x.1 x.2):B0 h t [x]:=λk=>by
 cases k with
 | zero=>exact a
 | succ k=>rw [BM aD];exact B8.nil _ _
theorem JJ(a b:List Sl):Ao (a++b)=Ao a++Ao b:=by simp [Ao]
section
variable {V:Type} {hB:GH} {I:List V->(Nat->Prop)->GH->Prop} {S:GH->Prop} {X0 X X1:Nat->Prop} {h hc h':GH} {pre l:List V} {v v':Value}
def Ju(hB:GH)(X0 X:Nat->Prop)(h:GH)(v:Value):Prop:=∀b,Ch v=some b->¬X b/\(X0 b\/h b=none)/\hB b=none
theorem Ey.old(y:Ey hB I X0 h pre X hc){b:Nat}(e:hc b=none):X0 b\/h b=none:=by
 by_cases q:X0 b
 ·exact .inl q
 ·refine .inr ?_;cases hb:h b with
  | none=>rfl
  | some x=>
   obtain ⟨o',h1,_⟩:=y.keep b x.1 x.2 hb q;rw [e] at h1;cases h1
theorem Ey.fresh(P:Gn hB I)(y:Ey hB I X0 h pre X hc)(o:∀b,Ch v=some b->hc b=none):Ju hB X0 X h v:=λb hb=>⟨P.off y.inv (o b hb),y.old (o b hb),y.base.nothing (o b hb)⟩
theorem Ju.grown(f:Ju hB X0 X h v)(P:Gn hB I)(y:Ey hB I X0 h pre X hc)(g:GU hc h' v v'):Ju hB X0 X h v':=λb hb=>by
 rcases g.2 with e | ⟨⟨r,e1,e2⟩,_⟩
 ·exact f b (e▸hb)
 ·rw [e1] at hb;cases hb;exact ⟨P.off y.inv e2,y.old e2,y.base.nothing e2⟩
theorem Ey.app(P:Gn hB I)(y:Ey hB I X0 h pre X hc)(g:GU hc h' v v')(f:Ju hB X0 X h v):Ey hB I X0 h pre X h':=by
 have lB:hB.Le h':=λb p o hb=>by
  obtain ⟨o1,h1,h2⟩:=y.base b p o hb;exact ⟨o1,g.1 b _ h1 λe=>(by rw [(f b e).2.2] at hb;cases hb),h2⟩
 refine ⟨P.stable _ _ hc h' y.inv (λb hb=>?_) lB,y.sub,λb p o hb hn=>?_,lB⟩
 ·obtain ⟨p,o,h1,_⟩:=P.dom _ _ _ b y.inv hb;rw [h1];exact g.1 b _ h1 λe=>(f b e).1 hb
 ·obtain ⟨o1,h1,h2⟩:=y.keep b p o hb hn;exact ⟨o1,g.1 b _ h1 λe=>(f b e).2.1.elim hn λq=>(by rw [q] at hb;cases hb),h2⟩
theorem Ey.callL(y:Ey hB I X0 h pre X hc)(f:Ju hB X0 X h v){u:Value}(r:E6 hB I S pre (λb=>X b\/Ch v=some b) hc l u h') :
  ∃ok X',u=.bool ok/\(∀b,X' b->(X b\/Ch v=some b)\/hc b=none)/\B4 (λb=>X b\/Ch v=some b) hc h'/\(ok=true->Ey hB I X0 h (pre++l) X' h')/\(ok=false->∀l',E6 hB I S pre X0 h l' (.bool false) h'):=by
 obtain ⟨ok,X',hv,hs,hk,hl,h1,h2⟩:=r;have s:∀b,(X b\/Ch v=some b)->X0 b\/h b=none:=λb q=>q.elim (y.sub b) λe=>(f b e).2.1;have kk:B4 X0 h h':=y.keep.trans s hk;have ss:=subX s y.keep hs;exact ⟨ok,X',hv,hs,hk,λe=>⟨h1 e,ss,kk,hl⟩,λe l'=>⟨false,X',rfl,ss,kk,hl,(λx=>by cases x),λ_=>h2 e⟩⟩
end
structure QK{P:Program}(W:Wk P)(hB:GH)(yv:Value)(t:TypeId)(I:List (List Int)->(Nat->Prop)->GH->Prop)(S:GH->Prop)(all:List (List Int)):Prop where
 prom:Gn hB I
 one:yv.cells=#[yv]
 call:∀pre p post X h v,all=pre++p ::post->I pre X h->hB.Le h->B8 h t v p->(∀b,Ch v=some b->¬X b/\hB b=none)->Bm W yv #[v] h (E6 hB I S pre (λb=>X b\/Ch v=some b) h [p])
section
variable {P:Program} {E:Gr P} {O:Nat->Value} {ds:List Deferred}
theorem Sw{t0:TypeId}{all:List (List Int)}{hB hc:GH}{J:List (List Int)->(Nat->Prop)->GH->Prop}{Stop:Code->GH->Prop}{Y0:Nat->Prop}{par:Tmp}{f:Operand}{assign body:Code}{Q:Post}
  (hrd:E.rd=none) (hpar:Nat.blt par E.N=true) (hJ:Gn hB J) (hB0:hB.Le hc) (j0:J [] Y0 hc)
  (hS:∀c (h h':GH) l lo,Stop c h->h l=some (true,.loop lo)->(∀b,b≠l->h' b=h b)->Stop c h')
  (src:∀(yv:Value)(I:List (List Int)->(Nat->Prop)->GH->Prop)(Sp:GH->Prop)(X:Nat->Prop)(h:GH),QK E.wk hB yv t0 I Sp all->hB.Le h->I [] X h->Bm E.wk (AQ O f) #[yv] h λ_ h'=>YEnd hB I Sp all X h h')
  (round:∀(l d:Nat)(lo:Loop)(pre:List (List Int))(p:List Int)(post:List (List Int))(Y:Nat->Prop)(h:GH)(v:Value),all=pre++p ::post->J pre Y h->hB.Le h->hB l=none->¬Y l->h l=some (true,.loop lo)->B8 h t0 v p->(∀b,Ch v=some b->¬Y b/\hB b=none)->
   Tr ⟨E.wk,E.fn,some l,E.N⟩ assign (upd O par v) [] h λe σ' ds' h1=>e=.normal/\h1 l=some (true,.loop lo)/\∀h2,h2 l=some (true,.loop { lo with state:=.busy })->(∀b,b≠l->h2 b=h1 b)->
    Tr ⟨E.wk,E.fn,some l,E.N⟩ body σ' ds' h2 (VJ hB J Stop (pre++[p]) (λb=>Y b\/Ch v=some b) h l lo))
  (fin:∀(d l:Nat)(h':GH),hB.Le h'->hB d=none->hB l=none->hc d=none->h' d=some (true,.deferred (some []))->
   (∀Y,J all Y h'->(∀b,Y b->b≠d)->Q .normal O ({ target:=.collected d,args:=#[] } ::ds) h')/\
   (∀c,Stop c h'->match c with
    | .exit id=>Q (.exit id) O ({ target:=.collected d,args:=#[] } ::ds) h'
    | .ret=>Q .ret O ({ target:=.collected d,args:=#[] } ::ds) h'
    | _=>False)):Tr E (.rangeFunc f #[par] assign body) O ds hc Q:=by
 refine MS hrd λt d l hs hd hl hne=>?_;have hl':hB l=none:=hB0.nothing hl;have hd':hB d=none:=hB0.nothing hd;let lo:Loop:={ state:=.ready,pending:=none,fn:=E.fn,tmps:=t,params:=#[par],assign,body,defers:=d };have nYl:¬Y0 l:=hJ.off j0 hl;have nYd:¬Y0 d:=hJ.off j0 hd;have hL1:((hc.set d true (.deferred (some []))).set l true (.loop lo)) l=some (true,.loop lo):=GH.set_same _ _ _ _;have hL2:((hc.set d true (.deferred (some []))).set l true (.loop lo)) d=some (true,.deferred (some [])):=by rw [GH.set_ne _ _ _ (Ne.symm hne)];exact GH.set_same _ _ _ _
 have hL3:∀b,b≠l->b≠d->((hc.set d true (.deferred (some []))).set l true (.loop lo)) b=hc b:=λb h1 h2=>by rw [GH.set_ne _ _ _ h1,GH.set_ne _ _ _ h2]
 have hLB:hB.Le ((hc.set d true (.deferred (some []))).set l true (.loop lo)):=(hB0.trans (GH.Le.new hd _ _)).trans (GH.Le.new (by rw [GH.set_ne _ _ _ hne];exact hl) _ _);have hI0:OF J l d lo [] (λb=>Y0 b\/b=l\/b=d) ((hc.set d true (.deferred (some []))).set l true (.loop lo)):=by
  refine ⟨Y0,hJ.stable _ _ hc _ j0 (λb hb=>hL3 b (λe=>nYl (e▸hb)) (λe=>nYd (e▸hb))) hLB,λb=>Iff.rfl,nYl,nYd,hL1,hL2⟩
 have prom:Gn hB (OF J l d lo):=by
  refine ⟨?_,?_⟩
  ·rintro pre X h b ⟨Y,j,hX,_,_,h1,h2⟩ hb;rcases (hX b).1 hb with h3 | rfl | rfl
   ·exact hJ.dom _ _ _ _ j h3
   ·exact ⟨_,_,h1,rfl⟩
   ·exact ⟨_,_,h2,rfl⟩
  ·rintro pre X h h' ⟨Y,j,hX,n1,n2,h1,h2⟩ same lB;refine ⟨Y,hJ.stable _ _ h h' j (λb hb=>same b ((hX b).2 (.inl hb))) lB,hX,n1,n2,?_,?_⟩
   ·rw [same l ((hX l).2 (.inr (.inl rfl)))];exact h1
   ·rw [same d ((hX d).2 (.inr (.inr rfl)))];exact h2
 have yk:QK E.wk hB (.func (.yield l) #[] #[]) t0 (OF J l d lo) (SX Stop l d lo) all:=by
  refine ⟨prom,rfl,?_⟩;rintro pre p post X h v hall ⟨Y,j,hX,n1,n2,h1,h2⟩ lB hsv hvX;have nvl:Ch v≠some l:=λe=>by obtain ⟨_,_,_,q⟩:=hsv.2 l e;rw [h1] at q;cases q
  have nvd:Ch v≠some d:=λe=>by obtain ⟨_,_,_,q⟩:=hsv.2 d e;rw [h2] at q;cases q
  refine PX h1 rfl ?_;have ef:(lo.params.zip #[v]).foldl (λtmps x=>tmps.setIfInBounds x.1 x.2) lo.tmps=t.setIfInBounds par v:=by simp [lo]
  rw [ef];show BI E.wk l E.fn (t.setIfInBounds par v) assign body h _;have hs':=hs.put hpar v;refine OB (N:=E.N) hs'.1 ?_;have e0:(λi=>(t.setIfInBounds par v).getD i undef)=upd O par v:=funext hs'.2;rw [e0];refine K0 ?_ (round l d lo pre p post Y h v hall j lB hl' n1 h1 hsv λb hb=>⟨λq=>(hvX b hb).1 ((hX b).2 (.inl q)),(hvX b hb).2⟩);rintro e σ' ds' ha ⟨rfl,ha1,hb⟩;refine ⟨rfl,lo,ha1,rfl,?_⟩;refine K0 ?_ (hb _ (GH.set_same _ _ _ _) λb hb=>GH.set_ne _ _ _ hb);rintro e σ2 ds2 h3 ⟨g1,Y',g2,g3,g4,g5⟩;have hd3:h3 d=some (true,.deferred (some [])):=g3.box h2 (λq=>q.elim (λq=>q.elim n2 nvd) (λe=>hne e.symm)) rfl;have nl:¬Y' l:=λq=>(g2 l q).elim (λq=>q.elim n1 nvl) λe=>by rw [h1] at e;cases e
  have nd:¬Y' d:=λq=>(g2 d q).elim (λq=>q.elim n2 nvd) λe=>by rw [h2] at e;cases e
  have key:∀(lo2:Loop)(ok:Bool),(if ok then J (pre++[p]) Y' (h3.set l true (.loop lo2))/\lo2=lo else SX Stop l d lo (h3.set l true (.loop lo2)))->E6 hB (OF J l d lo) (SX Stop l d lo) pre (λb=>X b\/Ch v=some b) h [p] (.bool ok) (h3.set l true (.loop lo2)):=by
   intro lo2 ok hok;refine ⟨ok,λb=>Y' b\/b=l\/b=d,rfl,?_,?_,?_,?_,?_⟩
   ·rintro b (hb | rfl | rfl)
    ·exact (g2 b hb).imp (λq=>q.imp (λq=>(hX b).2 (.inl q)) id) id
    ·exact .inl (.inl ((hX _).2 (.inr (.inl rfl))))
    ·exact .inl (.inl ((hX _).2 (.inr (.inr rfl))))
   ·intro b q o hb hn;have nb:b≠l:=λe=>hn (.inl ((hX b).2 (.inr (.inl e))));rw [GH.set_ne _ _ _ nb];exact g3 b q o hb λq=>q.elim (λz=>z.elim (λz=>hn (.inl ((hX b).2 (.inl z)))) λz=>hn (.inr z)) nb
   ·exact g4.upd hl' λb hb=>GH.set_ne _ _ _ hb
   ·rintro rfl;simp only [if_true] at hok;obtain ⟨hj,rfl⟩:=hok;exact ⟨Y',hj,λb=>Iff.rfl,nl,nd,GH.set_same _ _ _ _,by rw [GH.set_ne _ _ _ (Ne.symm hne)];exact hd3⟩
   ·rintro rfl;simpa using hok
  have js:∀(lo2:Loop),J (pre++[p]) Y' h3->J (pre++[p]) Y' (h3.set l true (.loop lo2)):=λlo2 hj=>hJ.store hj nl (λb hb=>GH.set_ne _ _ _ hb) (g4.upd hl' λb hb=>GH.set_ne _ _ _ hb);have ss:∀c (lo2:Loop),Stop c h3->Stop c (h3.set l true (.loop lo2)):=λc lo2 hc=>hS c h3 _ l _ hc g1 λb hb=>GH.set_ne _ _ _ hb;refine ⟨_,g1,?_⟩;cases e with
  | normal=>exact key _ true (by simp only [if_true];exact ⟨js _ g5,rfl⟩)
  | exit id=>exact key _ false (by simp only [Bool.false_eq_true,if_false];exact ⟨_,ss _ _ g5,GH.set_same _ _ _ _,by rw [GH.set_ne _ _ _ (Ne.symm hne)];exact hd3⟩)
  | ret=>exact key _ false (by simp only [Bool.false_eq_true,if_false];exact ⟨_,ss _ _ g5,GH.set_same _ _ _ _,by rw [GH.set_ne _ _ _ (Ne.symm hne)];exact hd3⟩)
  | goto _=>exact g5.elim
  | panic _=>exact g5.elim
  | outgrown=>exact g5.elim
 refine (src _ _ _ _ _ yk hLB hI0).mono ?_;rintro v h' ⟨X',hs',hk,hl2,hor⟩;rcases hor with ⟨Y,j,hX,n1,n2,h1,h2⟩ | ⟨c,hst,h1,h2⟩
 ·refine ⟨lo,h1,rfl,?_⟩;show Q .normal O _ _;have hB':=hl2.upd hl' (λb hb=>GH.set_ne h' true (.loop { lo with state:=.exhausted }) hb);refine (fin d l _ hB' hd' hl' hd (by rw [GH.set_ne _ _ _ (Ne.symm hne)];exact h2)).1 Y (hJ.store j n1 (λb hb=>GH.set_ne _ _ _ hb) hB') λb hb e=>n2 (e▸hb)
 ·refine ⟨_,h1,rfl,?_⟩;have hB':=hl2.upd hl' (λb hb=>GH.set_ne h' true (.loop { { lo with state:=.done,pending:=some c } with state:=.exhausted }) hb)
  have:=(fin d l _ hB' hd' hl' hd (by rw [GH.set_ne _ _ _ (Ne.symm hne)];exact h2)).2 c (hS c h' _ l _ hst h1 λb hb=>GH.set_ne _ _ _ hb)
  cases c with
  | exit id=>exact this
  | ret=>exact this
  | _=>exact this.elim
end
def JA(l:List Int)(k:Int):Bool:=l.any (λx=>decide (k=x))
def Ba(jobs:List Int):Nat->List Int->List (List Int)
 | 0,l=>[l]
 | f+1,l=>l ::jobs.flatMap λk=>if JA l k=true then [] else Ba jobs f (l++[k])
def CT(jobs:List Int):Nat->List Int->Int->List (List Int)
 | 0,_,_=>[]
 | f+1,l,k=>if JA l k=true then [] else Ba jobs f (l++[k])
theorem HM(jobs:List Int)(f:Nat)(l:List Int):Ba jobs f l=l ::jobs.flatMap (CT jobs f l):=by
 cases f with
 | zero=>simp [Ba,CT]
 | succ f=>rfl
def Df(jobs:List Int):List (List Int):=Ba jobs jobs.length []
def L2(jobs l:List Int):Nat:=(jobs.filter λk=> !JA l k).length
theorem hasI_app(l:List Int)(k j:Int):JA (l++[k]) j=(JA l j || decide (j=k)):=by simp [JA]
theorem OT{jobs l:List Int}{k:Int}(hk:k ∈ jobs)(h:JA l k=false):L2 jobs (l++[k])<L2 jobs l:=by
 unfold L2;have key:∀js:List Int,(js.filter λj=> !JA (l++[k]) j).length<=(js.filter λj=> !JA l j).length/\(k ∈ js->(js.filter λj=> !JA (l++[k]) j).length<(js.filter λj=> !JA l j).length):=by
  intro js
  induction js with
  | nil=>exact ⟨Nat.le_refl _,λe=>by cases e⟩
  | cons j js ih=>
   obtain ⟨ih1,ih2⟩:=ih;rw [List.filter_cons,List.filter_cons,hasI_app];by_cases e:j=k
   ·subst e;simp only [h,Bool.false_or,decide_true,Bool.not_true,Bool.false_eq_true,if_false,Bool.not_false,if_true,List.length_cons];exact ⟨aA,λ_=>aA⟩
   ·rw [decide_eq_false e,Bool.or_false];split
    ·simp only [List.length_cons];exact ⟨aA,λq=>by have:=ih2 ((List.mem_cons.1 q).resolve_left λz=>e z.symm);omega⟩
    ·exact ⟨ih1,λq=>ih2 ((List.mem_cons.1 q).resolve_left λz=>e z.symm)⟩
 exact (key jobs).2 hk
theorem XJ{jobs:List Int}{i:Nat}{F:Int->List (List Int)}(hi:i<jobs.length):(jobs.take (i+1)).flatMap F=(jobs.take i).flatMap F++F (jobs.getD i 0):=by
 rw [Cq 0 hi,List.flatMap_append];simp
theorem Cf.job{all pre:List (List Int)}{jobs:List Int}{f i:Nat}{l:List Int}(w:Cf all pre (Ba jobs f l))(hi:i<jobs.length):Cf all (pre++[l]++(jobs.take i).flatMap (CT jobs f l)) (CT jobs f l (jobs.getD i 0)):=by
 rw [HM] at w;have w2:Cf all pre ([l]++((jobs.take i).flatMap (CT jobs f l)++(CT jobs f l (jobs.getD i 0)++(jobs.drop (i+1)).flatMap (CT jobs f l)))):=by
  rw [<-List.append_assoc (List.flatMap _ _),<-XJ hi,<-List.flatMap_append,List.take_append_drop];exact w
 exact (w2.right.right).left
theorem Cf.head{all pre:List (List Int)}{jobs:List Int}{f:Nat}{l:List Int}(w:Cf all pre (Ba jobs f l)):Cf all pre [l]:=by
 rw [HM] at w;exact Cf.left (a:=[l]) w
section
variable {jobs l:List Int} {f f' i:Nat} {k:Int} {all pre:List (List Int)}
theorem XK(hk:k ∈ jobs)(h:JA l k=false)(hu:L2 jobs l<=f):∃f',f=f'+1:=⟨f-1,by have:=OT hk h;omega⟩
theorem Mp(hf:f=f'+1)(h:JA l k=false):CT jobs f l k=Ba jobs f' (l++[k]):=by
 subst hf;exact if_neg (by rw [h];simp)
theorem R7(h:JA l k=true):CT jobs f l k=[]:=by
 cases f with
 | zero=>rfl
 | succ f=>exact if_pos h
theorem R8(hi:i<jobs.length)(h:JA l (jobs.getD i 0)=true):pre++[l]++(jobs.take (i+1)).flatMap (CT jobs f l)=pre++[l]++(jobs.take i).flatMap (CT jobs f l):=by
 rw [XJ hi,R7 h,List.append_nil]
theorem UI(hi:i<jobs.length)(hf:f=f'+1)(h:JA l (jobs.getD i 0)=false):pre++[l]++(jobs.take (i+1)).flatMap (CT jobs f l)=(pre++[l]++(jobs.take i).flatMap (CT jobs f l))++Ba jobs f' (l++[jobs.getD i 0]):=by
 rw [XJ hi,Mp hf h,<-List.append_assoc]
theorem roundsEnd(hi:jobs.length<=i):pre++Ba jobs f l=pre++[l]++(jobs.take i).flatMap (CT jobs f l):=by
 rw [List.take_of_length_le hi,HM];simp
theorem Cf.go(w:Cf all pre (Ba jobs f l))(hi:i<jobs.length)(hf:f=f'+1)(h:JA l (jobs.getD i 0)=false):Cf all (pre++[l]++(jobs.take i).flatMap (CT jobs f l)) (Ba jobs f' (l++[jobs.getD i 0])):=by
 have z:=w.job hi
 rwa [Mp hf h] at z
end
end Go.Ns
namespace Go.Ns
open Go.Conc
theorem Hq.mem{h:GH}{l:List Sl}(a:Hq h l){x:Sl}(hx:x ∈ l):AI h x.1 1 eI x.2:=by
 obtain ⟨i,hi,e⟩:=List.mem_iff_getElem.1 hx;have z:=a i;rw [List.getD_eq_getElem?_getD,List.getElem?_eq_getElem hi] at z;have z2:AI h l[i].1 1 eI l[i].2:=z;rw [<-e];exact z2
theorem B0.all{h:GH}{t:TypeId}{l:List Sl}(a:B0 h t l):Hq h l:=λk=>(a k).1
theorem B0.drop1{h:GH}{t:TypeId}{l:List Sl}(a:B0 h t l):B0 h t (l.drop 1):=λk=>by
 rw [List.getD_eq_getElem?_getD,List.getElem?_drop,<-List.getD_eq_getElem?_getD];exact a (1+k)
theorem XL{l:List Sl}{k:Nat}(h:k<l.length-1):(l.drop 1).getD k Sl.z ∈ l:=List.mem_of_mem_drop (Bj (by rw [List.length_drop];exact h))
section
variable (G:List Int->Int) (l:List (List Int))
def EG:Nat->List Int×Int
 | 0=>(l.getD 0 [],G (l.getD 0 []))
 | k+1=>if G ((l.drop 1).getD k [])<(EG k).2 then ((l.drop 1).getD k [],G ((l.drop 1).getD k [])) else EG k
def Dv:List Int:=(EG G l (l.length-1)).1
end
section
variable {G:List Int->Int} {l:List Sl} {k:Nat}
theorem B7(l:List Sl):(Ao l).length=l.length:=List.length_map _
theorem OU(hk:k<l.length-1):((Ao l).drop 1).getD k []=((l.drop 1).getD k Sl.z).2:=by
 have e:(Ao l).drop 1=Ao (l.drop 1):=by unfold Ao;rw [List.map_drop]
 rw [e,DA (by rw [List.length_drop];exact hk)]
theorem Mq(hk:k<l.length-1)(h:G ((l.drop 1).getD k Sl.z).2<(EG G (Ao l) k).2):EG G (Ao l) (k+1)=(((l.drop 1).getD k Sl.z).2,G ((l.drop 1).getD k Sl.z).2):=by
 rw [EG,OU hk,if_pos h]
theorem Mr(hk:k<l.length-1)(h:¬G ((l.drop 1).getD k Sl.z).2<(EG G (Ao l) k).2):EG G (Ao l) (k+1)=EG G (Ao l) k:=by
 rw [EG,OU hk,if_neg h]
theorem Vb(hk:k=l.length-1):Dv G (Ao l)=(EG G (Ao l) k).1:=by unfold Dv;rw [B7,hk]
end
theorem Jv:∀(n k:Nat),k<n->(BQ n).getD k 0=(k:Int)
 | 0,k,h=>absurd h (Nat.not_lt_zero _)
 | n+1,k,h=>by
  have hl:=CQ n;rw [BQ,List.getD_eq_getElem?_getD];by_cases e:k<n
  ·rw [List.getElem?_append_left aA,<-List.getD_eq_getElem?_getD];exact Jv n k e
  ·have e2:k=n:=aA
   subst e2;rw [List.getElem?_append_right aA,hl,Nat.sub_self];rfl
theorem QL{n:Nat}{x:Int}(h:x ∈ BQ n):0<=x/\x<n:=by
 obtain ⟨i,hi,e⟩:=List.mem_iff_getElem.1 h;have hl:=CQ n
 have:=Jv n i aA
 rw [List.getD_eq_getElem?_getD,List.getElem?_eq_getElem hi,Option.getD_some,e] at this;omega
theorem Ki{jobs:List Int}:∀(f:Nat)(l:List Int),(∀x ∈ l,x ∈ jobs)->∀r ∈ Ba jobs f l,(∀x ∈ r,x ∈ jobs)/\r.length<=l.length+f
 | 0,l,h,r,hr=>by
  rw [Ba,List.mem_singleton] at hr;subst hr;exact ⟨h,Nat.le_refl _⟩
 | f+1,l,h,r,hr=>by
  rw [Ba,List.mem_cons] at hr;rcases hr with rfl | hr
  ·exact ⟨h,aA⟩
  ·obtain ⟨k,hk,hr⟩:=List.mem_flatMap.1 hr;split at hr
   ·cases hr
   ·have:=Ki f (l++[k]) (λx hx=>by
     rcases List.mem_append.1 hx with hx | hx
     ·exact h x hx
     ·rw [List.mem_singleton.1 hx];exact hk) r hr
    refine ⟨this.1,?_⟩;have e:=this.2;rw [List.length_append,List.length_singleton] at e;omega
theorem UJ{jobs r:List Int}(h:r ∈ Df jobs):(∀x ∈ r,x ∈ jobs)/\r.length<=jobs.length:=by
 have:=Ki jobs.length [] (λx hx=>by cases hx) r h
 simpa using this
def UK(nj:Nat)(l:List Int):Prop:=(∀k,k<l.length->0<=l.getD k 0/\l.getD k 0<nj)/\l.length<=4
theorem Kj{n:Nat}{jobs r:List Int}(hj:∀x ∈ jobs,0<=x/\x<(n:Int))(hl:jobs.length<=4)(h:r ∈ Df jobs):UK n r:=by
 obtain ⟨h1,h2⟩:=UJ h;exact ⟨λk hk=>hj _ (h1 _ (Bj hk)),aA⟩
theorem Kk{jobs:List Int}(hj:jobs.length<=4):∀(f:Nat)(l:List Int),f<=4->(Ba jobs f l).length<=5 ^ f*1
 | 0,l,_=>Nat.le_refl _
 | f+1,l,hf=>by
  have key:∀js:List Int,(js.flatMap λk=>if JA l k=true then [] else Ba jobs f (l++[k])).length<=js.length*5 ^ f:=by
   intro js
   induction js with
   | nil=>simp
   | cons j js ih=>
    rw [List.flatMap_cons,List.length_append,List.length_cons,Nat.add_mul,Nat.one_mul,Nat.add_comm];refine Nat.add_le_add ih ?_;split
    ·exact Nat.zero_le _
    ·have:=Kk hj f (l++[j]) aA;omega
  rw [Ba,List.length_cons];have h1:=key jobs;have h2:jobs.length*5 ^ f<=4*5 ^ f:=Nat.mul_le_mul_right _ hj;have h3:1<=5 ^ f:=Nat.one_le_pow _ _ aC;rw [Nat.pow_succ];omega
theorem H3{jobs:List Int}(hj:jobs.length<=4):(Df jobs).length<=625:=by
 have h:=Kk hj jobs.length [] hj;have h2:5 ^ jobs.length<=5 ^ 4:=Nat.pow_le_pow_right aC hj;unfold Df;omega
end Go.Ns
namespace Go.Ns
open Go.Conc
section
variable {P:Program} {M:Type} {F:NV P M} {i:Option (C0 M)} {O:Nat->Value} {ds:List Deferred} {h:GH} {Q:Pv M}
theorem trI_td{id:Nat}{l:List Oper}(n:Nat)(fl:Bool)(π:List Nat)(hm:P.follows .mixedOrders=true)
  (ok:Pd l (l.take n) 0 [] (λcls=>Pe P F.N l n cls fl (dK π))=true) (x:TD (F.env i) l n fl h ds (λ_ _ _=>True) (λσ' h'=>Gp F l.toArray (l.drop n) i σ' ds h' Q) (dK π) O h):Ow F (.region id l.toArray true) i O ds h Q:=by
 obtain ⟨cls,h1⟩:=II ok;intro b k cs L t hb hr hl hs hq;exact ZM (E:=F.env i) n cls fl (dK π) hm (λ_ _ _ _ _ y=>y) trivial h1 x hb hr hs λσ' h' f t' ht'=>f n b k cs L t' (λj=>aD) hb hr hl ht' hq
def Jw(P:Program):Frame:={ (default:Frame) with fn:=P.funcs.size,defers:=[],mode:=.panicking [goexitEntry] }
theorem quit_bot:QuitsIn P 1 (G (Jw P) []):=.inr ⟨rfl,{ G (Jw P) [] with status:=.finished },λw=>by
 show unwind P false (Jw P) [] none w=_;have hcat:(Jw P).catches P=false:=by
  unfold Frame.catches
  have:P.funcs[(Jw P).fn]? =none:=Array.getElem?_eq_none (Nat.le_refl _)
  rw [this];rfl
 have hd:(Jw P).defers=[]:=rfl;have hmd:(Jw P).mode=.panicking [goexitEntry]:=rfl;unfold unwind;simp only [hd,hmd,hcat]
 rfl,rfl⟩
theorem Vc{fn:Func}{f:FuncId}{args:Array Value}{t:Array Value}{ops:Array Oper}(hf:P.funcs[f]? =some fn)(hres:fn.results=#[]):QuitsIn P 4 (G (Cu (Frame.enter P f args .deferred) t [] [.inRegion ops []]) [Jw P]):=by
 refine .inr ⟨rfl,G (Cu (Frame.enter P f args .deferred) t [] []) [Jw P],λw=>by rw [A7];simp [stepG.exec,Cu,G],?_⟩;refine .inr ⟨rfl,G (E4 (Frame.enter P f args .deferred) t [] []) [Jw P],λw=>by rw [A7];simp [stepG.exec,Cu,E4,G,Frame.enter],?_⟩;refine .inr ⟨rfl,G (Jw P) [],λw=>?_,quit_bot⟩;show unwind P false (E4 (Frame.enter P f args .deferred) t [] []) [Jw P] none w=_;have hfn:(E4 (Frame.enter P f args .deferred) t [] []).fn=f:=rfl;have hk:(E4 (Frame.enter P f args .deferred) t [] []).kind=.deferred:=rfl;have hmd:(E4 (Frame.enter P f args .deferred) t [] []).mode=.returning:=rfl;have hd:(E4 (Frame.enter P f args .deferred) t [] []).defers=[]:=rfl;have r1:∀t,(results fn t).runT P w #[]=(.ok (.tuple #[]) w,#[]):=λt=>by
  unfold results;rw [hres];simp only [Array.mapM_empty];rfl
 unfold unwind;simp only [hd,hmd,hfn,hf,r1,GStep.after,doReturn,hk,seen_none];rfl
def Jx(F:NV P M)(R:Code)(args:Array Value)(i:Option (C0 M))(O:Nat->Value)(h:GH):Prop:=∀t,Bi t F.N O->(F.wk i).K (G (Cu (Frame.enter P F.fn args .deferred) t [] [.code R]) [Jw P]) h
theorem Nd{fn:Func}{c R:Code}{s:C0 M}{ars cap args:Array Value}(hm:F.main=false)(hrd:F.rd=none)(ha:ars++cap=args)(hf:P.funcs[F.fn]? =some fn)(hc:AO fn=true)(hb:fn.body=some (.seq c R))(hN:F.N=fn.ntmps)(hsz:args.size<=fn.ntmps)(hs:¬s.isDone)
  (x:Ow F c (some s) (λi=>args.getD i undef) [] h λi e O ds h=>e=.normal/\ds=[]/\Jx F R args i O h):Fj P F.Rep F.W.K s false (born P { target:=.fn (.func F.fn) cap,args:=ars }) h:=by
 have hwk:∀s,(F.wk (some s)).K=Ek P false (Iz P F.Rep F.W.K s false):=λs=>by show Ek P F.main (Iz P F.Rep F.W.K s F.main)=_;rw [hm]
 rw [HR hs];refine MK _ _ _ _ rfl λw f=>⟨G (Frame.enter P F.fn args .deferred) [Jw P],w,#[],h,?_,Bu.refl f,?_⟩
 ·subst ha;have hi:(invoke (.fn (.func F.fn) cap) ars).runT P w #[]=(.ok (.enter F.fn (ars++cap)) w,#[]):=UC hf hc w;show callDeferred P (Jw P) [] none { target:=.fn (.func F.fn) cap,args:=ars } w=_;unfold callDeferred;rw [if_neg aD];simp only [hi,seen_none];rfl
 have e0:Frame.enter P F.fn args .deferred=Cu (Frame.enter P F.fn args .deferred) (args++Array.replicate (fn.ntmps-args.size) undef) [] [.code (.seq c R)]:=by simp [Frame.enter,Cu,hf,hb]
 rw [e0,<-hwk s];refine Wk.go (Cu (Frame.enter P F.fn args .deferred) (args++Array.replicate (fn.ntmps-args.size) undef) [] (.code c ::.code R ::[])) (λw=>by rw [A7];simp [stepG.exec,Cu,G]) ?_;refine x (Frame.enter P F.fn args .deferred) [.code R] [Jw P] (λ_ _ _ _ _=>False) _ rfl hrd.symm (λi=>⟨λ_ _ _ q=>q.elim,λ_ _ _ _ q=>q.elim,λ_ _ _ _ _ _ q=>q.elim⟩) ⟨by rw [hN];simp;omega,λi=>?_⟩ ?_
 ·by_cases hi:i<args.size
  ·simp [Array.getD_eq_getD_getElem?,Array.getElem?_append_left hi]
  ·simp only [Array.getD_eq_getD_getElem?];rw [Array.getElem?_append_right aA,Array.getElem?_eq_none (show args.size<=i by omega),Array.getElem?_replicate];split <;> rfl
 ·rintro i e O ds h' ⟨rfl,rfl,z⟩ t' ht';exact z t' ht'
theorem last_send{fn:Func}{id:Nat}{o1 o2:Oper}{args:Array Value}{c:Nat}{m:M}{v z:Value}{hm:GH}{h1:GH}(hmn:F.main=false)(hrd:F.rd=none)(hf:P.funcs[F.fn]? =some fn)(hres:fn.results=#[])
  (hg1:o1.guard=none) (hd1:DD o1.dst F.N=true) (hg2:o2.guard=none) (hdf1:DH o1.op=false) (hdf:DH o2.op=false) (hd2:DD o2.dst F.N=true)
  (x:BX (F.env (some (.send c m .done))) o1 O [] h λσ' ds' h'=>ds'=[]/\(∀w,(execOp (AQ σ') o2).runT P w #[]=(.ok (.comm #[scase c v z] true .send) w,#[]))/\GH.Split h' h1 hm/\F.Rep c m v hm) :
  Jx F (.region id [o1,o2].toArray false) args (some (.send c m .done)) O h:=by
 intro t hs;refine Wk.go (Cu (Frame.enter P F.fn args .deferred) t [] (.inRegion [o1,o2].toArray [0,1] ::[])) (λw=>by rw [A7];simp [stepG.exec,Cu,G,List.range_eq_range',Array.range];rfl) ?_;refine K3 (E:=F.env (some (.send c m .done))) (o:=o1) (rest:=[1]) rfl (by simp [Region.wanted,hg1]) (.inr hdf1) hd1 hs x ?_;rintro σ' ds' h' ⟨rfl,hr,hsp,hrep⟩ t' ht';refine Ek.stop ⟨_,[Jw P],v,z,hm,h1,rfl,⟨λw fw=>?_,hsp,hrep,4,?_⟩⟩
 ·rw [hmn];exact UA ht' rfl (by simp [Region.wanted,hg2]) (.inr hdf) (hr w)
 ·rw [DI (ops:=[o1,o2].toArray) (i:=1) (o:=o2) rfl];exact Vc hf hres
theorem run_close{dst:Option Nat}{x:Operand}{tys:Array TypeId}{ty:TypeId}{pos:String}{af:Array Edge}{gd:Option (Nat×Bool)}{ch s r:Nat}{w:World}(hx:AQ O x=.chan (some ch))(hw:w.heap[ch]? =some (.chan 0 #[] false s r false)) :
  (execOp (AQ O) ⟨dst,.call ⟨.builtin .close,#[x],tys⟩,ty,pos,af,gd⟩).runT P w #[]=(.ok (.value (.tuple #[])) { w with heap:=w.heap.setIfInBounds ch (.chan 0 #[] true s r false) },#[⟨.obj ch,false,true⟩,⟨.obj ch,true,true⟩]):=by
 have q:execOp (AQ O) ⟨dst,.call ⟨.builtin .close,#[x],tys⟩,ty,pos,af,gd⟩=builtin .close tys ty (#[x].map fun | .const _=>true | _=>false) (#[x].map (AQ O)):=by
  show (resolve (AQ O) _ ty).bind _=_;unfold resolve;rfl
 have e:(#[x].map (AQ O))=#[Value.chan (some ch)]:=by simp [hx]
 rw [q,e];show Sem.runT P (.getObj ch λo=>_) w #[]=_;unfold Sem.runT;rw [hw];show Sem.runT P (.setObj ch (.chan 0 #[] true s r false) _) w _=_;unfold Sem.runT;rw [hw];rfl
theorem QM{fn:Func}{id:Nat}{o1:Oper}{dst:Option Nat}{xo:Operand}{tys:Array TypeId}{ty:TypeId}{pos:String}{af:Array Edge}{args:Array Value}{c:Nat}(hmn:F.main=false)(hf:P.funcs[F.fn]? =some fn)(hres:fn.results=#[])
  (hg1:o1.guard=none) (hd1:DD o1.dst F.N=true) (hdf1:DH o1.op=false)
  (x:BX (F.env (some (.close c .done))) o1 O [] h λσ' ds' _=>ds'=[]/\AQ σ' xo=.chan (some c)) :
  Jx F (.region id [o1,⟨dst,.call ⟨.builtin .close,#[xo],tys⟩,ty,pos,af,none⟩].toArray false) args (some (.close c .done)) O h:=by
 intro t hs;refine Wk.go (Cu (Frame.enter P F.fn args .deferred) t [] (.inRegion [o1,⟨dst,.call ⟨.builtin .close,#[xo],tys⟩,ty,pos,af,none⟩].toArray [0,1] ::[])) (λw=>by rw [A7];simp [stepG.exec,Cu,G,List.range_eq_range',Array.range];rfl) ?_;refine K3 (E:=F.env (some (.close c .done))) (o:=o1) (rest:=[1]) rfl (by simp [Region.wanted,hg1]) (.inr hdf1) hd1 hs x ?_;rintro σ' ds' h' ⟨rfl,hx⟩ t' ht';refine Ek.stop ⟨_,[Jw P],Cu (Frame.enter P F.fn args .deferred) (Wh t' dst (.tuple #[])) [] [.inRegion [o1,⟨dst,.call ⟨.builtin .close,#[xo],tys⟩,ty,pos,af,none⟩].toArray []],[Jw P],rfl,⟨λw s r fw hw=>?_,rfl,4,Vc hf hres⟩⟩;rw [hmn,Pw ht' (ops:=[o1,⟨dst,.call ⟨.builtin .close,#[xo],tys⟩,ty,pos,af,none⟩].toArray) (n:=1) (o:=⟨dst,.call ⟨.builtin .close,#[xo],tys⟩,ty,pos,af,none⟩) rfl (by simp [Region.wanted]) (.inr rfl)];simp only [stepG.apply,run_close hx hw,if_true];have hk:((Cu (Frame.enter P F.fn args .deferred) t' [] [.inRegion [o1,⟨dst,.call ⟨.builtin .close,#[xo],tys⟩,ty,pos,af,none⟩].toArray [1]]).kind==CallKind.early)=false:=rfl;rw [DI (ops:=[o1,⟨dst,.call ⟨.builtin .close,#[xo],tys⟩,ty,pos,af,none⟩].toArray) (i:=1) rfl];simp only [hk,Bool.false_eq_true,if_false];show GStep.go _ _ (seen P _ _++ #[])=_;rw [W0];rfl
end
end Go.Ns
namespace Go.Ns
open Go.Conc
theorem B0.at{h:GH}{t:TypeId}{l:List Sl}(a:B0 h t l){x:Sl}(hx:x ∈ l):B8 h t x.1 x.2:=by
 obtain ⟨i,hi,e⟩:=List.mem_iff_getElem.1 hx;have z:=a i;rw [List.getD_eq_getElem?_getD,List.getElem?_eq_getElem hi] at z;have z2:B8 h t l[i].1 l[i].2:=z;rw [<-e];exact z2
theorem B0.of{h:GH}{t:TypeId}{l:List Sl}(a:∀x ∈ l,B8 h t x.1 x.2):B0 h t l:=λk=>by
 by_cases hk:k<l.length
 ·exact a _ (Bj hk)
 ·rw [BM aA];exact B8.nil _ _
theorem B0.grown{V:Type}{h h' h0:GH}{v v':Value}{t t':TypeId}{n:Nat}{enc:V->Array Value}{ys:List V}(g:GU h h' v v')(o:AM h0 h v t' n enc ys)(ne:t'≠t){l:List Sl}(x:B0 h t l):B0 h' t l:=λk=>(x k).grown g o ne
theorem B0.store{h h':GH}{t t':TypeId}{l:List Sl}{r:Nat}{p:Bool}{c:Array Value}{f:Nat×Nat}(x:B0 h t l)(hr:h r=some (p,.cells c t' f))(ne:t'≠t)(ho:∀b,b≠r->h' b=h b):B0 h' t l:=λk=>(x k).store hr ne ho
theorem B8.storeL{h h':GH}{t:TypeId}{w:Value}{xs:List Int}{r:Nat}{p:Bool}{lo:Loop}(x:B8 h t w xs)(hr:h r=some (p,.loop lo))(ho:∀b,b≠r->h' b=h b):B8 h' t w xs:=
 x.same λb hb=>ho b λe=>by
  obtain ⟨p2,c2,f2,q⟩:=x.2 b hb;rw [e,hr] at q;cases q
def Sx(hB:GH)(r:Nat)(T t t0:TypeId)(F:List Int->Bool)(pre:List (List Int))(Y:Nat->Prop)(h:GH):Prop:=
 ∃w l',h r=some (true,.cells #[w] T (0,0))/\AM hB h w t 1 H1 l'/\Al w r/\hB r=none/\Ao l'=pre.filter F/\B0 h t0 l'/\∀b,Y b↔b=r\/Ch w=some b\/∃x ∈ l',Ch x.1=some b
section
variable {hB h h' ha hb:GH} {r:Nat} {T t t0:TypeId} {F:List Int->Bool} {pre:List (List Int)} {p:List Int} {w w' v:Value} {Y:Nat->Prop} {l':List Sl}
theorem QN(hB:GH)(r:Nat)(T t t0:TypeId)(F:List Int->Bool):Gn hB (Sx hB r T t t0 F):=by
 refine ⟨?_,?_⟩
 ·rintro pre Y h b ⟨w,l',h1,h2,h3,h0,h5,h6,h4⟩ hb;rcases (h4 b).1 hb with rfl | h7 | ⟨x,hx,h7⟩
  ·exact ⟨_,_,h1,rfl⟩
  ·obtain ⟨c,hc⟩:=h2.cellsAt b h7;exact ⟨_,_,hc,rfl⟩
  ·obtain ⟨q,c,f,hc⟩:=(h6.at hx).2 b h7;exact ⟨_,_,hc,rfl⟩
 ·rintro pre Y h h' ⟨w,l',h1,h2,h3,h0,h5,h6,h4⟩ same lB;refine ⟨w,l',by rw [same r ((h4 r).2 (.inl rfl))];exact h1,h2.keep λb o hb ho=>by rw [same b ((h4 b).2 (.inr (.inl hb)))];exact ho,h3,h0,h5,.of λx hx=>(h6.at hx).same λb hb=>same b ((h4 b).2 (.inr (.inr ⟨x,hx,hb⟩))),h4⟩
theorem OV(x:h r=some (true,.cells #[.slice none 0 0] T (0,0)))(h0:hB r=none):Sx hB r T t t0 F [] (λb=>b=r) h:=
 ⟨_,[],x,AM.nil _ _ _ _ _,Al.nil,h0,rfl,B0.nil _ _,λ_=>⟨.inl,λq=>q.elim id λe=>e.elim (λe=>by cases e) λ⟨_,e,_⟩=>by cases e⟩⟩
theorem Sy(hY:∀b,Y b↔b=r\/Ch w=some b\/∃x ∈ l',Ch x.1=some b)(g:GU ha hb w w')(hn:∀q,ha q=none->h q=none)(x:h' r=some (true,.cells #[w'] T (0,0)))(o:AM hB h' w' t 1 H1 (l'++[(v,p)]))(f:Al w' r)(h0:hB r=none)
  (hl:Ao l'=pre.filter F) (hp:F p=true) (ta:B0 h' t0 (l'++[(v,p)])):∃Y',(∀b,Y' b->(Y b\/Ch v=some b)\/h b=none)/\Sx hB r T t t0 F (pre++[p]) Y' h':=by
 refine ⟨λb=>b=r\/Ch w'=some b\/∃x ∈ l'++[(v,p)],Ch x.1=some b,?_,w',_,x,o,f,h0,?_,ta,λ_=>Iff.rfl⟩
 ·rintro b (rfl | hb | ⟨y,hy,hb⟩)
  ·exact .inl (.inl ((hY _).2 (.inl rfl)))
  ·rcases g.2 with e | ⟨⟨q,e1,e2⟩,_⟩
   ·exact .inl (.inl ((hY _).2 (.inr (.inl (by rw [<-e];exact hb)))))
   ·rw [e1] at hb;cases hb;exact .inr (hn _ e2)
  ·rcases List.mem_append.1 hy with hy | hy
   ·exact .inl (.inl ((hY _).2 (.inr (.inr ⟨y,hy,hb⟩))))
   ·rw [List.mem_singleton.1 hy] at hb;exact .inl (.inr hb)
 ·rw [JJ,hl,List.filter_append];simp [Ao,hp]
theorem XM(hY:∀b,Y b↔b=r\/Ch w=some b\/∃x ∈ l',Ch x.1=some b)(x:h' r=some (true,.cells #[w] T (0,0)))(o:AM hB h' w t 1 H1 l')(f:Al w r)(h0:hB r=none)(hl:Ao l'=pre.filter F)(hp:F p=false)(ta:B0 h' t0 l') :
  ∃Y',(∀b,Y' b->(Y b\/Ch v=some b)\/h b=none)/\Sx hB r T t t0 F (pre++[p]) Y' h':=
 ⟨Y,λ_ q=>.inl (.inl q),w,l',x,o,f,h0,by rw [hl,List.filter_append];simp [hp],ta,hY⟩
end
def tVal:D3->Value
 | .job i=>.int .i64 i
 | .res i b=>.agg #[.int .i64 i,.bool b]
 | .tick=>.bool true
def tOK(n:Nat):D3->Prop
 | .job i=>i<n
 | .res i _=>i<n
 | .tick=>True
def Ox(n:Nat):Nat->D3->Value->GH->Prop:=λ_ m v hm=>v=tVal m/\tOK n m/\hm=λ_=>none
theorem GH.split_none(h:GH):GH.Split h h (λ_=>none) where
 left:=λb p o hb=>⟨p,hb,id⟩
 right:=λb p o hb=>by cases hb
 one:=λ_ _ _ _ hb=>by cases hb
 two:=λ_ _ _ hb _=>by cases hb
section
variable {cj co cd n k:Nat} {ok:Nat->Bool}
theorem feed_some(h:k<n):some (Hr cj (n-k) k)=some (.send cj (.job k) (Hr cj (n-(k+1)) (k+1))):=by
 rw [show n-k=(n-(k+1))+1 by omega];rfl
theorem feed_end(h:n<=k):some (Hr cj (n-k) k)=some (.close cj .done):=by rw [show n-k=0 by omega];rfl
theorem Vd:∀m k,¬(Hr cj m k).isDone
 | 0,_=>id
 | _+1,_=>id
theorem Ve:∀m,¬(Fs cj co cd ok m).isDone
 | 0=>id
 | _+1=>id
theorem workF_not{m:Nat}:∀o,¬(VQ co cd ok (Fs cj co cd ok m) o).isDone
 | none=>id
 | some (.job _)=>id
 | some (.res _ _)=>id
 | some .tick=>id
theorem S0:∀t,¬(Ef co cd t).isDone
 | 0=>id
 | _+1=>id
theorem XN{t:Nat}:∀o,¬(NW (Ef co cd t) o).isDone
 | none=>id
 | some (.job _)=>id
 | some (.res _ _)=>id
 | some .tick=>S0 t
theorem Vf:∀m R,¬(Ft co ok m R).isDone
 | 0,_=>id
 | _+1,_=>id
theorem ZX{c:Prop}[Decidable c]{a b:C0 D3}(ha:¬a.isDone)(hb:¬b.isDone):¬(if c then a else b).isDone:=by split <;> assumption
theorem mainF_not{m:Nat}{R:List Nat}:∀o,¬(Ik ok R (Ft co ok m) o).isDone
 | none=>ZX id id
 | some (.job _)=>id
 | some .tick=>id
 | some (.res _ _)=>ZX (Vf _ _) id
theorem Vg:∀m,¬(IO cj co cd n ok m).isDone
 | 0=>id
 | _+1=>id
theorem XO(h:k<3):some (Ef co cd (3-k))=some (.recv cd (NW (Ef co cd (3-(k+1))))):=by
 rw [show 3-k=(3-(k+1))+1 by omega];rfl
theorem close_end(h:3<=k):some (Ef co cd (3-k))=some (.close co .done):=by rw [show 3-k=0 by omega];rfl
theorem crew_some(h:k<3):some (IO cj co cd n ok (3-k))=some (.spawn (Fs cj co cd ok (n+1)) (IO cj co cd n ok (3-(k+1)))):=by
 rw [show 3-k=(3-(k+1))+1 by omega];rfl
theorem crew_end(h:3<=k):some (IO cj co cd n ok (3-k))=some (.spawn (Ef co cd 3) (Ft co ok (n+1) (List.range n))):=by rw [show 3-k=0 by omega];rfl
end
def UL(n:Nat)(ok:Nat->Bool)(R:List Nat):List Bool:=(List.range n).map λi=>if i ∈ R then false else ok i
theorem ZY(n:Nat)(ok:Nat->Bool)(R:List Nat):(UL n ok R).length=n:=by unfold UL;rw [List.length_map,List.length_range]
theorem isL_start(n:Nat)(ok:Nat->Bool):UL n ok (List.range n)=List.replicate n false:=by
 unfold UL;refine List.ext_getElem aD λi h1 h2=>?_
 have:i<n:=by simpa using h1
 simp [this]
theorem isL_put{n i:Nat}{ok:Nat->Bool}{R:List Nat}(hR:R.Nodup):(UL n ok R).set i (ok i)=UL n ok (R.erase i):=by
 unfold UL;refine List.ext_getElem aD λj h1 h2=>?_;rw [List.getElem_set];simp only [List.getElem_map,List.getElem_range,List.Nodup.mem_erase_iff hR];by_cases e:i=j
 ·subst e;simp
 ·rw [if_neg e]
  have:j≠i:=λq=>e q.symm
  simp [this]
theorem ZZ{n:Nat}{ok:Nat->Bool}{k:Nat}(hk:k<n):(UL n ok []).getD k false=ok k:=by
 unfold UL;rw [List.getD_eq_getElem?_getD,List.getElem?_map,List.getElem?_range hk];simp
def Jy(fl:List Sl)(ok:Nat->Bool):Nat->List Sl
 | 0=>[]
 | k+1=>if ok k=true then Jy fl ok k++[fl.getD k Sl.z] else Jy fl ok k
theorem selS_t{fl:List Sl}{ok:Nat->Bool}{k:Nat}(h:ok k=true):Jy fl ok (k+1)=Jy fl ok k++[fl.getD k Sl.z]:=if_pos h
theorem selS_f{fl:List Sl}{ok:Nat->Bool}{k:Nat}(h:ok k=false):Jy fl ok (k+1)=Jy fl ok k:=if_neg (by rw [h];simp)
theorem Vh(fl:List Sl)(ok:Nat->Bool):∀k,(Jy fl ok k).length<=k
 | 0=>Nat.le_refl _
 | k+1=>by
  have:=Vh fl ok k
  unfold Jy;split
  ·rw [List.length_append,List.length_singleton];omega
  ·omega
theorem QO{fl:List Sl}{G:List Int->Bool}:∀k,k<=fl.length->Ao (Jy fl (λi=>G (fl.getD i Sl.z).2) k)=((Ao fl).take k).filter G
 | 0,_=>rfl
 | k+1,h=>by
  have ih:=QO (fl:=fl) (G:=G) k aA;have e:(Ao fl).take (k+1)=(Ao fl).take k++[(fl.getD k Sl.z).2]:=by rw [Cq [] (by rw [CN];omega),DA (l:=fl) aA]
  unfold Jy;rw [e,List.filter_append];by_cases q:G (fl.getD k Sl.z).2=true
  ·rw [if_pos q,JJ,ih,List.filter_cons_of_pos q];rfl
  ·rw [if_neg q,ih,List.filter_cons_of_neg q,List.filter_nil,List.append_nil]
end Go.Ns
namespace Go.Ns
open Go.Conc
section
variable {P:Program} {M:Type} {F:NV P M} {i i':Option (C0 M)} {O:Nat->Value} {ds:List Deferred} {h:GH} {Q:Pv M}
theorem trI_ix{c:Code}(e:i=i')(x:Ow F c i' O ds h Q):Ow F c i O ds h Q:=e▸x
theorem Jz{ops:Array Oper}{l:List Oper}(e:i=i')(x:Gp F ops l i' O ds h Q):Gp F ops l i O ds h Q:=e▸x
theorem tr_of_trI{c:Code}{Q:Post}(x:Ow F c none O ds h λi e O ds h=>i=none/\Q e O ds h):Tr ⟨F.W,F.fn,F.rd,F.N⟩ c O ds h Q:=by
 intro b k cs L t hb hr hl hs hc;refine x b k cs (λi=>match i with | none=>L | some _=>λ_ _ _ _=>False) t hb hr (λi=>?_) hs λi e σ' ds' h' q t' ht'=>?_
 ·cases i with
  | none=>exact hl
  | some s=>exact ⟨λ_ _ _ x=>x.elim,λ_ _ _ _ x=>x.elim,λ_ _ _ _ _ _ x=>x.elim⟩
 ·obtain ⟨rfl,q⟩:=q;exact hc e σ' ds' h' q t' ht'
theorem trI_end{c:Code}{Q:Post}(x:Tr (F.env none) c O ds h Q):Ow F c none O ds h λi e O ds h=>i=none/\Q e O ds h:=
 JH (K0 (λ_ _ _ _ q=>⟨rfl,q⟩) x)
variable {dst:Option Nat} {ty:TypeId} {pos:String} {af:Array Edge} {gd:Option (Nat×Bool)}
theorem QP{a x:Operand}{c:Nat}{v:Value}(ha:AQ O a=.chan (some c))(hx:AQ O x=v)(w:World):(execOp (AQ O) ⟨dst,.send a x,ty,pos,af,gd⟩).runT P w #[]=(.ok (.comm #[scase c v (.tuple #[])] true .send) w,#[]):=by
 subst hx;show (Result.ok (Next.comm #[{ chan:=AQ O a,send:=some (AQ O x),zero:=.tuple #[] }] true .send) w,#[])=_;rw [ha];rfl
theorem run_recv{a:Operand}{c:Nat}{t e:TypeId}{d:ChanDir}{ok:Bool}{z:Value}{inf:TypeInfo}(ht:P.underlying t=some (.chan d e))(hi:P.info? e=some inf)(hz:inf.zero=some z)(ha:AQ O a=.chan (some c))(w:World) :
  (execOp (AQ O) ⟨dst,.recv t a ok,ty,pos,af,gd⟩).runT P w #[]=(.ok (.comm #[rcase c z] true (.recv ok)) w,#[]):=by
 have h1:(zeroValue e).run P w=.ok z w:=by
  unfold zeroValue typeInfo;simp only [Sem.run_bind,program,hi];simp [Sem.run,hi,hz]
 have h2:(underlying t).run P w=.ok (.chan d e) w:=run_underlying ht w;rw [Sem.runT_eq];unfold execOp;simp [h1,h2,ha,rcase]
theorem Nf{a:Operand}{c:Nat}{t e:TypeId}{d:ChanDir}{ok:Bool}{z:Value}(ht:P.underlying t=some (.chan d e))(hz:(P.info? e).map (·.zero)=some (some z))(ha:AQ O a=.chan (some c))(w:World) :
  (execOp (AQ O) ⟨dst,.recv t a ok,ty,pos,af,gd⟩).runT P w #[]=(.ok (.comm #[rcase c z] true (.recv ok)) w,#[]):=by
 obtain ⟨inf,hi,h2⟩:=Option.map_eq_some_iff.1 hz;exact run_recv ht hi h2 ha w
theorem XP{x:Operand}{f:Fn}{cap:Array Value}{tys:Array TypeId}(hx:AQ O x=.func f #[] cap)(w:World):(execOp (AQ O) ⟨dst,.go ⟨.value x,#[],tys⟩,ty,pos,af,gd⟩).runT P w #[]=(.ok (.spawn { target:=.fn f cap,args:=#[] }) w,#[]):=by
 have e:resolve (AQ O) ⟨.value x,#[],tys⟩ ty=(pure { target:=.fn f cap,args:=#[] }:Sem Deferred):=by
  unfold resolve;simp only [hx,Deferred.ofValue];simp
 unfold execOp;simp only [e];rfl
variable {E:Gr P} {T:(Nat->Value)->List Deferred->GH->Prop}
theorem Km{t e:TypeId}{d:ChanDir}{n:Operand}(ht:P.underlying t=some (.chan d e))(hi0:(P.info? e).isSome=true)(hn:AQ O n=.int .i64 0)
  (k:∀r h',h r=none->h.Le h'->h' r=some (true,.chan 0 #[] false 0 0 false)->(∀b,b≠r->h' b=h b)->T (putS O dst (.chan (some r))) ds h'):BX E ⟨dst,.makeChan t n,ty,pos,af,gd⟩ O ds h T:=by
 unfold BX execOp;refine GP ?_;unfold Instr.makeChan;rw [hn];refine AH _ _ (Ax ?_);refine AH _ _ (An ht ?_);simp only [];obtain ⟨inf,hi⟩:=Option.isSome_iff_exists.1 hi0;refine AH _ _ (Cw hi ?_);rw [if_neg (by simp [IntKind.max];decide)];refine AH _ _ ?_;exact λr hr=>k r _ hr (GH.Le.new hr _ _) (GH.set_same _ _ _ _) λb hb=>GH.set_ne _ _ _ hb
end
section
variable {P:Program} {F:NV P D3} {i i':Option (C0 D3)} {O:Nat->Value} {ds:List Deferred} {h:GH} {Q:Pv D3} {ops:Array Oper} {o:Oper} {l:List Oper} {n:Nat} {cj co cd c m k:Nat} {ok:Nat->Bool} {R:List Nat} {z:Value}
theorem Jx.ix{X:Code}{args:Array Value}(e:i=i')(x:Jx F X args i' O h):Jx F X args i O h:=e▸x
theorem H4:Gp F ops l (some .never) O ds h Q:=λ_ _ _ _ _ _ _ _ _ _ _ _=>Ek.stop rfl
theorem GH.join_none(h:GH):h.join (λ_=>none)=h:=by
 funext b;unfold GH.join;cases h b <;> rfl
theorem Vi{s:D3}{nx:C0 D3}(hR:F.Rep=Ox n)(hg:o.guard=none)(hdf:DH o.op=false)(hd:DD o.dst F.N=true)(hr:∀w,(execOp (AQ O) o).runT P w #[]=(.ok (.comm #[scase c (tVal s) z] true .send) w,#[]))(hs:tOK n s)(hnx:¬nx.isDone)
  (x:Gp F ops l (some nx) (putS O o.dst undef) ds h Q):Gp F ops (o ::l) (some (.send c s nx)) O ds h Q:=
 Z2 hg hdf hd hr (GH.split_none h) (by rw [hR];exact ⟨rfl,hs,rfl⟩) hnx x
theorem Ng{f:Option D3->C0 D3}{r:Bool}(hR:F.Rep=Ox n)(hg:o.guard=none)(hdf:DH o.op=false)(hd:DD o.dst F.N=true)(hr:∀w,(execOp (AQ O) o).runT P w #[]=(.ok (.comm #[rcase c z] true (.recv r)) w,#[]))(hnx:∀o,¬(f o).isDone)
  (x:∀s,tOK n s->Gp F ops l (some (f (some s))) (putS O o.dst (recvd r (tVal s) true)) ds h Q) (y:Gp F ops l (some (f none)) (putS O o.dst (recvd r z false)) ds h Q):Gp F ops (o ::l) (some (.recv c f)) O ds h Q:=
 Z3 hg hdf hd hr hnx (λs v hm hrep _=>by
  rw [hR] at hrep;obtain ⟨rfl,h2,rfl⟩:=hrep;rw [GH.join_none];exact x s h2) y
theorem Vj(hR:F.Rep=Ox n)(hg:o.guard=none)(hdf:DH o.op=false)(hd:DD o.dst F.N=true)(hr:∀w,(execOp (AQ O) o).runT P w #[]=(.ok (.comm #[rcase cj z] true (.recv true)) w,#[]))
  (x:∀i,i<n->Gp F ops l (some (.send co (.res i (ok i)) (Fs cj co cd ok m))) (putS O o.dst (.tuple #[.int .i64 i,.bool true])) ds h Q) (y:Gp F ops l (some (.send cd .tick .done)) (putS O o.dst (.tuple #[z,.bool false])) ds h Q) :
  Gp F ops (o ::l) (some (Fs cj co cd ok (m+1))) O ds h Q:=
 Ng (f:=VQ co cd ok (Fs cj co cd ok m)) hR hg hdf hd hr workF_not (λs hs=>by
  cases s with
  | job i=>exact x i hs
  | res i b=>exact H4
  | tick=>exact H4) y
theorem Vk(hR:F.Rep=Ox n)(hg:o.guard=none)(hdf:DH o.op=false)(hd:DD o.dst F.N=true)(hr:∀w,(execOp (AQ O) o).runT P w #[]=(.ok (.comm #[rcase cd z] true (.recv false)) w,#[]))(hk:k<3)
  (x:Gp F ops l (some (Ef co cd (3-(k+1)))) (putS O o.dst (.bool true)) ds h Q):Gp F ops (o ::l) (some (Ef co cd (3-k))) O ds h Q:=
 Jz (XO hk) (Ng (f:=NW (Ef co cd (3-(k+1)))) hR hg hdf hd hr XN (λs _=>by
  cases s with
  | job i=>exact H4
  | res i b=>exact H4
  | tick=>exact x) H4)
theorem trLI_main(hR:F.Rep=Ox n)(hg:o.guard=none)(hdf:DH o.op=false)(hd:DD o.dst F.N=true)(hr:∀w,(execOp (AQ O) o).runT P w #[]=(.ok (.comm #[rcase co z] true (.recv true)) w,#[]))
  (x:∀i,i<n->i ∈ R->Gp F ops l (some (Ft co ok m (R.erase i))) (putS O o.dst (.tuple #[.agg #[.int .i64 i,.bool (ok i)],.bool true])) ds h Q) (y:R=[]->Gp F ops l (some .stop) (putS O o.dst (.tuple #[z,.bool false])) ds h Q) :
  Gp F ops (o ::l) (some (Ft co ok (m+1) R)) O ds h Q:=
 Ng (f:=Ik ok R (Ft co ok m)) hR hg hdf hd hr mainF_not (λs hs=>by
  cases s with
  | job i=>exact H4
  | tick=>exact H4
  | res i b=>
   by_cases e:i ∈ R/\b=ok i
   ·obtain ⟨e1,rfl⟩:=e;exact Jz (show some (Ik ok R (Ft co ok m) (some (.res i (ok i))))=some (Ft co ok m (R.erase i)) by unfold Ik;simp [e1]) (x i hs e1)
   ·exact Jz (show some (Ik ok R (Ft co ok m) (some (.res i b)))=some .never by show some (if i ∈ R/\b=ok i then _ else _)=_;rw [if_neg e]) H4) (by
  by_cases e:R=[]
  ·exact Jz (show some (Ik ok R (Ft co ok m) none)=some .stop by unfold Ik;rw [if_pos e]) (y e)
  ·exact Jz (show some (Ik ok R (Ft co ok m) none)=some .never by unfold Ik;rw [if_neg e]) H4)
end
theorem BJ.flags{h h':GH}{js:List AK}(s:h.Same h')(x:BJ h js):BJ h' js:=λk=>(x k).flags s
theorem Ac.flags{h h':GH}{ns:List AF}(s:h.Same h')(x:Ac h ns):Ac h' ns:=λk=>(x k).flags s
theorem Hq.flags{h h':GH}{l:List Sl}(s:h.Same h')(a:Hq h l):Hq h' l:=λk=>(a k).flags s
theorem Eg.flags{h h':GH}{r np:Nat}{ws:List AA}{pq:List AG}(s:h.Same h')(x:Eg h r np ws pq):Eg h' r np ws pq:=by
 obtain ⟨pm,M,⟨es,clk,hb,hl⟩,hM⟩:=x;obtain ⟨p',hb'⟩:=s _ _ _ hb;exact ⟨p',M,⟨es,clk,hb',hl⟩,hM⟩
theorem tr_lays5{P:Program}{E:Gr P}{id:Nat}{a0 a1 a2 a3 a4:Oper}{rest:List Oper}{d0 d1 d2 d3:Nat}{O:Nat->Value}{ds:List Deferred}{h:GH}{Q:Post}(o0 o1 o2 o3:Obj)(o4:Nat->Obj)(v0 v1 v2 v3:Nat->Value)(hm:P.follows .mixedOrders=true)
  (ok:GR E.N (a0 ::a1 ::a2 ::a3 ::a4 ::rest) 5 [[],[],[],[],[0,2,3]]=true)
  (g0:a0.guard=none) (g1:a1.guard=none) (g2:a2.guard=none) (g3:a3.guard=none) (g4:a4.guard=none) (e0:a0.dst=some d0) (e1:a1.dst=some d1) (e2:a2.dst=some d2) (e3:a3.dst=some d3)
  (l0:∀σ' h',BX E a0 σ' ds h' λσ'' ds'' h''=>ds''=ds/\∃r,σ''=putS σ' a0.dst (v0 r)/\h' r=none/\h'.Le h''/\h'' r=some (true,o0)) (l1:∀σ' h',BX E a1 σ' ds h' λσ'' ds'' h''=>ds''=ds/\∃r,σ''=putS σ' a1.dst (v1 r)/\h' r=none/\h'.Le h''/\h'' r=some (true,o1))
  (l2:∀σ' h',BX E a2 σ' ds h' λσ'' ds'' h''=>ds''=ds/\∃r,σ''=putS σ' a2.dst (v2 r)/\h' r=none/\h'.Le h''/\h'' r=some (true,o2)) (l3:∀σ' h',BX E a3 σ' ds h' λσ'' ds'' h''=>ds''=ds/\∃r,σ''=putS σ' a3.dst (v3 r)/\h' r=none/\h'.Le h''/\h'' r=some (true,o3))
  (l4:∀r0 r2 σ' h',σ' d0=v0 r0->σ' d2=v2 r2->h' r2=some (true,o2)->BX E a4 σ' ds h' λσ'' ds'' h''=>ds''=ds/\σ''=σ'/\h'' r2=some (true,o4 r0)/\∀b,b≠r2->h'' b=h' b)
  (fin:∀(r0 r1 r2 r3:Nat) σ' h',h.Le h'->(h r0=none/\h' r0=some (true,o0)/\σ' d0=v0 r0)->(h r1=none/\h' r1=some (true,o1)/\σ' d1=v1 r1)->(h r2=none/\h' r2=some (true,o4 r0)/\σ' d2=v2 r2)->(h r3=none/\h' r3=some (true,o3)/\σ' d3=v3 r3)->
   (r0≠r1/\r0≠r2/\r0≠r3/\r1≠r2/\r1≠r3/\r2≠r3)->(∀t,(Dl (a0 ::a1 ::a2 ::a3 ::a4 ::rest) 5).contains t=false->σ' t=O t)->DE E (a0 ::a1 ::a2 ::a3 ::a4 ::rest).toArray rest σ' ds h' Q):Tr E (.region id (a0 ::a1 ::a2 ::a3 ::a4 ::rest).toArray true) O ds h Q:=by
 let l:=a0 ::a1 ::a2 ::a3 ::a4 ::rest;let obj:Nat->Obj:=λi=>match i with | 0=>o0 | 1=>o1 | 2=>o2 | _=>o3
 let val:Nat->Nat->Value:=λi=>match i with | 0=>v0 | 1=>v1 | 2=>v2 | _=>v3
 have lay:∀i o,i<4->l[i]? =some o->∀σ' h',BX E o σ' ds h' λσ'' ds'' h''=>ds''=ds/\∃r,σ''=putS σ' o.dst (val i r)/\h' r=none/\h'.Le h''/\h'' r=some (true,obj i):=by
  intro i o hi ho σ' h';rcases i with _ | _ | _ | _ | i
  ·cases ho;exact l0 σ' h'
  ·cases ho;exact l1 σ' h'
  ·cases ho;exact l2 σ' h'
  ·cases ho;exact l3 σ' h'
  ·omega
 have nd:(Dl l 5).Nodup:=by
  have:=ok
  unfold GR at this;simp only [Bool.and_eq_true] at this;exact of_decide_eq_true this.1.2
 refine VE 5 [[],[],[],[],[0,2,3]] (λD σ' h'=>h.Le h'/\(D 4=true->D 0=true/\D 2=true)/\∃rs:Nat->Nat,(∀i,i<4->D i=true->h (rs i)=none/\h' (rs i)=some (true,if i=2/\D 4=true then o4 (rs 0) else obj i)/\∀o d,l[i]? =some o->o.dst=some d->σ' d=val i (rs i))/\
  (∀i j,i<4->j<4->D i=true->D j=true->i≠j->rs i≠rs j)/\∀t,(Dl l 5).contains t=false->σ' t=O t) hm ok ⟨GH.Le.refl _,(λe=>by cases e),λ_=>0,(λ_ _ q=>by cases q),(λ_ _ _ _ q=>by cases q),λ_ _=>rfl⟩ ?_ ?_
 ·rintro D σ' h' i o ⟨l1',hD4,rs,h1,h2,h3⟩ hi hD ho hcl _;have hgd:o.guard=none:=by
   rcases i with _ | _ | _ | _ | _ | i
   ·cases ho;exact g0
   ·cases ho;exact g1
   ·cases ho;exact g2
   ·cases ho;exact g3
   ·cases ho;exact g4
   ·omega
  refine ⟨λ_=>?_,λq=>absurd (by unfold Da;rw [hgd];trivial) q⟩;by_cases hi4:i=4
  ·subst hi4;have c0:D 0=true:=hcl 0 aD;have c2:D 2=true:=hcl 2 aD;cases ho;obtain ⟨q1,q2,q3⟩:=h1 0 aC c0;obtain ⟨p1,p2,p3⟩:=h1 2 aC c2;rw [if_neg (λe=>by rw [hD] at e;cases e.2)] at p2;refine (l4 (rs 0) (rs 2) σ' h' (q3 a0 d0 rfl e0) (p3 a2 d2 rfl e2) p2).mono λσ'' ds'' h'' q=>?_;obtain ⟨rfl,rfl,k1,k2⟩:=q;refine ⟨rfl,λb p x hb=>?_,λ_=>⟨by rw [Br aC];exact c0,by rw [Br aC];exact c2⟩,rs,λj hj hDj=>?_,λa b ha hb hDa hDb hab=>?_,h3⟩
   ·rw [k2 b λe=>by subst e;rw [p1] at hb;cases hb];exact l1' b p x hb
   ·rw [Br aA] at hDj;obtain ⟨u1,u2,u3⟩:=h1 j hj hDj;refine ⟨u1,?_,u3⟩;by_cases ej:j=2
    ·subst ej;rw [if_pos ⟨rfl,if_pos rfl⟩];exact k1
    ·rw [if_neg (λe=>ej e.1),k2 _ (h2 j 2 hj aC hDj c2 ej)];rw [if_neg (λe=>ej e.1)] at u2;exact u2
   ·rw [Br aA] at hDa hDb;exact h2 a b ha hb hDa hDb hab
  ·have hi':i<4:=aA
   refine (lay i o hi' ho σ' h').mono λσ'' ds'' h'' q=>?_;obtain ⟨rfl,r,rfl,hr,l2',hr2⟩:=q;have h4e:Hk D i 4=D 4:=Br (λe=>hi4 e.symm);have hne:∀j,j<4->D j=true->rs j≠r:=λj hj hDj e=>by
    have:=(h1 j hj hDj).2.1
    rw [e,hr] at this;cases this
   refine ⟨rfl,l1'.trans l2',λe=>?_,λj=>if j=i then r else rs j,λj hj hDj=>?_,λa b ha hb hDa hDb hab=>?_,λt ht=>?_⟩
   ·rw [h4e] at e;obtain ⟨c0,c2⟩:=hD4 e;exact ⟨by rw [Br (λq=>by subst q;rw [hD] at c0;cases c0)];exact c0,by rw [Br (λq=>by subst q;rw [hD] at c2;cases c2)];exact c2⟩
   ·by_cases e:j=i
    ·subst e;dsimp only;rw [if_pos rfl];refine ⟨l1'.nothing hr,?_,λo' d ho' hd=>?_⟩
     ·rw [if_neg (λe=>by have e2:=e.2;rw [h4e] at e2;have e3:=(hD4 e2).2;rw [<-e.1,hD] at e3;cases e3)];exact hr2
     ·obtain rfl:o'=o:=Option.some.inj (ho'.symm.trans ho);rw [hd];exact upd_same _ _ _
    ·dsimp only;rw [if_neg e];rw [Br e] at hDj;obtain ⟨q1,q2,q3⟩:=h1 j hj hDj;refine ⟨q1,?_,λo' d ho' hd=>by rw [C8 λd' hd'=>EM nd hi (aA:j<5) (λq=>e q.symm) ho ho' hd' hd];exact q3 o' d ho' hd⟩;rw [h4e];by_cases hc:j=2/\D 4=true
     ·rw [if_pos hc] at q2 ⊢;rw [if_neg (λq=>by have c0:=(hD4 hc.2).1;rw [q,hD] at c0;cases c0)];exact l2'.keep q2 rfl
     ·rw [if_neg hc] at q2 ⊢;exact l2'.keep q2 rfl
   ·show (if a=i then r else rs a)≠(if b=i then r else rs b);by_cases ea:a=i
    ·by_cases eb:b=i
     ·exact absurd (ea.trans eb.symm) hab
     ·rw [if_pos ea,if_neg eb];rw [Br eb] at hDb;exact (hne b hb hDb).symm
    ·rw [Br ea] at hDa;by_cases eb:b=i
     ·rw [if_neg ea,if_pos eb];exact hne a ha hDa
     ·rw [if_neg ea,if_neg eb];rw [Br eb] at hDb;exact h2 a b ha hb hDa hDb hab
   ·rw [C8 (Hy hi ho ht)];exact h3 t ht
 ·rintro D σ' h' ⟨l1',hD4,rs,h1,h2,h3⟩ hall;have A:∀i,i<5->D i=true:=hall;have f0:=h1 0 aC (A 0 aC);have f1:=h1 1 aC (A 1 aC);have f2:=h1 2 aC (A 2 aC);have f3:=h1 3 aC (A 3 aC);rw [if_neg (λe=>by have:=e.1;omega)] at f0;rw [if_neg (λe=>by have:=e.1;omega)] at f1;rw [if_pos ⟨rfl,A 4 aC⟩] at f2;rw [if_neg (λe=>by have:=e.1;omega)] at f3;have ne:=λi j (hi:i<4) (hj:j<4)=>h2 i j hi hj (A i aA) (A j aA);exact fin (rs 0) (rs 1) (rs 2) (rs 3) σ' h' l1' ⟨f0.1,f0.2.1,f0.2.2 a0 d0 rfl e0⟩ ⟨f1.1,f1.2.1,f1.2.2 a1 d1 rfl e1⟩ ⟨f2.1,f2.2.1,f2.2.2 a2 d2 rfl e2⟩ ⟨f3.1,f3.2.1,f3.2.2 a3 d3 rfl e3⟩
   ⟨ne 0 1 aC aC aC,ne 0 2 aC aC aC,ne 0 3 aC aC aC,ne 1 2 aC aC aC,ne 1 3 aC aC aC,ne 2 3 aC aC aC⟩ h3
section
variable {h h' h0:GH} {r:Nat}
theorem GH.cut_ne{b:Nat}(e:b≠r):h.cut r b=h b:=if_neg e
theorem GH.Le.cut(l:h0.Le h)(n:h0 r=none):h0.Le (h.cut r):=λb p o hb=>by
 rw [GH.cut_ne λe=>by subst e;rw [n] at hb;cases hb];exact l b p o hb
theorem AM.cut{V:Type}{v:Value}{t:TypeId}{n:Nat}{enc:V->Array Value}{xs:List V}(x:AM h0 h v t n enc xs)(f:Al v r):AM h0 (h.cut r) v t n enc xs:=
 x.keep λb o hb ho=>by rw [GH.cut_ne λe=>by subst e;exact f hb];exact ho
theorem AM.del'{V:Type}{v:Value}{t:TypeId}{n:Nat}{enc:V->Array Value}{xs:List V}(x:AM h0 h v t n enc xs)(f:Al v r):AM h0 (h.del r) v t n enc xs:=
 x.keep λb o hb ho=>by rw [GH.del_ne λe=>by subst e;exact f hb];exact ho
theorem B8.keep3{X:Nat->Prop}{t0 T t:TypeId}{n l:Nat}{w v:Value}{p q:Bool}{c:Array Value}{f:Nat×Nat}{lo:Loop}{ys:List Sl}{hB:GH}{ys':List Int}(x:B8 h t0 v ys')(k:B4 X h h')(hX:∀b,X b->(b=r\/Ch w=some b)\/b=l)(hr:h r=some (p,.cells c T f))(ow:AM hB h w t n H1 ys)(hl:h l=some (q,.loop lo))(n1:T≠t0)(n2:t≠t0):B8 h' t0 v ys':=
 x.keepX k λb hb q2=>by
  obtain ⟨p2,c2,f2,e⟩:=x.2 b hb;rcases hX b q2 with (rfl | q3) | rfl
  ·rw [hr] at e;cases e;exact n1 rfl
  ·rcases ow with ⟨rfl,_⟩ | ⟨b1,cap,c1,rfl,_,h2,_⟩
   ·cases q3
   ·simp only [Ch,Option.some.injEq] at q3;subst q3;rw [h2] at e;cases e;exact n2 rfl
  ·rw [hl] at e;cases e
theorem B4.mono{X Y:Nat->Prop}(k:B4 X h h')(s:∀b,X b->Y b):B4 Y h h':=λb p o hb hn=>k b p o hb λx=>hn (s b x)
end
theorem rounds_ok{n:Nat}{fl:List Sl}(h:Ao fl=Df (BQ n))(hn:n<=4)(i:Nat):UK n (fl.getD i Sl.z).2:=by
 by_cases hi:i<fl.length
 ·refine Kj (λx hx=>QL hx) (by rw [CQ];exact hn) (r:=(fl.getD i Sl.z).2) ?_;rw [<-h,<-DA hi];exact Bj (by rw [CN];exact hi)
 ·rw [BM aA];exact ⟨λk hk=>absurd hk (Nat.not_lt_zero _),Nat.zero_le _⟩
theorem B8.storeD{h h':GH}{t:TypeId}{v:Value}{xs:List Int}{r:Nat}{p:Bool}{q:Option (List Deferred)}(x:B8 h t v xs)(hr:h r=some (p,.deferred q))(ho:∀b,b≠r->h' b=h b):B8 h' t v xs:=
 x.same λb hb=>ho b λe=>by
  obtain ⟨p2,c2,f2,z⟩:=x.2 b hb;rw [e,hr] at z;cases z
theorem B0.storeD{h h':GH}{t:TypeId}{l:List Sl}{r:Nat}{p:Bool}{q:Option (List Deferred)}(x:B0 h t l)(hr:h r=some (p,.deferred q))(ho:∀b,b≠r->h' b=h b):B0 h' t l:=λk=>
 (x k).same λb hb=>ho b λe=>by
  obtain ⟨p2,c2,f2,z⟩:=(x k).2 b hb;rw [e,hr] at z;cases z
theorem selS_all{fl:List Sl}{G:List Int->Bool}{all:List (List Int)}{k:Nat}(h:Ao fl=all)(h1:k<=fl.length)(h2:fl.length<=k):Ao (Jy fl (λi=>G (fl.getD i Sl.z).2) k)=all.filter G:=by
 rw [QO k h1,List.take_of_length_le (by rw [CN];exact h2),h]
theorem B0.sel{h:GH}{t:TypeId}{fl:List Sl}{ok:Nat->Bool}{k:Nat}(a:B0 h t fl):B0 h t (Jy fl ok k):=by
 induction k with
 | zero=>exact B0.nil h t
 | succ k ih=>
  unfold Jy;split
  ·exact B0.app ih (B0.one (a k))
  ·exact ih
end Go.Ns
namespace Go.Ns
theorem UM{P:Program}{O:Nat->Value}{h:GH}{fn:Func}{R:Value->GH->Prop}{a u s:Tmp}{t:TypeId}{b off:Nat}{v v' v2:Value}(hr:fn.results=#[.tmp u,.cell a t,.tmp s])(hv:O u=v)(ha:O a=.pointer (some ⟨b,off,none⟩))(hv':Rd P h t b off v')(hv2:O s=v2)(x:R (.tuple #[v,v',v2]) h):Gu P fn O R [] h:=by
 unfold Gu;rw [hr];subst hv;subst hv2;exact ⟨b,off,v',ha,hv',x⟩
section
variable (np:Nat) (ws:List AA) (js:List AK) (pq:List AG) (bag kinds:Int)
def IR:List (List Int):=(Df (BQ js.length)).filter (λq=>CR np ws js pq q bag kinds)
end
def O8(g:List (List Int))(x:List Int):List (List Int):=if 0<g.length/\(g.getD 0 []).length<x.length then [] else g
def O9(g:List (List Int))(x:List Int):List (List Int):=if g.length=0\/x.length=(g.getD 0 []).length then g++[x] else g
def Vl(g:List (List Int))(x:List Int):List (List Int):=O9 (O8 g x) x
def UN(l:List (List Int)):Nat->List (List Int)
 | 0=>[]
 | k+1=>Vl (UN l k) (l.getD k [])
def Hc(g:List Sl)(x:Sl):List Sl:=if 0<g.length/\(g.getD 0 Sl.z).2.length<x.2.length then [] else g
def IS(g:List Sl)(x:Sl):List Sl:=if g.length=0\/x.2.length=(g.getD 0 Sl.z).2.length then g++[x] else g
def DP(g:List Sl)(x:Sl):List Sl:=IS (Hc g x) x
def BF(l:List Sl):Nat->List Sl
 | 0=>[]
 | k+1=>DP (BF l k) (l.getD k Sl.z)
section
variable {l g:List Sl} {x:Sl} {k:Nat}
theorem QQ(h0:0<g.length)(h1:(g.getD 0 Sl.z).2.length<x.2.length):DP g x=[x]:=by
 unfold DP Hc;rw [if_pos ⟨h0,h1⟩];rfl
theorem QR(h0:0<g.length)(h1:x.2.length=(g.getD 0 Sl.z).2.length):DP g x=g++[x]:=by
 unfold DP Hc;rw [if_neg (λe=>by have:=e.2;omega)];unfold IS;rw [if_pos (.inr h1)]
theorem QS(h0:0<g.length)(h1:x.2.length<(g.getD 0 Sl.z).2.length):DP g x=g:=by
 unfold DP Hc;rw [if_neg (λe=>by have:=e.2;omega)];unfold IS;rw [if_neg];rintro (e | e) <;> omega
theorem QT(h0:g.length=0):DP g x=g++[x]:=by
 unfold DP Hc;rw [if_neg (λe=>by have:=e.1;omega)];unfold IS;rw [if_pos (.inl h0)]
theorem goodS_a(h0:0<(BF l k).length)(h1:((BF l k).getD 0 Sl.z).2.length<(l.getD k Sl.z).2.length):BF l (k+1)=[l.getD k Sl.z]:=QQ h0 h1
theorem goodS_b(h0:0<(BF l k).length)(h1:(l.getD k Sl.z).2.length=((BF l k).getD 0 Sl.z).2.length):BF l (k+1)=BF l k++[l.getD k Sl.z]:=QR h0 h1
theorem goodS_c(h0:0<(BF l k).length)(h1:¬((BF l k).getD 0 Sl.z).2.length<(l.getD k Sl.z).2.length)(h2:¬(l.getD k Sl.z).2.length=((BF l k).getD 0 Sl.z).2.length):BF l (k+1)=BF l k:=QS h0 aA
theorem goodS_d(h0:(BF l k).length=0):BF l (k+1)=BF l k++[l.getD k Sl.z]:=QT h0
theorem goodS_t(h1:¬(0<(BF l k).length/\((BF l k).getD 0 Sl.z).2.length<(l.getD k Sl.z).2.length))(h2:(BF l k).length=0\/(l.getD k Sl.z).2.length=((BF l k).getD 0 Sl.z).2.length):BF l (k+1)=BF l k++[l.getD k Sl.z]:=by
 by_cases h0:(BF l k).length=0
 ·exact goodS_d h0
 ·exact goodS_b aA aA
theorem goodS_f(h1:¬(0<(BF l k).length/\((BF l k).getD 0 Sl.z).2.length<(l.getD k Sl.z).2.length))(h2:¬((BF l k).length=0\/(l.getD k Sl.z).2.length=((BF l k).getD 0 Sl.z).2.length)):BF l (k+1)=BF l k:=goodS_c aA aA aA
theorem IT(g:List Sl)(x:Sl):DP g x=[x]\/DP g x=g++[x]\/(DP g x=g/\0<g.length):=by
 by_cases h0:g.length=0
 ·exact .inr (.inl (QT h0))
 ·by_cases h1:(g.getD 0 Sl.z).2.length<x.2.length
  ·exact .inl (QQ aA h1)
  ·by_cases h2:x.2.length=(g.getD 0 Sl.z).2.length
   ·exact .inr (.inl (QR aA h2))
   ·exact .inr (.inr ⟨QS aA aA,aA⟩)
theorem goodS_pos:∀k,0<k->0<(BF l k).length
 | k+1,_=>by
  show 0<(DP (BF l k) (l.getD k Sl.z)).length;rcases IT (BF l k) (l.getD k Sl.z) with e | e | ⟨e,h⟩ <;> rw [e]
  ·exact Nat.zero_lt_one
  ·rw [List.length_append];exact Nat.succ_pos _
  ·exact h
theorem S1:∀k,(BF l k).length<=k
 | 0=>Nat.le_refl _
 | k+1=>by
  have ih:=S1 k;show (DP (BF l k) (l.getD k Sl.z)).length<=_;rcases IT (BF l k) (l.getD k Sl.z) with e | e | ⟨e,_⟩ <;> rw [e]
  ·simp
  ·rw [List.length_append,List.length_singleton];omega
  ·omega
theorem Nh:∀k,k<=l.length->∀y ∈ BF l k,y ∈ l
 | 0,_,y,hy=>by cases hy
 | k+1,hk,y,hy=>by
  have ih:=Nh k aA;have hx:l.getD k Sl.z ∈ l:=Bj aA;change y ∈ DP (BF l k) (l.getD k Sl.z) at hy;rcases IT (BF l k) (l.getD k Sl.z) with e | e | ⟨e,_⟩ <;> rw [e] at hy
  ·rw [List.mem_singleton.1 hy];exact hx
  ·rcases List.mem_append.1 hy with hy | hy
   ·exact ih y hy
   ·rw [List.mem_singleton.1 hy];exact hx
  ·exact ih y hy
theorem OW:∀k,k<=l.length->Ao (BF l k)=UN (Ao l) k
 | 0,_=>rfl
 | k+1,hk=>by
  have ih:=OW k aA;have hg:∀g:List Sl,(g.getD 0 Sl.z).2=(Ao g).getD 0 []:=λg=>by cases g <;> rfl
  show Ao (DP (BF l k) (l.getD k Sl.z))=Vl (UN (Ao l) k) ((Ao l).getD k []);rw [<-ih,DA aA];have hc:Ao (Hc (BF l k) (l.getD k Sl.z))=O8 (Ao (BF l k)) (l.getD k Sl.z).2:=by
   unfold Hc O8;rw [hg,CN];split <;> rfl
  have ha:∀g:List Sl,Ao (IS g (l.getD k Sl.z))=O9 (Ao g) (l.getD k Sl.z).2:=λg=>by
   unfold IS O9;rw [hg,CN];split
   ·rw [JJ];rfl
   ·rfl
  show Ao (IS (Hc (BF l k) (l.getD k Sl.z)) (l.getD k Sl.z))=O9 (O8 (Ao (BF l k)) _) _;rw [ha,hc]
end
theorem B0.good{h:GH}{t:TypeId}{l:List Sl}{k:Nat}(a:B0 h t l)(hk:k<=l.length):B0 h t (BF l k):=.of λx hx=>a.at (Nh k hk x hx)
section
variable {np:Nat} {ws:List AA} {js:List AK} {pq:List AG} {bag kinds:Int} {fs:List Sl}
theorem Za(h:Ao fs=IR np ws js pq bag kinds)(hn:js.length<=4):∀x ∈ fs,UK js.length x.2:=λx hx=>by
 have:x.2 ∈ Ao fs:=List.mem_map_of_mem hx
 rw [h] at this;exact Kj (λy hy=>QL hy) (by rw [CQ];exact hn) (List.mem_filter.1 this).1
theorem Vm(h:Ao fs=IR np ws js pq bag kinds)(hn:js.length<=4)(i:Nat):UK js.length (fs.getD i Sl.z).2:=by
 by_cases hi:i<fs.length
 ·exact Za h hn _ (Bj hi)
 ·rw [BM aA];exact ⟨λk hk=>absurd hk (Nat.not_lt_zero _),Nat.zero_le _⟩
theorem safe_nil(hb:0<=bag):CR np ws js pq [] bag kinds=true:=by
 unfold CR;have e:(DX kinds js []).sum=0:=by
  show (List.replicate kinds.toNat (0:Int)).sum=0;generalize kinds.toNat=n
  induction n with
  | zero=>rfl
  | succ n ih=>rw [List.replicate_succ,List.sum_cons,ih];rfl
 rw [e,decide_eq_true hb];rfl
theorem XQ(hb:0<=bag):0<(IR np ws js pq bag kinds).length:=by
 refine List.length_pos_of_mem (a:=[]) (List.mem_filter.2 ⟨?_,safe_nil hb⟩);unfold Df;rw [HM];exact List.mem_cons_self
theorem QU(hn:js.length<=4):(IR np ws js pq bag kinds).length<=625:=
 Nat.le_trans (List.length_filter_le _ _) (H3 (by rw [CQ];exact hn))
theorem S3{G:List Int->Int}:∀(l:List (List Int)),0<l.length->∀k,k<=l.length-1->(EG G l k).1 ∈ l
 | l,h,0,_=>Bj h
 | l,h,k+1,hk=>by
  unfold EG;split
  ·exact List.mem_of_mem_drop (Bj (by rw [List.length_drop];omega))
  ·exact S3 l h k aA
theorem Ms{n:Nat}{G:List Int->Int}{l:List Sl}(h:∀x ∈ l,UK n x.2)(hl:0<l.length):UK n (Dv G (Ao l)):=by
 have:=S3 (G:=G) (Ao l) (by rw [CN];exact hl) ((Ao l).length-1) (Nat.le_refl _)
 obtain ⟨x,hx,e⟩:=List.mem_map.1 this;unfold Dv;rw [<-e];exact h x hx
end
section
variable (bag kinds:Int) (ps:List ByteArray) (ws:List AA) (js:List AK) (ns:List AF)
def XR:List Int:=Dv (λl=>Ci (λx=>A4 ps.length ws js x l) (AD ws js ns)) (UN (IR ps.length ws js (AD ws js ns) bag kinds) (IR ps.length ws js (AD ws js ns) bag kinds).length)
def La:List Int:=if¬AY bag kinds ps ws js ns 0=0 then [] else XR bag kinds ps ws js ns
end
section
variable {bag kinds:Int} {ps:List ByteArray} {ws:List AA} {js:List AK} {ns:List AF} {fs:List Sl} {k:Nat}
theorem best_end(h:Ao fs=IR ps.length ws js (AD ws js ns) bag kinds)(h1:k<=fs.length)(h2:fs.length<=k):XR bag kinds ps ws js ns=Dv (λl=>Ci (λx=>A4 ps.length ws js x l) (AD ws js ns)) (Ao (BF fs k)):=by
 unfold XR;rw [OW k h1,h,<-h,CN,show fs.length=k by omega]
theorem Vn(h0:¬¬AY bag kinds ps ws js ns 0=0)(h:Ao fs=IR ps.length ws js (AD ws js ns) bag kinds)(h1:k<=fs.length)(h2:fs.length<=k):La bag kinds ps ws js ns=Dv (λl=>Ci (λx=>A4 ps.length ws js x l) (AD ws js ns)) (Ao (BF fs k)):=(if_neg h0).trans (best_end h h1 h2)
end
def UO(c:Gq)(l:List Int):Nat->Gq
 | 0=>c
 | i+1=>(UO c l i).set (l.getD i 0).toNat true
def G8(ls:List (List Int)):Nat->Gq
 | 0=>Gq.none
 | k+1=>UO (G8 ls k) (ls.getD k []) (ls.getD k []).length
def FI(c:Gq):Nat->List Int
 | 0=>[]
 | q+1=>if c q=true then FI c q else FI c q++[(q:Int)]
theorem neverL_t{c:Gq}{q:Nat}(h:c q=true):FI c (q+1)=FI c q:=if_pos h
theorem neverL_f{c:Gq}{q:Nat}(h:c q=false):FI c (q+1)=FI c q++[(q:Int)]:=if_neg (by rw [h];simp)
theorem QV(c:Gq):∀q,(FI c q).length<=q
 | 0=>Nat.le_refl _
 | q+1=>by
  have:=QV c q
  unfold FI;split
  ·omega
  ·rw [List.length_append,List.length_singleton];omega
section
variable (bag kinds:Int) (ps:List ByteArray) (ws:List AA) (js:List AK) (ns:List AF)
def Ni:List Int:=if¬AY bag kinds ps ws js ns 0=0 then [] else FI (G8 (IR ps.length ws js (AD ws js ns) bag kinds) (IR ps.length ws js (AD ws js ns) bag kinds).length) js.length
end
section
variable {bag kinds:Int} {ps:List ByteArray} {ws:List AA} {js:List AK} {ns:List AF} {fs:List Sl} {k q:Nat}
theorem inTo_next{i:Nat}(hk:k<fs.length)(h1:i<=(fs.getD k Sl.z).2.length)(h2:(fs.getD k Sl.z).2.length<=i):G8 (Ao fs) (k+1)=UO (G8 (Ao fs) k) (fs.getD k Sl.z).2 i:=by
 unfold G8;rw [DA hk,show (fs.getD k Sl.z).2.length=i by omega];cases k <;> rfl
theorem neverR_ok(h0:¬¬AY bag kinds ps ws js ns 0=0)(h:Ao fs=IR ps.length ws js (AD ws js ns) bag kinds)(h1:k<=fs.length)(h2:fs.length<=k)(h3:q<=js.length)(h4:js.length<=q):Ni bag kinds ps ws js ns=FI (G8 (Ao fs) k) q:=
 (if_neg h0).trans (by rw [<-h,CN,show fs.length=k by omega,show js.length=q by omega])
end
end Go.Ns
namespace Go.Ns
theorem Vo{nj:Nat}{l:List Int}(h:Ai nj l=0):l.Nodup:=by
 rw [List.nodup_iff_pairwise_ne];rw [List.pairwise_iff_getElem];intro i j hi hj hij e;have h1:=De h j (Nat.zero_le _) aA;unfold Il at h1;split at h1
 ·rename_i a;exact a h1
 ·split at h1
  ·cases h1
  ·rename_i a
   refine a (List.any_eq_true.2 ⟨l[i],List.mem_take_iff_getElem.2 ⟨i,aA,rfl⟩,?_⟩);rw [List.getD_eq_getElem?_getD,List.getElem?_eq_getElem hj];exact decide_eq_true e.symm
theorem OX{jobs:List Int}(nd:jobs.Nodup):∀(rest done:List Int),jobs=done++rest->jobs ∈ Ba jobs rest.length done
 | [],done,e=>by rw [e,List.append_nil];exact List.mem_singleton.2 rfl
 | k ::rest,done,e=>by
  have ih:=OX nd rest (done++[k]) (by rw [e];simp);show jobs ∈ done ::jobs.flatMap _;refine List.mem_cons_of_mem _ (List.mem_flatMap.2 ⟨k,by rw [e];simp,?_⟩);have hn:JA done k=false:=by
   cases hh:JA done k with
   | false=>rfl
   | true=>
    exfalso;obtain ⟨x,hx,hk⟩:=List.any_eq_true.1 hh;have hk':k=x:=of_decide_eq_true hk;rw [e,List.nodup_append] at nd;exact nd.2.2 x hx k List.mem_cons_self hk'.symm
  rw [if_neg (by rw [hn];simp)];exact ih
def Zb(jobs:List Int)(n:Nat):List (List Int):=(Df jobs).filter λq=>decide (q.length=n)
theorem fullR_pos{l:List Int}(nd:l.Nodup):0<(Zb (Fp l) l.length).length:=by
 have hs:(Fp l).Nodup:=by rw [Pr];exact (List.mergeSort_perm l _).nodup_iff.2 nd
 have:=OX hs (Fp l) [] rfl
 exact List.length_pos_of_mem (List.mem_filter.2 ⟨this,decide_eq_true (En l)⟩)
section
variable (bag kinds:Int) (ps:List ByteArray) (ws:List AA) (js:List AK) (ns:List AF) (l:List Int)
def swiftL:List Int:=Dv (λl=>Ci (λx=>A4 ps.length ws js x l) (AD ws js ns)) (Zb (Fp l) l.length)
def J0:List Int:=if¬AY bag kinds ps ws js ns (Ai js.length l)=0 then [] else swiftL ps ws js ns l
end
section
variable {bag kinds:Int} {ps:List ByteArray} {ws:List AA} {js:List AK} {ns:List AF} {l:List Int} {fl:List Sl} {nj:Nat}
theorem S4(h0:¬¬AY bag kinds ps ws js ns (Ai js.length l)=0)(h:Ao fl=Zb (Fp l) l.length):J0 bag kinds ps ws js ns l=Dv (λl=>Ci (λx=>A4 ps.length ws js x l) (AD ws js ns)) (Ao fl):=(if_neg h0).trans (by unfold swiftL;rw [h])
theorem full_ok(h:Ao fl=Zb (Fp l) l.length)(hr:∀k,k<l.length->0<=l.getD k 0/\l.getD k 0<nj)(h4:l.length<=4):∀x ∈ fl,UK nj x.2:=λx hx=>by
 have:x.2 ∈ Ao fl:=List.mem_map_of_mem hx
 rw [h] at this;refine Kj (λy hy=>?_) (by rw [En];exact h4) (List.mem_filter.1 this).1;rw [Pr,List.mem_mergeSort] at hy;obtain ⟨i,hi,e⟩:=List.mem_iff_getElem.1 hy
 have:=hr i hi
 rw [List.getD_eq_getElem?_getD,List.getElem?_eq_getElem hi,Option.getD_some,e] at this;exact this
end
end Go.Ns
namespace Go.Ns
def PV(h:GH)(t:TypeId)(f:Nat->Value)(L:Nat->List Int)(k:Nat):Prop:=∀i,i<k->B8 h t (f i) (L i)
section
variable {h h' h0:GH} {t t':TypeId} {f:Nat->Value} {L:Nat->List Int} {k r:Nat} {w v v':Value} {p:Bool} {c:Array Value} {g:Nat×Nat}
theorem PV.zero:PV h t f L 0:=λ_ hi=>absurd hi (Nat.not_lt_zero _)
theorem PV.le(x:PV h t f L k)(l:h.Le h'):PV h' t f L k:=λi hi=>(x i hi).le l
theorem PV.store(x:PV h t f L k)(hr:h r=some (p,.cells c t' g))(ne:t'≠t)(ho:∀b,b≠r->h' b=h b):PV h' t f L k:=λi hi=>(x i hi).store hr ne ho
theorem PV.next(x:PV h t f L k)(y:B8 h t w (L k)):PV h t (λi=>if i=k then w else f i) L (k+1):=λi hi=>by
 show B8 h t (if i=k then w else f i) (L i);by_cases e:i=k
 ·rw [if_pos e,e];exact y
 ·rw [if_neg e];exact x i aA
end
def AK.re(j:AK)(v:Value):AK:={ j with pv:=v }
def AF.re(j:AF)(v:Value):AF:={ j with wv:=v }
def HN(js:List AK)(f:Nat->Value)(k:Nat):List AK:=(List.range js.length).map λi=>if i<k then (js.getD i AK.z).re (f i) else js.getD i AK.z
def H5(ns:List AF)(f:Nat->Value)(k:Nat):List AF:=(List.range ns.length).map λi=>if i<k then (ns.getD i AF.z).re (f i) else ns.getD i AF.z
section
variable {V:Type} {z:V} {l:List V} {F:Nat->V->V} {k:Nat}
def reL(z:V)(l:List V)(F:Nat->V->V)(k:Nat):List V:=(List.range l.length).map λi=>if i<k then F i (l.getD i z) else l.getD i z
theorem LE:(reL z l F k).length=l.length:=by unfold reL;rw [List.length_map,List.length_range]
theorem HO{i:Nat}(hi:i<l.length):(reL z l F k).getD i z=if i<k then F i (l.getD i z) else l.getD i z:=by
 unfold reL;rw [List.getD_eq_getElem?_getD,List.getElem?_map,List.getElem?_range hi];rfl
theorem UP{i:Nat}(hi:i<(reL z l F k).length):(reL z l F k)[i]=if i<k then F i (l.getD i z) else l.getD i z:=by
 have e:=HO (z:=z) (F:=F) (k:=k) (show i<l.length by rw [<-LE (z:=z) (F:=F) (k:=k)];exact hi);rw [List.getD_eq_getElem?_getD,List.getElem?_eq_getElem hi] at e;exact e
theorem reL_0:reL z l F 0=l:=by
 refine List.ext_getElem LE λi h1 h2=>?_;rw [UP,if_neg (Nat.not_lt_zero _),List.getD_eq_getElem?_getD,List.getElem?_eq_getElem h2];rfl
theorem Zc{G:Nat->V->V}(hk:k<l.length)(hG:∀i,i<k->∀x,G i x=F i x):(reL z l F k).set k (G k ((reL z l F k).getD k z))=reL z l G (k+1):=by
 rw [HO hk,if_neg (Nat.lt_irrefl _)];refine List.ext_getElem (by rw [List.length_set,LE,LE]) λi h1 h2=>?_;rw [List.getElem_set,UP];by_cases e:k=i
 ·subst e;rw [if_pos rfl,UP,if_pos aA]
 ·rw [if_neg e,UP];by_cases e2:i<k
  ·rw [if_pos e2,if_pos aA,hG i e2]
  ·rw [if_neg e2,if_neg aA]
end
section
variable {h:GH} {t:TypeId} {f:Nat->Value} {js:List AK} {ns:List AF} {k:Nat} {w:Value}
theorem Nj:HN js f k=reL AK.z js (λi j=>j.re (f i)) k:=rfl
theorem Nk:H5 ns f k=reL AF.z ns (λi j=>j.re (f i)) k:=rfl
theorem LF(js:List AK)(f:Nat->Value)(k:Nat):(HN js f k).length=js.length:=by rw [Nj];exact LE
theorem LG(ns:List AF)(f:Nat->Value)(k:Nat):(H5 ns f k).length=ns.length:=by rw [Nk];exact LE
theorem reJ_0:HN js f 0=js:=by rw [Nj];exact reL_0
theorem reN_0:H5 ns f 0=ns:=by rw [Nk];exact reL_0
theorem reJ_put(hk:k<js.length):(HN js f k).set k (((HN js f k).getD k AK.z).re w)=HN js (λi=>if i=k then w else f i) (k+1):=by
 have:=Zc (z:=AK.z) (l:=js) (F:=λi j=>j.re (f i)) (G:=λi j=>j.re (if i=k then w else f i)) hk (λi hi x=>by rw [if_neg aA])
 rw [if_pos rfl] at this;exact this
theorem reN_put(hk:k<ns.length):(H5 ns f k).set k (((H5 ns f k).getD k AF.z).re w)=H5 ns (λi=>if i=k then w else f i) (k+1):=by
 have:=Zc (z:=AF.z) (l:=ns) (F:=λi j=>j.re (f i)) (G:=λi j=>j.re (if i=k then w else f i)) hk (λi hi x=>by rw [if_neg aA])
 rw [if_pos rfl] at this;exact this
theorem S5(js:List AK)(f:Nat->Value)(k i:Nat):((HN js f k).getD i AK.z).parts=(js.getD i AK.z).parts:=by
 by_cases hi:i<js.length
 ·rw [Nj,HO hi];split <;> rfl
 ·rw [BM (by rw [LF];omega),BM aA]
theorem Vp(ns:List AF)(f:Nat->Value)(k i:Nat):((H5 ns f k).getD i AF.z).ways=(ns.getD i AF.z).ways:=by
 by_cases hi:i<ns.length
 ·rw [Nk,HO hi];split <;> rfl
 ·rw [BM (by rw [LG];omega),BM aA]
theorem BJ.re(x:BJ h js)(y:PV h t f (λi=>(js.getD i AK.z).parts) k):BJ h (HN js f k):=λi=>by
 by_cases hi:i<js.length
 ·rw [Nj,HO hi];by_cases e:i<k
  ·rw [if_pos e];exact (y i e).1
  ·rw [if_neg e];exact x i
 ·rw [BM (by rw [LF];omega)];exact AI.nil _ _ _
theorem Ac.re(x:Ac h ns)(y:PV h t f (λi=>(ns.getD i AF.z).ways) k):Ac h (H5 ns f k):=λi=>by
 by_cases hi:i<ns.length
 ·rw [Nk,HO hi];by_cases e:i<k
  ·rw [if_pos e];exact (y i e).1
  ·rw [if_neg e];exact x i
 ·rw [BM (by rw [LG];omega)];exact AI.nil _ _ _
def CL(h:GH)(t:TypeId)(js:List AK):Prop:=∀k,B8 h t (js.getD k AK.z).pv (js.getD k AK.z).parts
def CY(h:GH)(t:TypeId)(ns:List AF):Prop:=∀k,B8 h t (ns.getD k AF.z).wv (ns.getD k AF.z).ways
theorem CL.jobs(x:CL h t js):BJ h js:=λk=>(x k).1
theorem CY.notes(x:CY h t ns):Ac h ns:=λk=>(x k).1
theorem CL.le{h':GH}(x:CL h t js)(l:h.Le h'):CL h' t js:=λk=>(x k).le l
theorem CY.le{h':GH}(x:CY h t ns)(l:h.Le h'):CY h' t ns:=λk=>(x k).le l
theorem CL.store{h':GH}{t':TypeId}{r:Nat}{p:Bool}{c:Array Value}{g:Nat×Nat}(x:CL h t js)(hr:h r=some (p,.cells c t' g))(ne:t'≠t)(ho:∀b,b≠r->h' b=h b):CL h' t js:=λk=>(x k).store hr ne ho
theorem CY.store{h':GH}{t':TypeId}{r:Nat}{p:Bool}{c:Array Value}{g:Nat×Nat}(x:CY h t ns)(hr:h r=some (p,.cells c t' g))(ne:t'≠t)(ho:∀b,b≠r->h' b=h b):CY h' t ns:=λk=>(x k).store hr ne ho
theorem CL.of(y:PV h t f (λi=>(js.getD i AK.z).parts) k)(hk:js.length<=k):CL h t (HN js f k):=λi=>by
 by_cases hi:i<js.length
 ·rw [Nj,HO hi,if_pos aA];exact y i aA
 ·rw [BM (by rw [LF];omega)];exact B8.nil _ _
theorem CY.of(y:PV h t f (λi=>(ns.getD i AF.z).ways) k)(hk:ns.length<=k):CY h t (H5 ns f k):=λi=>by
 by_cases hi:i<ns.length
 ·rw [Nk,HO hi,if_pos aA];exact y i aA
 ·rw [BM (by rw [LG];omega)];exact B8.nil _ _
theorem BJ.fine1(x:BJ h js)(k:Nat):(CP (js.getD k AK.z)).toList.all (·.oneCell')=true:=by
 show (true && (true && (true && (true && (((js.getD k AK.z).pv.oneCell') && true)))))=true;rw [(AI.one (x k)).2];rfl
theorem BJ.fine(x:BJ h js):∀y ∈ js,(CP y).toList.all (·.oneCell')=true:=λy hy=>by
 obtain ⟨i,hi,e⟩:=List.mem_iff_getElem.1 hy
 have:=x.fine1 i
 rw [List.getD_eq_getElem?_getD,List.getElem?_eq_getElem hi] at this;rw [<-e];exact this
theorem Ac.snoc{x:AF}(a:Ac h ns)(b:AI h x.wv 1 eI x.ways):Ac h (ns++[x]):=λk=>by
 rw [Hb];split
 ·exact a k
 ·cases hk:k-ns.length with
  | zero=>exact b
  | succ n=>rw [BM aD];exact AI.nil _ _ _
end
theorem BD.copy{bag kinds:Int}{ps:List ByteArray}{ws:List AA}{js:List AK}{ns:List AF}(b:BD bag kinds ps ws js ns):(∀i,(js.getD i AK.z).parts.length<=1000)/\∀i,(ns.getD i AF.z).ways.length<=1000:=by
 refine ⟨λi=>?_,λi=>Nat.le_trans (Lu b.note i).1 aC⟩;by_cases hi:i<js.length
 ·have:=(Kc (b.job i hi)).len
  have:=b.hkin
  omega
 ·rw [BM aA];exact Nat.zero_le _
end Go.Ns
namespace Go.Ns
section
variable {P:Program} {E:Gr P} {O:Nat->Value} {ds:List Deferred} {h:GH} {T:(Nat->Value)->List Deferred->GH->Prop} {dst:Option Nat} {ty:TypeId} {pos:String} {af:Array Edge} {gd:Option (Nat×Bool)}
theorem XS{s:ByteArray}{i:Nat}(h:i<s.size):((s[i]'h).toNat:Int)=(bytesOf s).getD i 0:=by
 have h2:i<(bytesOf s).length:=by rw [DJ];exact h
 rw [CH 0 h2];exact (List.getElem_map (l:=s.data.toList) (f:=λb=>(b.toNat:Int)) (h:=h2)).symm
theorem QW{t:TypeId}{x ix:Operand}{s:ByteArray}{kd:IntKind}{i:Int}(ht:PL P t=true)(hx:AQ O x=.string s)(hi:AQ O ix=.int kd i)(h0:0<=i)(h1:i<s.size)(k:T (putS O dst (.int .u8 ((bytesOf s).getD i.toNat 0))) ds h) :
  BX E ⟨dst,.index t x ix,ty,pos,af,gd⟩ O ds h T:=SS ht hx hi h0 h1 (by rw [XS];exact k)
end
theorem Vq{s:ByteArray}(h:¬(1<=(s.size:Int)/\(s.size:Int)<=10)):FE s=false:=by unfold FE;rw [decide_eq_false h,Bool.and_false]
theorem Vr{a b:List UInt8}{v:Bool}(h:(a==b)=v):(b==a)=v:=by rw [<-h];exact BEq.comm
def Ho(l:List Int)(k:Nat)(p q:Int):List Int:=if p=l.getD k 0/\¬q ∈ l then l++[q] else l
def C1(l:List Int)(k:Nat)(x:AA):List Int:=Ho (Ho l k x.a x.b) k x.b x.a
def Af(ws:List AA)(l:List Int)(k:Nat):Nat->List Int
 | 0=>l
 | j+1=>C1 (Af ws l k j) k (ws.getD j AA.z)
def Ap(ws:List AA):Nat->List Int
 | 0=>[0]
 | k+1=>if k<(Ap ws k).length then Af ws (Ap ws k) k ws.length else Ap ws k
def DC(ws:List AA):List Int:=Ap ws 4
def Hd(np:Nat)(l:List Int):Prop:=l.Nodup/\(∀x ∈ l,0<=x/\x<np)/\0<l.length
def L3(np:Nat)(ws:List AA):Prop:=∀k,k<ws.length->(0<=(ws.getD k AA.z).a/\(ws.getD k AA.z).a<np)/\0<=(ws.getD k AA.z).b/\(ws.getD k AA.z).b<np
section
variable {np:Nat} {l:List Int} {ws:List AA} {k j:Nat} {x:Int} {w:AA}
theorem Hd.len(h:Hd np l):l.length<=np:=by
 refine UH np l.length (λk=>(l.getD k 0).toNat) (λi hi=>?_) λi j hij hj=>?_
 ·have:=h.2.1 _ (Bj (d:=(0:Int)) hi)
  show (l.getD i 0).toNat<np;omega
 ·have h1:=h.2.1 _ (Bj (d:=(0:Int)) hj);have h2:=h.2.1 _ (Bj (d:=(0:Int)) (show i<l.length by omega));show (l.getD i 0).toNat≠(l.getD j 0).toNat;intro e;have e2:l.getD i 0=l.getD j 0:=aA
  rw [List.getD_eq_getElem?_getD,List.getD_eq_getElem?_getD,List.getElem?_eq_getElem aA,List.getElem?_eq_getElem hj,Option.getD_some,Option.getD_some] at e2
  have:=(List.pairwise_iff_getElem.1 (List.nodup_iff_pairwise_ne.1 h.1)) i j aA hj hij
  exact this e2
theorem Hd.snoc(h:Hd np l)(hx:0<=x/\x<np)(n:¬x ∈ l):Hd np (l++[x]):=
 ⟨List.nodup_append.2 ⟨h.1,aD,λa ha b hb e=>by rw [List.mem_singleton.1 hb] at e;exact n (e▸ha)⟩,λy hy=>by
  rcases List.mem_append.1 hy with hy | hy
  ·exact h.2.1 y hy
  ·rw [List.mem_singleton.1 hy];exact hx,aD⟩
theorem Mt{p q:Int}(h1:p=l.getD k 0)(h2:¬q ∈ l):Ho l k p q=l++[q]:=if_pos ⟨h1,h2⟩
theorem Mu{p q:Int}(h:¬(p=l.getD k 0/\¬q ∈ l)):Ho l k p q=l:=if_neg h
theorem rs_tt(h1:w.a=l.getD k 0/\¬w.b ∈ l)(h2:w.b=(l++[w.b]).getD k 0/\¬w.a ∈ l++[w.b]):C1 l k w=l++[w.b]++[w.a]:=by unfold C1;rw [Mt h1.1 h1.2,Mt h2.1 h2.2]
theorem rs_tf(h1:w.a=l.getD k 0/\¬w.b ∈ l)(h2:¬(w.b=(l++[w.b]).getD k 0/\¬w.a ∈ l++[w.b])):C1 l k w=l++[w.b]:=by unfold C1;rw [Mt h1.1 h1.2,Mu h2]
theorem rs_ft(h1:¬(w.a=l.getD k 0/\¬w.b ∈ l))(h2:w.b=l.getD k 0/\¬w.a ∈ l):C1 l k w=l++[w.a]:=by unfold C1;rw [Mu h1,Mt h2.1 h2.2]
theorem rs_ff(h1:¬(w.a=l.getD k 0/\¬w.b ∈ l))(h2:¬(w.b=l.getD k 0/\¬w.a ∈ l)):C1 l k w=l:=by unfold C1;rw [Mu h1,Mu h2]
theorem S6{p q:Int}(h:Hd np l)(hq:0<=q/\q<np):Hd np (Ho l k p q):=by
 unfold Ho;split
 ·rename_i c;exact h.snoc hq c.2
 ·exact h
theorem IU(l:List Int)(k:Nat)(p q:Int):l<+:Ho l k p q:=by
 unfold Ho;split
 ·exact List.prefix_append _ _
 ·exact List.prefix_refl _
theorem UQ(h:Hd np l)(ha:0<=w.a/\w.a<np)(hb:0<=w.b/\w.b<np):Hd np (C1 l k w):=S6 (S6 h hb) ha
theorem JB(l:List Int)(k:Nat)(w:AA):l<+:C1 l k w:=(IU _ _ _ _).trans (IU _ _ _ _)
theorem QX{a b:List Int}(h:a<+:b)(hk:k<a.length):b.getD k 0=a.getD k 0:=by
 obtain ⟨t,rfl⟩:=h;rw [Hb,if_pos hk]
theorem J1(h:Hd np l)(hw:L3 np ws):∀j,j<=ws.length->Hd np (Af ws l k j)
 | 0,_=>h
 | j+1,hj=>UQ (J1 h hw j aA) (hw j aA).1 (hw j aA).2
theorem Fv:∀j,l<+:Af ws l k j
 | 0=>List.prefix_refl _
 | j+1=>(Fv j).trans (JB _ _ _)
theorem JK(hn:0<np)(hw:L3 np ws):∀k,Hd np (Ap ws k)
 | 0=>⟨by simp [Ap],λx hx=>by rw [List.mem_singleton.1 hx];omega,Nat.zero_lt_one⟩
 | k+1=>by
  unfold Ap;split
  ·exact J1 (JK hn hw k) hw _ (Nat.le_refl _)
  ·exact JK hn hw k
theorem Kn(hk:k<(Ap ws k).length):Ap ws (k+1)=Af ws (Ap ws k) k ws.length:=if_pos hk
theorem OY(hk:(Ap ws k).length<=k):∀m,k<=m->Ap ws m=Ap ws k
 | 0,h=>by rw [show k=0 by omega]
 | m+1,h=>by
  by_cases e:m+1=k
  ·rw [e]
  ·have ih:=OY hk m aA
   have:Ap ws (m+1)=Ap ws m:=by
    conv=>lhs;unfold Ap
    rw [if_neg (by rw [ih];omega)]
   rw [this,ih]
theorem S7(hk:(Ap ws k).length<=k)(hk4:k<=4):DC ws=Ap ws k:=OY hk 4 hk4
end
def Fw(np:Nat)(ws:List AA):Int:=if (5:Int)<ws.length then 2 else if¬C9 (DK np ws) 0 ws.length=0 then C9 (DK np ws) 0 ws.length else if (DC ws).length<np then 8 else 0
def G9(bag kinds:Int)(ps:List ByteArray)(ws:List AA)(js:List AK)(ns:List AF):Int:=
 if¬GY bag kinds=0 then GY bag kinds else if¬BO ps=0 then BO ps else if¬Fw ps.length ws=0 then Fw ps.length ws else if¬CC ps.length kinds js=0 then CC ps.length kinds js else Cr ws.length ns
section
variable {V:Type} {p:V->Bool} {l:List V} {d:V} {k j:Nat}
theorem Nm(hk:k<l.length)(e:p (l.getD k d)=true):l.any p=true:=List.any_eq_true.2 ⟨_,Bj hk,e⟩
theorem LH(h:(l.take k).any p=false)(hk:l.length<=k):l.any p=false:=by rwa [List.take_of_length_le hk] at h
theorem any_take(hj:j<k)(hk:k<=l.length)(e:p (l.getD j d)=true):(l.take k).any p=true:=by
 refine Nm (k:=j) (d:=d) (by rw [List.length_take];omega) ?_;rw [List.getD_eq_getElem?_getD,List.getElem?_take,if_pos hj,<-List.getD_eq_getElem?_getD];exact e
end
section
variable {np nw:Nat} {ws:List AA} {js:List AK} {ns:List AF} {k:Nat} {kinds:Int}
theorem Mw{a b:Int}(ha:0<=a/\a<=(np:Int)-1)(hb:0<=b/\b<=(np:Int)-1):CB np [a,b]=0:=by
 have h0:E8 np [a,b] 0=0:=if_neg (λe=>e ha);have h1:E8 np [a,b] 1=0:=if_neg (λe=>e hb);show C9 (E8 np [a,b]) 0 2=0;simp [C9,h0,h1]
theorem miss_no{a b:Int}(h:¬(0<=a/\a<=(np:Int)-1)\/¬(0<=b/\b<=(np:Int)-1)):CB np [a,b]=6:=by
 show C9 (E8 np [a,b]) 0 2=6;by_cases ha:0<=a/\a<=(np:Int)-1
 ·have h0:E8 np [a,b] 0=0:=if_neg (λe=>e ha);have h1:E8 np [a,b] 1=6:=if_pos (h.resolve_left λe=>e ha);simp [C9,h0,h1]
 ·have h0:E8 np [a,b] 0=6:=if_pos ha;simp [C9,h0]
theorem QY{a:Int}(ha:0<=a/\a<=(np:Int)-1):CB np [a]=0:=by
 have h0:E8 np [a] 0=0:=if_neg (λe=>e ha);show C9 (E8 np [a]) 0 1=0;simp [C9,h0]
theorem miss_no1{a:Int}(ha:¬(0<=a/\a<=(np:Int)-1)):CB np [a]=6:=by
 have h0:E8 np [a] 0=6:=if_pos ha;show C9 (E8 np [a]) 0 1=6;simp [C9,h0]
variable (ws k) in
def waP(np:Nat):Prop:=(0<=(ws.getD k AA.z).a/\(ws.getD k AA.z).a<=(np:Int)-1)/\(0<=(ws.getD k AA.z).b/\(ws.getD k AA.z).b<=(np:Int)-1)
theorem wy6(h:¬(0<=(ws.getD k AA.z).a/\(ws.getD k AA.z).a<=(np:Int)-1)\/¬(0<=(ws.getD k AA.z).b/\(ws.getD k AA.z).b<=(np:Int)-1)):DK np ws k=6:=by
 unfold DK;rw [miss_no h,if_pos aC]
theorem wyP(h:¬(¬(0<=(ws.getD k AA.z).a/\(ws.getD k AA.z).a<=(np:Int)-1)\/¬(0<=(ws.getD k AA.z).b/\(ws.getD k AA.z).b<=(np:Int)-1))):waP ws k np:=⟨Decidable.byContradiction λe=>h (.inl e),Decidable.byContradiction λe=>h (.inr e)⟩
theorem wy7(h:waP ws k np)(h2:(ws.getD k AA.z).b<=(ws.getD k AA.z).a):DK np ws k=7:=by
 unfold DK;rw [Mw h.1 h.2,if_neg aD,if_pos h2]
theorem wy5(h:waP ws k np)(h2:¬(ws.getD k AA.z).b<=(ws.getD k AA.z).a)(h3:(ws.take k).any (λy=>decide (y.a=(ws.getD k AA.z).a/\y.b=(ws.getD k AA.z).b))=true):DK np ws k=5:=by
 unfold DK;rw [Mw h.1 h.2,if_neg aD,if_neg h2,if_pos h3]
theorem wy1(h:waP ws k np)(h2:¬(ws.getD k AA.z).b<=(ws.getD k AA.z).a)(h3:(ws.take k).any (λy=>decide (y.a=(ws.getD k AA.z).a/\y.b=(ws.getD k AA.z).b))=false)(h4:¬(((0<=(ws.getD k AA.z).low/\(ws.getD k AA.z).low<=(ws.getD k AA.z).high)/\(ws.getD k AA.z).high<=30)/\(ws.getD k AA.z).high-(ws.getD k AA.z).low<2)):DK np ws k=1:=by
 unfold DK;rw [Mw h.1 h.2,if_neg aD,if_neg h2,if_neg (by rw [h3];simp)];exact if_pos h4
theorem wy0(h:waP ws k np)(h2:¬(ws.getD k AA.z).b<=(ws.getD k AA.z).a)(h3:(ws.take k).any (λy=>decide (y.a=(ws.getD k AA.z).a/\y.b=(ws.getD k AA.z).b))=false)(h4:(((0<=(ws.getD k AA.z).low/\(ws.getD k AA.z).low<=(ws.getD k AA.z).high)/\(ws.getD k AA.z).high<=30)/\(ws.getD k AA.z).high-(ws.getD k AA.z).low<2)):DK np ws k=0:=by
 unfold DK;rw [Mw h.1 h.2,if_neg aD,if_neg h2,if_neg (by rw [h3];simp)];exact if_neg (λe=>e h4)
theorem waysOK(h:∀k,k<ws.length->DK np ws k=0):L3 np ws:=λk hk=>by
 have:=h k hk
 unfold DK at this;split at this
 ·rename_i a;exact absurd this a
 ·rename_i a
  have q:=Fu (Decidable.not_not.1 a);have q1:=q _ List.mem_cons_self;have q2:=q _ (List.mem_cons_of_mem _ List.mem_cons_self);omega
theorem rw2(h:(5:Int)<ws.length):Fw np ws=2:=if_pos h
theorem UR{c:Int}(h5:¬(5:Int)<ws.length)(hs:∀j,j<k->DK np ws j=0)(hk:k<ws.length)(e:DK np ws k=c)(hc:c≠0):Fw np ws=c:=by
 have h1:=BR hs hk e hc;rw [Fw,if_neg h5,h1,if_pos hc]
theorem rw8(h5:¬(5:Int)<ws.length)(hs:∀j,j<k->DK np ws j=0)(hk:ws.length<=k)(h:((DC ws).length:Int)<np):Fw np ws=8:=by
 rw [Fw,if_neg h5,CA hs hk,if_neg aD,if_pos aA]
theorem rw0(h5:¬(5:Int)<ws.length)(hs:∀j,j<k->DK np ws j=0)(hk:ws.length<=k)(h:¬((DC ws).length:Int)<np):Fw np ws=0:=by
 rw [Fw,if_neg h5,CA hs hk,if_neg aD,if_neg aA]
theorem jb6(h:¬(0<=(js.getD k AK.z).place/\(js.getD k AK.z).place<=(np:Int)-1)):GA np kinds js k=6:=by
 unfold GA;rw [miss_no1 h,if_pos aC]
theorem jb1(h:0<=(js.getD k AK.z).place/\(js.getD k AK.z).place<=(np:Int)-1)(h2:¬(((0<=(js.getD k AK.z).low/\(js.getD k AK.z).low<=(js.getD k AK.z).high)/\(js.getD k AK.z).high<=30)/\(js.getD k AK.z).high-(js.getD k AK.z).low<2)\/¬(0<=(js.getD k AK.z).due/\(js.getD k AK.z).due<=200)):GA np kinds js k=1:=by
 unfold GA;rw [QY h,if_neg aD];exact if_pos h2
theorem jb2(h:0<=(js.getD k AK.z).place/\(js.getD k AK.z).place<=(np:Int)-1)(h2:¬(¬(((0<=(js.getD k AK.z).low/\(js.getD k AK.z).low<=(js.getD k AK.z).high)/\(js.getD k AK.z).high<=30)/\(js.getD k AK.z).high-(js.getD k AK.z).low<2)\/¬(0<=(js.getD k AK.z).due/\(js.getD k AK.z).due<=200)))(h3:¬((js.getD k AK.z).parts.length:Int)=kinds):GA np kinds js k=2:=by
 unfold GA;rw [QY h,if_neg aD];exact (if_neg h2).trans (if_pos h3)
theorem jb3(h:0<=(js.getD k AK.z).place/\(js.getD k AK.z).place<=(np:Int)-1)(h2:¬(¬(((0<=(js.getD k AK.z).low/\(js.getD k AK.z).low<=(js.getD k AK.z).high)/\(js.getD k AK.z).high<=30)/\(js.getD k AK.z).high-(js.getD k AK.z).low<2)\/¬(0<=(js.getD k AK.z).due/\(js.getD k AK.z).due<=200)))(h3:((js.getD k AK.z).parts.length:Int)=kinds):GA np kinds js k=if (js.getD k AK.z).parts.any (λn=>decide (¬(0<=n/\n<=5))) then 1 else 0:=by
 unfold GA;rw [QY h,if_neg aD];exact (if_neg h2).trans (if_neg (λe=>e h3))
theorem nt2(h:(5:Int)<(ns.getD k AF.z).ways.length):D5 nw ns k=2:=if_pos h
theorem nt6(h:¬(5:Int)<(ns.getD k AF.z).ways.length)(h2:(ns.getD k AF.z).ways.any (λn=>decide (¬(0<=n/\n<=(nw:Int)-1)))=true):D5 nw ns k=6:=by
 unfold D5;rw [if_neg h,if_pos h2]
theorem nt1(h:¬(5:Int)<(ns.getD k AF.z).ways.length)(h2:(ns.getD k AF.z).ways.any (λn=>decide (¬(0<=n/\n<=(nw:Int)-1)))=false)(h3:¬((0<=(ns.getD k AF.z).low/\(ns.getD k AF.z).low<=(ns.getD k AF.z).high)/\(ns.getD k AF.z).high<=200)):D5 nw ns k=1:=by
 unfold D5;rw [if_neg h,if_neg (by rw [h2];simp),if_pos (λe=>h3 e.1)]
theorem nt0(h:¬(5:Int)<(ns.getD k AF.z).ways.length)(h2:(ns.getD k AF.z).ways.any (λn=>decide (¬(0<=n/\n<=(nw:Int)-1)))=false)(h3:(0<=(ns.getD k AF.z).low/\(ns.getD k AF.z).low<=(ns.getD k AF.z).high)/\(ns.getD k AF.z).high<=200):D5 nw ns k=0:=by
 unfold D5;rw [if_neg h,if_neg (by rw [h2];simp),if_neg (λe=>e ⟨h3,aA⟩)]
end
section
variable {ps:List ByteArray} {k:Nat} {a b:List (Int×Int)}
theorem pa4(h:FE (ps.getD k (⟨#[]⟩:ByteArray))=false):FX ps k=4:=by unfold FX;rw [if_pos h]
theorem pa5(h:FE (ps.getD k (⟨#[]⟩:ByteArray))=true)(h2:0<=idxOf (λx=>(ps.getD k (⟨#[]⟩:ByteArray)).toList==x.toList) (ps.take k)):FX ps k=5:=by
 unfold FX;rw [if_neg (by rw [h];simp),if_pos ((FV _ _).1 h2)]
theorem pa0(h:FE (ps.getD k (⟨#[]⟩:ByteArray))=true)(h2:¬0<=idxOf (λx=>(ps.getD k (⟨#[]⟩:ByteArray)).toList==x.toList) (ps.take k)):FX ps k=0:=by
 unfold FX;rw [if_neg (by rw [h];simp),if_neg λe=>h2 ((FV _ _).2 e)]
theorem R9(hs:a.take k=b.take k)(hk:k<=a.length)(h:¬(k:Int)<a.length)(hl:(a.length:Int)=b.length):a=b:=by
 rw [List.take_of_length_le aA,List.take_of_length_le aA] at hs;exact hs
theorem eq_getDP{k:Nat}(h:((a.getD k (0,0)).1==(b.getD k (0,0)).1 && ((a.getD k (0,0)).2==(b.getD k (0,0)).2 && true))=true):a.getD k (0,0)=b.getD k (0,0):=by
 simp only [Bool.and_true,Bool.and_eq_true,beq_iff_eq] at h;exact Prod.ext h.1 h.2
theorem ne_getDP{k:Nat}(h:(!((a.getD k (0,0)).1==(b.getD k (0,0)).1 && ((a.getD k (0,0)).2==(b.getD k (0,0)).2 && true)))=true):¬a=b:=λe=>by rw [e] at h;simp at h
end
section
variable (bag kinds:Int) (ps:List ByteArray) (ws:List AA) (js:List AK) (ns:List AF)
def Ep:Bool:=decide ((((20:Int)<ps.length\/(20:Int)<ws.length)\/(20:Int)<js.length)\/(20:Int)<ns.length) || ps.any (λs=>decide ((100:Int)<s.size)) || js.any (λj=>decide ((20:Int)<j.parts.length)) || ns.any λn=>decide ((20:Int)<n.ways.length)
end
section
variable {ps:List ByteArray} {ws:List AA} {js:List AK} {ns:List AF} {k:Nat}
theorem US(h:Ep ps ws js ns=false)(k:Nat):(ps.getD k (⟨#[]⟩:ByteArray)).size<=1000:=by
 unfold Ep at h;simp only [Bool.or_eq_false_iff] at h;by_cases hk:k<ps.length
 ·have:=List.any_eq_false.1 h.1.1.2 _ (Bj (d:=(⟨#[]⟩:ByteArray)) hk)
  have:=of_decide_eq_false (Bool.eq_false_iff.2 this)
  omega
 ·rw [BM aA];decide
end
section
variable {bag kinds:Int} {ps:List ByteArray} {ws:List AA} {js:List AK} {ns:List AF}
theorem Ko(h:BO ps=0):0<ps.length/\ps.length<=4:=by
 unfold BO at h;split at h
 ·cases h
 ·omega
theorem rc1(h:¬(0<=bag/\bag<=9)\/¬(0<=kinds/\kinds<=3)):G9 bag kinds ps ws js ns=1:=by
 have e:GY bag kinds=1:=if_pos h;unfold G9;rw [e,if_pos aC]
theorem tb0(h:¬(¬(0<=bag/\bag<=9)\/¬(0<=kinds/\kinds<=3))):GY bag kinds=0:=if_neg h
theorem rc2(h0:¬(¬(0<=bag/\bag<=9)\/¬(0<=kinds/\kinds<=3)))(h:¬BO ps=0):G9 bag kinds ps ws js ns=BO ps:=by unfold G9;rw [tb0 h0,if_neg aD,if_pos h]
theorem rc3(h0:¬(¬(0<=bag/\bag<=9)\/¬(0<=kinds/\kinds<=3)))(h1:¬¬BO ps=0)(h:¬Fw ps.length ws=0):G9 bag kinds ps ws js ns=Fw ps.length ws:=by unfold G9;rw [tb0 h0,if_neg aD,if_neg h1,if_pos h]
theorem rc4(h0:¬(¬(0<=bag/\bag<=9)\/¬(0<=kinds/\kinds<=3)))(h1:¬¬BO ps=0)(h2:¬¬Fw ps.length ws=0)(h:¬CC ps.length kinds js=0):G9 bag kinds ps ws js ns=CC ps.length kinds js:=by unfold G9;rw [tb0 h0,if_neg aD,if_neg h1,if_neg h2,if_pos h]
theorem rc5(h0:¬(¬(0<=bag/\bag<=9)\/¬(0<=kinds/\kinds<=3)))(h1:¬¬BO ps=0)(h2:¬¬Fw ps.length ws=0)(h:¬¬CC ps.length kinds js=0):G9 bag kinds ps ws js ns=Cr ws.length ns:=by unfold G9;rw [tb0 h0,if_neg aD,if_neg h1,if_neg h2,if_neg h]
theorem gr_len(h:(((20:Int)<ps.length\/(20:Int)<ws.length)\/(20:Int)<js.length)\/(20:Int)<ns.length):Ep ps ws js ns=true:=by unfold Ep;rw [decide_eq_true h];rfl
theorem gr_p(h:ps.any (λs=>decide ((100:Int)<s.size))=true):Ep ps ws js ns=true:=by unfold Ep;rw [h];simp
theorem gr_j(h:js.any (λj=>decide ((20:Int)<j.parts.length))=true):Ep ps ws js ns=true:=by unfold Ep;rw [h];simp
theorem gr_n(h:ns.any (λn=>decide ((20:Int)<n.ways.length))=true):Ep ps ws js ns=true:=by unfold Ep;rw [h];simp
theorem gr_0(h:¬((((20:Int)<ps.length\/(20:Int)<ws.length)\/(20:Int)<js.length)\/(20:Int)<ns.length))(h1:ps.any (λs=>decide ((100:Int)<s.size))=false)(h2:js.any (λj=>decide ((20:Int)<j.parts.length))=false)(h3:ns.any (λn=>decide ((20:Int)<n.ways.length))=false):Ep ps ws js ns=false:=by
 unfold Ep;rw [decide_eq_false h,h1,h2,h3];rfl
end
end Go.Ns
namespace Go.Ns
def DF:List ByteArray:=[⟨#[119,111,114,107,115]⟩,⟨#[97,121,114]⟩,⟨#[98,117,116,101]⟩]
theorem DQ:∀k,(DF.getD k (⟨#[]⟩:ByteArray)).size<=1000
 | 0=>aC
 | 1=>aC
 | 2=>aC
 | k+3=>by rw [BM (by simp [DF])];decide
def DB:List AA:=[⟨0,1,2,3⟩,⟨1,2,4,4⟩,⟨0,2,5,5⟩]
def Cg(a b c:Value):List AK:=[⟨1,1,1,5,a,[2]⟩,⟨2,1,2,12,b,[1]⟩,⟨0,1,1,20,c,[1]⟩]
theorem CL.ex{h:GH}{t:TypeId}{a b c:Value}(x:B8 h t a [2])(y:B8 h t b [1])(z:B8 h t c [1]):CL h t (Cg a b c):=λk=>by
 match k with
 | 0=>exact x
 | 1=>exact y
 | 2=>exact z
 | k+3=>rw [BM (by show 3<=_;omega)];exact B8.nil _ _
theorem AI.isSl{V:Type}{h:GH}{v:Value}{n:Nat}{enc:V->Array Value}{xs:List V}(x:AI h v n enc xs):∀k i,v≠.int k i:=by
 obtain ⟨a,cap,rfl,_⟩:=x;intro k i e;cases e
theorem AI.across9{h h':GH}{v:Value}{xs:List Int}{r:Nat}{a b c d:Value}{T:TypeId}(x:AI h v 1 eI xs)(hb:h r=some (true,.cells #[.int .i64 3,.int .i64 1,a,b,c,d] T (0,0)))(ho:∀y,y≠r->h' y=h y)
  (ha:∀k i,a≠.int k i) (hb':∀k i,b≠.int k i) (hc:∀k i,c≠.int k i) (hd:∀k i,d≠.int k i) (hx:∀o,o<6->∃i:Fin xs.length,(o+i.val=0->xs[i.val]≠3)/\(o+i.val=1->xs[i.val]≠1)):AI h' v 1 eI xs:=by
 obtain ⟨ad,cap,hv,hcap,hm,he⟩:=x;refine ⟨ad,cap,hv,hcap,hm,λi hi=>?_⟩;obtain ⟨y,off,h1,h2⟩:=he i hi;refine ⟨y,off,h1,h2.same (ho y ?_)⟩;rintro rfl;have key:∀j (hj:j<xs.length),off+j<6/\(#[Value.int .i64 3,.int .i64 1,a,b,c,d]:Array Value).extract (off+j) (off+j+1)=eI xs[j]:=λj hj=>by
  obtain ⟨y2,off2,h3,h4⟩:=he j hj;rw [h1] at h3;simp only [Option.some.injEq,Addr.mk.injEq,and_true] at h3;obtain ⟨rfl,rfl⟩:=h3;obtain ⟨p,cc,t,f,q1,q2,q3⟩:=h4;rw [hb] at q1;simp only [Option.some.injEq,Prod.mk.injEq,Obj.cells.injEq] at q1;obtain ⟨_,rfl,_⟩:=q1;rw [Nat.mul_one] at q2 q3;exact ⟨by simp at q2;omega,q3⟩
 obtain ⟨⟨j,hj⟩,e0,e1⟩:=hx off (by have:=(key i hi).1;omega);obtain ⟨k1,k2⟩:=key j hj;simp only at e0 e1;generalize off+j=o at k1 k2 e0 e1;generalize xs[j]=z at k2 e0 e1
 have:o=0\/o=1\/o=2\/o=3\/o=4\/o=5:=aA
 rcases this with rfl | rfl | rfl | rfl | rfl | rfl
 ·have k3:(#[.int .i64 3]:Array Value)=#[.int .i64 z]:=k2;simp at k3;exact e0 rfl k3.symm
 ·have k3:(#[.int .i64 1]:Array Value)=#[.int .i64 z]:=k2;simp at k3;exact e1 rfl k3.symm
 ·have k3:(#[a]:Array Value)=#[.int .i64 z]:=k2;simp at k3;exact ha _ _ k3
 ·have k3:(#[b]:Array Value)=#[.int .i64 z]:=k2;simp at k3;exact hb' _ _ k3
 ·have k3:(#[c]:Array Value)=#[.int .i64 z]:=k2;simp at k3;exact hc _ _ k3
 ·have k3:(#[d]:Array Value)=#[.int .i64 z]:=k2;simp at k3;exact hd _ _ k3
end Go.Ns
namespace Go.Ns
section
variable {m:Fk} {b np i k n:Nat}
end
section
variable {p:AG} {ws:List AA} {np:Nat}
end
end Go.Ns
namespace Go.Ns
section
variable {ws:List AA} {c:Gq} {x:AA} {i n k np:Nat}
theorem Kp(h:c i=true):EO c x i=true:=by
 unfold EO Gq.set;by_cases e:i=x.b.toNat
 ·rw [if_pos e];by_cases e2:x.b.toNat=x.a.toNat
  ·rw [if_pos e2];rw [e,e2] at h;rw [h];simp
  ·rw [if_neg e2,<-e,h];simp
 ·rw [if_neg e];by_cases e2:i=x.a.toNat
  ·rw [if_pos e2,<-e2,h];simp
  ·rw [if_neg e2];exact h
theorem Vs(h:c x.a.toNat=true\/c x.b.toNat=true):EO c x x.a.toNat=true/\EO c x x.b.toNat=true:=by
 unfold EO Gq.set;rcases h with h | h
 ·constructor
  ·by_cases e:x.a.toNat=x.b.toNat
   ·rw [if_pos e];simp [h]
   ·rw [if_neg e];simp [h]
  ·rw [if_pos rfl];simp [h]
 ·constructor
  ·by_cases e:x.a.toNat=x.b.toNat
   ·rw [if_pos e];simp [h]
   ·rw [if_neg e];simp [h]
  ·rw [if_pos rfl];simp [h]
theorem H6:∀(l:List AA)(c:Gq),c i=true->l.foldl EO c i=true
 | [],_,h=>h
 | x ::l,c,h=>H6 l _ (Kp h)
theorem J2:∀(l:List AA)(c:Gq),x ∈ l->(c x.a.toNat=true\/c x.b.toNat=true)->l.foldl EO c x.a.toNat=true/\l.foldl EO c x.b.toNat=true
 | y ::l,c,hx,h=>by
  rcases List.mem_cons.1 hx with e | hx
  ·subst e;have b:=Vs h;exact ⟨H6 l _ b.1,H6 l _ b.2⟩
  ·exact J2 l _ hx (h.imp Kp Kp)
theorem Kq:∀n (c:Gq),D4 ws (n+1) c=HW ws (D4 ws n c)
 | 0,_=>rfl
 | n+1,c=>Kq n (HW ws c)
theorem Nn{m:Nat}(h:D4 ws n c i=true):∀d,m=n+d->D4 ws m c i=true
 | 0,e=>by rw [e];exact h
 | d+1,e=>by
  rw [e,show n+(d+1)=(n+d)+1 by omega,Kq];exact H6 ws _ (Nn h d rfl)
def c0:Gq:=Gq.none.set 0 true
def JL(ws:List AA)(l:List Int):Prop:=∀i,i<l.length->D4 ws i c0 (l.getD i 0).toNat=true
theorem JL.snoc{l:List Int}{q:Int}(h:JL ws l)(hq:D4 ws l.length c0 q.toNat=true):JL ws (l++[q]):=λi hi=>by
 rw [List.length_append,List.length_singleton] at hi;rw [Hb];by_cases e:i<l.length
 ·rw [if_pos e];exact h i e
 ·rw [if_neg e,show i=l.length by omega,Nat.sub_self];exact hq
theorem JL.step{l:List Int}(h:JL ws l)(hk:k<l.length)(hx:x ∈ ws):JL ws (C1 l k x):=by
 have one:∀{l:List Int}{p q:Int},JL ws l->k<l.length->(x.a=p/\x.b=q\/x.b=p/\x.a=q)->JL ws (Ho l k p q):=by
  intro l p q h hk hpq;unfold Ho;split
  ·rename_i e
   have f:=h k hk;rw [<-e.1] at f;have g:D4 ws (k+1) c0 q.toNat=true:=by
    rw [Kq];rcases hpq with ⟨rfl,rfl⟩ | ⟨rfl,rfl⟩
    ·exact (J2 ws _ hx (.inl f)).2
    ·exact (J2 ws _ hx (.inr f)).1
   exact h.snoc (Nn g (l.length-(k+1)) aA)
  ·exact h
 have h1:=one h hk (.inl ⟨rfl,rfl⟩);have hl:=(IU l k x.a x.b).length_le;exact one h1 aA (.inr ⟨rfl,rfl⟩)
theorem JL.ways{l:List Int}(h:JL ws l)(hk:k<l.length):∀j,j<=ws.length->JL ws (Af ws l k j)
 | 0,_=>h
 | j+1,hj=>(JL.ways h hk j aA).step (Nat.lt_of_lt_of_le hk (Fv j).length_le) (Bj aA)
theorem Np:∀k,JL ws (Ap ws k)
 | 0=>λi hi=>by
  have:i=0:=by
   have:i<1:=hi
   omega
  subst this;rfl
 | k+1=>by
  unfold Ap;split
  ·rename_i e;exact (Np k).ways e _ (Nat.le_refl _)
  ·exact Np k
theorem UT(hn:0<np)(hw:L3 np ws)(h:¬(DC ws).length<np):EF np ws=0:=by
 have ok:Hd np (DC ws):=JK hn hw 4;have hl:=ok.len;have all:∀y,y<np->D4 ws np c0 y=true:=λy hy=>by
  have mem:(y:Int) ∈ DC ws:=Decidable.byContradiction λe=>by
   have:=(ok.snoc (x:=(y:Int)) ⟨aA,aA⟩ e).len
   rw [List.length_append,List.length_singleton] at this;omega
  obtain ⟨i,hi,e⟩:=List.mem_iff_getElem.1 mem;have f:D4 ws i c0 ((DC ws).getD i 0).toNat=true:=Np (ws:=ws) 4 i hi;have e2:(DC ws).getD i 0=(y:Int):=by
   rw [List.getD_eq_getElem?_getD,List.getElem?_eq_getElem hi];exact e
  rw [e2] at f;exact Nn f (np-i) (by have hi':i<(DC ws).length:=hi;omega)
 unfold EF;rw [if_neg];intro e;obtain ⟨b,hb,hf⟩:=List.any_eq_true.1 e;unfold NZ at hb;obtain ⟨y,hy,rfl⟩:=List.mem_map.1 hb
 have:D4 ws np (Gq.none.set 0 true) y=true:=all y (List.mem_range.1 hy)
 rw [this] at hf;cases hf
end
section
variable {bag kinds:Int} {ps:List ByteArray} {ws:List AA} {js:List AK} {ns:List AF}
end
end Go.Ns
namespace Go.Ns
open Go.Conc
section
variable {P:Program} {E:Gr P} {O:Nat->Value} {ds:List Deferred} {h:GH} {T:(Nat->Value)->List Deferred->GH->Prop} {dst:Option Nat} {ty:TypeId} {pos:String} {af:Array Edge} {gd:Option (Nat×Bool)}
end
section
variable {F G:AG->Int} {l:List AG} {x:AG}
end
section
variable {bag kinds:Int} {ps:List ByteArray} {ws:List AA} {js:List AK} {ns:List AF} {a b c:Int}
theorem openB_09(bk:Aj bag kinds ps ws js ns=0):(AY bag kinds ps ws js ns 0=0/\0<(AD ws js ns).length)\/(AY bag kinds ps ws js ns 0=9/\(AD ws js ns).length=0):=by
 unfold AY;rw [if_neg (λe=>e bk),if_neg aD];by_cases e:(AD ws js ns).length=0
 ·rw [if_pos e];exact .inr ⟨rfl,e⟩
 ·rw [if_neg e];exact .inl ⟨rfl,aA⟩
end
section
variable {bag kinds:Int} {ps:List ByteArray} {ws:List AA} {js:List AK} {ns:List AF} {a b c s:Int}
end
end Go.Ns
namespace Go.Ns
open Go.Conc
section
variable {P:Program} {Post:Value->World->Prop}
def Zd(P:Program)(Post:Value->World->Prop):Wk P:=⟨true,EL P Post,LR⟩
theorem UU:Lq (Zd P Post):=⟨Post,rfl⟩
theorem top_of_tr{f:FuncId}{fn:Func}{c:Code}{args:Array Value}{h:GH}{R:Value->GH->Prop}(hf:P.funcs[f]? =some fn)(hb:fn.body=some c)(hsz:args.size<=fn.ntmps)(hin:P.inits.idxOf? f=none)(hpost:∀v h',R v h'->∀w,EV w h'->Post v w)
  (x:Tr ⟨Zd P Post,f,none,fn.ntmps⟩ c (λi=>args.getD i undef) [] h (λe O ds h'=>(e=.normal\/e=.ret)/\Gu P fn O R ds h')):EL P Post (G (Frame.enter P f args .normal) []) h:=by
 have e0:Frame.enter P f args .normal=Cu (Frame.enter P f args .normal) (args++Array.replicate (fn.ntmps-args.size) undef) [] [.code c]:=by
  simp [Frame.enter,Cu,hf,hb]
 rw [e0];let L:Lv:=λj t ds h'=>(j=none\/j=some .ret)/\∃O,Bi t fn.ntmps O/\Gu P fn O R ds h';have fin:∀O ds h' t k,Bi t fn.ntmps O->Gu P fn O R ds h'->(Zd P Post).K (G (E4 (Frame.enter P f args .normal) t ds k) []) h':=by
  intro O ds h' t k hs ho;refine N5 (W:=Zd P Post) (R:=R) hf (b:=Frame.enter P f args .normal) rfl (λt k v h h' hr hrun=>?_) ds h' t k hs ho;refine Wi rfl λw fw=>?_;obtain ⟨w',es,r1,r2⟩:=hrun w fw;refine ⟨v,w',seen P f es++ #[],h',?_,r2.sub (es':=seen P f es++ #[]) λe he=>?_,hpost v h' hr w' r2.fits⟩
  ·rw [Lg];unfold unwind;have hfn:(E4 (Frame.enter P f args .normal) t [] k).fn=f:=rfl;have hk:(E4 (Frame.enter P f args .normal) t [] k).kind=.normal:=rfl;have hm:(E4 (Frame.enter P f args .normal) t [] k).mode=.returning:=rfl;have hd:(E4 (Frame.enter P f args .normal) t [] k).defers=[]:=rfl;have ht:(E4 (Frame.enter P f args .normal) t [] k).tmps=t:=rfl;simp only [hd,hm,hfn,hf,ht,r1,GStep.after,doReturn,hk,hin];rfl
  ·rw [Array.append_empty] at he;exact mem_seen he
 refine x (Frame.enter P f args .normal) [] [] L _ rfl rfl ⟨?_,?_,?_⟩ ⟨by simp;omega,λi=>?_⟩ ?_
 ·rintro t ds h' ⟨_,O,hs,ho⟩;exact Wk.go (E4 (Frame.enter P f args .normal) t ds []) (λw=>by rw [A7];simp [stepG.exec,Cu,E4,G,Frame.enter]) (fin O ds h' t [] hs ho)
 ·rintro t ds h' k ⟨_,O,hs,ho⟩;exact Wk.go (E4 (Frame.enter P f args .normal) t ds (.code .ret ::k)) (λw=>by rw [A7];simp [stepG.exec,Cu,E4,G,Frame.enter]) (fin O ds h' t _ hs ho)
 ·rintro id t ds h' k _ ⟨h1 | h1,_⟩ <;> cases h1
 ·by_cases hi:i<args.size
  ·simp [Array.getD_eq_getD_getElem?,Array.getElem?_append_left hi]
  ·simp only [Array.getD_eq_getD_getElem?];rw [Array.getElem?_append_right aA,Array.getElem?_eq_none (show args.size<=i by omega),Array.getElem?_replicate];split <;> rfl
 ·rintro e O ds h' ⟨he,ho⟩ t' ht';rcases he with rfl | rfl
  ·exact Wk.go (E4 (Frame.enter P f args .normal) t' ds []) (λw=>by rw [A7];simp [stepG.exec,Cu,E4,G,Frame.enter]) (fin O ds h' t' [] ht' ho)
  ·exact ⟨.inr rfl,O,ht',ho⟩
def GH.of(W:World):GH:=λb=>(W.heap[b]?).map λo=>(false,o)
theorem GH.of_some{W:World}{b:Nat}{o:Obj}(h:W.heap[b]? =some o):GH.of W b=some (false,o):=by unfold GH.of;rw [h];rfl
theorem fits_of(W:World):EV W (GH.of W):=λb p o h=>by
 unfold GH.of at h;cases e:W.heap[b]? with
 | none=>rw [e] at h;cases h
 | some x=>rw [e] at h;cases h;rfl
theorem kept_of{W w:World}{h:GH}(l:(GH.of W).Le h)(f:EV w h){b:Nat}{o:Obj}(hb:W.heap[b]? =some o):w.heap[b]? =some o:=f b _ _ (l.keep (GH.of_some hb) rfl)
theorem XT{g:Goroutine}{W:World}(hg:EL P Post g (GH.of W)):Bz P (Jb Post W.os W.output) (solo g W) #[]:=by
 have hno:∀k a,touchAt (#[]:Trace) k=some a->False:=λk a h=>by
  obtain ⟨op,h1,_⟩:=touch_of h;simp at h1
 refine hg #[g] W none (λ_=>0) #[] ⟨rfl,?_,fits_of W,?_,?_,λk a b hk=>(hno k a hk).elim,?_,λk a hk=>(hno k a hk).elim,λb p o k a _ _ hk=>(hno k a hk).elim⟩
 ·intro j x hj hx;rw [Array.getElem?_eq_none (by simp;omega)] at hx;cases hx
 ·intro op hop;simp at hop
 ·rintro said ⟨i,j,hij,⟨a,b,ha,_⟩,_⟩;exact hno i a ha
 ·intro op hop;simp at hop
end
end Go.Ns
namespace Go.Ns
open Go.Conc Go.ChangeShapes Go.WideShapes Go.ChangeAt Go.RowKit
section
variable {P:Program} {W:World}
theorem XU{b off n:Nat}{cs:List Value}(h:W.cells? 0 ⟨b,off,none⟩ n=some cs)(hn:0<n):AZ (GH.of W) b off n cs.toArray:=by
 obtain ⟨_,hl,hc⟩:=World.cells?_some h;have hcell:∀i,i<n->W.cell? ⟨b,off+i,none⟩=cs[i]? :=λi hi=>by
  have:=hc i hi
  unfold Addr.add at this;split at this
  ·rename_i e;subst e;exact this
  ·exact this
 have h0:=hcell 0 hn;unfold World.cell? at h0;cases hb:W.heap[b]? with
 | none=>simp [hb,List.getElem?_eq_getElem (show 0<cs.length by omega)] at h0
 | some o=>
  cases o with
  | cells c t f=>
   have hall:∀i,i<n->c[off+i]? =cs[i]? :=λi hi=>by
    have:=hcell i hi
    unfold World.cell? at this;simpa [hb] using this
   have hlast:=hall (n-1) aA;rw [List.getElem?_eq_getElem (show n-1<cs.length by omega)] at hlast;have hsz:=(Array.getElem?_eq_some_iff.1 hlast).1;refine ⟨false,c,t,f,GH.of_some hb,aA,?_⟩;apply Array.ext
   ·simp;omega
   ·intro i h1 h2;have hi:i<n:=by simp at h2;omega
    have:=hall i hi
    rw [Array.getElem?_eq_getElem aA,List.getElem?_eq_getElem aA] at this;simpa using this
  | _=>simp [hb,List.getElem?_eq_getElem (show 0<cs.length by omega)] at h0
def Opens(P:Program)(e:TypeId){V:Type}(enc:V->Array Value)(good:V->Prop):Prop:=
 ∀{H:Type}(en:TypeId×Value->H)(W:World)(base:Nat)(sp:Nat->Bool)(held:Bool)(fuel:Nat)(cs:List Value)(x:DataW H×List MemPlace),DataW.trod en P W base sp held fuel e cs=some x->∃a:V,cs=(enc a).toList/\good a
def L4(P:Program)(W:World)(e:TypeId){V:Type}(enc:V->Array Value)(good:V->Prop):Prop:=
 ∀{H:Type}(en:TypeId×Value->H)(sp:Nat->Bool)(held:Bool)(fuel:Nat)(cs:List Value)(x:DataW H×List MemPlace),DataW.trod en P W 0 sp held fuel e cs=some x->(∀y ∈ x.1.weights P e,y<=reachBytes)->∃a:V,cs=(enc a).toList/\good a
theorem Kr{H:Type}{e:TypeId}{d:DataW H}{y:Nat}:∀{l:List (DataW H)},d ∈ l->y ∈ d.weights P e->y ∈ DataW.weightsAll P e l
 | c ::l,hd,hy=>by
  unfold DataW.weightsAll;rcases List.mem_cons.1 hd with rfl | hd
  ·exact List.mem_append_left _ hy
  ·exact List.mem_append_right _ (Kr hd hy)
theorem JM{H:Type}{en:TypeId×Value->H}{sp:Nat->Bool}{held:Bool}{fuel:Nat}{t e:TypeId}{n:Nat}{V:Type}{enc:V->Array Value}{good:V->Prop}{v:Value}{d:DataW H}{ps:List MemPlace}(ht:P.underlying t=some (.slice e))(hc:P.cellsOf e=n)(hn:0<n)
  (hb:1<=P.bytesOf e) (ho:L4 P W e enc good) (h:DataW.trod en P W 0 sp held fuel t [v]=some (d,ps)) (hw:∀y ∈ d.weights P t,y<=reachBytes):∃xs:List V,AI (GH.of W) v n enc xs/\∀x ∈ xs,good x:=by
 rcases DataW.trod_slice ht h with ⟨h1,_⟩ | ⟨a,len,cap,elems,rest,m,rfl,h1,h2,_,hl,_,hlen,hel,_,_⟩
 ·simp at h1;subst h1;exact ⟨[],AI.nil _ _ _,λx hx=>by cases hx⟩
 ·simp only [List.cons.injEq,and_true] at h1;subst h1;simp only [Prod.mk.injEq] at h2;have hd:d=.slice (elems.map (·.1)) (rest.map (·.1)):=h2.1;have hlim:len<=140737488355328:=by
   have:=hw ((elems.map (·.1)).length+(rest.map (·.1)).length |>.mul (P.bytesOf e)) (by rw [hd];unfold DataW.weights;rw [ht];exact List.mem_cons_self ..)
   have h3:(elems.map (·.1)).length+(rest.map (·.1)).length<=((elems.map (·.1)).length+(rest.map (·.1)).length)*P.bytesOf e:=Nat.le_mul_of_pos_right _ hb;have h4:((elems.map (·.1)).length+(rest.map (·.1)).length)*P.bytesOf e<=reachBytes:=this;rw [List.length_map] at h3 h4;unfold reachBytes at h4;omega
  have each:∀i,i<len->∃x:V,∃b off,a=⟨b,off,none⟩/\AZ (GH.of W) b (off+i*n) n (enc x)/\good x:=λi hi=>by
   have:=hel i hi
   rw [List.getElem?_eq_getElem aA,hc] at this;simp only [Option.bind_eq_some_iff] at this;obtain ⟨cs,hcs,hx⟩:=this;obtain ⟨x,e1,e2⟩:=ho _ _ _ _ _ _ hx λy hy=>hw y (by rw [hd];unfold DataW.weights;rw [ht];exact List.mem_cons_of_mem _ (List.mem_append_left _ (Kr (List.mem_map.2 ⟨_,List.getElem_mem (show i<elems.length by omega),rfl⟩) hy)));have hc0:=(World.cells?_some hcs).2.2 0 hn;have hlen2:=(World.cells?_some hcs).2.1;rw [List.getElem?_eq_getElem (show 0<cs.length by omega)] at hc0;have hsp:=World.cell?_spot hc0;obtain ⟨b,off,spot⟩:=a;have hspot:spot=none\/i≠0:=by
    by_cases e0:i=0
    ·subst e0;left;simpa [Addr.add] using hsp
    ·exact .inr e0
   have hfirst:spot=none:=by
    rcases hspot with e | e
    ·exact e
    ·have h00:=hel 0 aA;rw [List.getElem?_eq_getElem aA,hc] at h00;simp only [Option.bind_eq_some_iff] at h00;obtain ⟨c0,hc00,_⟩:=h00;have z:=(World.cells?_some hc00).2.2 0 hn;have zl:=(World.cells?_some hc00).2.1;rw [List.getElem?_eq_getElem (show 0<c0.length by omega)] at z
     have:=World.cell?_spot z
     simpa [Addr.add] using this
   subst hfirst;refine ⟨x,b,off,rfl,?_,e2⟩;have ea:(Addr.add ⟨b,off,none⟩ (i*n))=⟨b,off+i*n,none⟩:=by
    unfold Addr.add;split
    ·rename_i e;rw [e];rfl
    ·rfl
   rw [ea] at hcs
   have:=XU hcs hn
   rw [e1] at this;simpa using this
  by_cases hz:len=0
  ·subst hz;exact ⟨[],⟨some a,cap,rfl,Nat.zero_le _,Nat.zero_le _,λi hi=>by simp at hi⟩,λx hx=>by cases hx⟩
  ·have hch:∀i:Fin len,∃x:V,∃b off,a=⟨b,off,none⟩/\AZ (GH.of W) b (off+i.val*n) n (enc x)/\good x:=λi=>each i.val i.isLt;refine ⟨List.ofFn λi=>Classical.choose (hch i),⟨some a,cap,by rw [List.length_ofFn],by rw [List.length_ofFn];exact hl,by rw [List.length_ofFn];exact hlim,λi hi=>?_⟩,λx hx=>?_⟩
   ·rw [List.length_ofFn] at hi;obtain ⟨b,off,e1,e2,_⟩:=Classical.choose_spec (hch ⟨i,hi⟩);refine ⟨b,off,by rw [e1],?_⟩;rw [List.getElem_ofFn];exact e2
   ·obtain ⟨i,rfl⟩:=List.mem_ofFn.1 hx;obtain ⟨_,_,_,_,e3⟩:=Classical.choose_spec (hch i);exact e3
theorem JN{H:Type}{en:TypeId×Value->H}{t:TypeId}(hl:laidOutB P=true)(hr:P.readableRec t=true)(hrow:t<P.types.size){W':World}{v:Value}{d:DataW H}{ps:List MemPlace}(h:DataW.Trod en P W 0 (λ_=>true) true t v d ps)
  (hk:∀(b:Nat)(o:Obj),W.heap[b]? =some o->W'.heap[b]? =some o) (hlt:∀x ∈ ps,x.block<W.heap.size):DataW.Trod en P W' 0 (λb=>decide (b<W.heap.size)) true t v d ps:=by
 let W2:World:={ W' with os:=W.os,tape:=W.tape,output:=W.output };have hsz:W.heap.size<=W'.heap.size:=by
  rcases Nat.lt_or_ge W'.heap.size W.heap.size with x | x
  ·have:=hk W'.heap.size _ (Array.getElem?_eq_getElem x)
   rw [Array.getElem?_eq_none (Nat.le_refl _)] at this;cases this
  ·exact x
 have hb:Below W.heap.size W W2:=⟨rfl,rfl,rfl,hsz,λk hk'=>by
  show W'.heap[k]? =_;rw [Array.getElem?_eq_getElem hk'];exact hk k _ (Array.getElem?_eq_getElem hk')⟩
 exact DataW.Trod.of_heap (w:=W2) (w':=W') rfl (Below.trod hl hr hrow h hb hlt)
theorem kept_but{W':World}(hk:∀(b:Nat)(o:Obj),W.heap[b]? =some o->W'.heap[b]? =some o)(ho:W'.os=W.os)(hp:W'.output=W.output)(may:MemPlace->Prop):W.keptBut W' may:=by
 refine ⟨ho,hp,λi hi=>?_⟩;rw [hk i _ (Array.getElem?_eq_getElem hi),Array.getElem?_eq_getElem hi];split <;> simp_all
end
end Go.Ns
namespace Go.Ns
open Go.Conc
theorem IV{P:Program}{E:Gr P}{O:Nat->Value}{ds:List Deferred}{h:GH}{T:(Nat->Value)->List Deferred->GH->Prop}{dst:Option Nat}{ty:TypeId}{pos:String}{af:Array Edge}{gd:Option (Nat×Bool)}{V:Type}
  {s x:TypeId} {o1 o2:Operand} {h0:GH} {w:Value} {r e n bytes:Nat} {enc:V->Array Value} {ys:List V} (ht:Ii P s x=some (e,n,bytes)) (h1:AQ O o1=.slice (some ⟨r,0,none⟩) 0 0) (h2:AQ O o2=w)
  (hv:AM h0 h (.slice (some ⟨r,0,none⟩) 0 0) e n enc ([]:List V)) (hw:AI h w n enc ys) (l0:∀q,h q=none->h0 q=none) (hb:(2*(([]:List V).length+ys.length)+512)*bytes<=2 ^ 48) (hfine:∀y ∈ ys,(enc y).toList.all (·.oneCell')=true)
  (k:∀v' h',AM h0 h' v' e n enc ys->GU h h' (.slice (some ⟨r,0,none⟩) 0 0) v'->h.Le h'->T (putS O dst v') ds h'):BX E ⟨dst,.call ⟨.builtin .append,#[o1,o2],#[s,x]⟩,ty,pos,af,gd⟩ O ds h T:=
 PR ht h1 h2 hv hw l0 hb hfine λv' h' o g1 g2 g3=>k v' h' o ⟨g1,g2⟩ (.of λb y hb=>by
  by_cases e:b=r
  ·subst e;rcases hv with ⟨q,_⟩ | ⟨b1,cap,c,q,_,q2,q3,_⟩
   ·cases q
   ·simp only [Value.slice.injEq,Option.some.injEq,Addr.mk.injEq,and_true] at q;obtain ⟨rfl,_,rfl⟩:=q;obtain ⟨c',q5,q6⟩:=g3 b c rfl q2;rw [q2] at hb;cases hb;rw [q5,Array.eq_empty_of_size_eq_zero (show c.size=0 by omega),Array.eq_empty_of_size_eq_zero (show c'.size=0 by omega)]
  ·exact g1 b y hb λq=>e (by simpa [Ch] using q.symm))
section
variable {n i:Nat} {l kn rest:List Int}
end
section
variable {n:Nat} {a b:List Sl}
end
section
variable {l:List Int} {i q:Nat}
end
section
variable {bag kinds:Int} {ps:List ByteArray} {ws:List AA} {js:List AK} {ns:List AF} {l:List Int} {p:AG} {i:Nat}
end
section
variable {F G:AG->Int} {l:List AG}
end
section
variable {bag kinds:Int} {ps:List ByteArray} {ws:List AA} {js:List AK} {ns:List AF} {l:List Int} {i k:Nat}
end
end Go.Ns
namespace Go.Ns
section
variable {bag kinds:Int} {ps:List ByteArray} {ws:List AA} {js:List AK} {ns:List AF} {r l:List Int} {i k:Nat} {s:Int}
end
end Go.Ns
namespace Go.Ns
theorem XV{a b:List Int}{k:Nat}(hk:k<=a.length)(hkb:k<=b.length)(h:¬((k:Int)<a.length/\(k:Int)<b.length)):(GX a b (a.length-k) k<0)↔(a.length:Int)<b.length:=by
 by_cases hA:(k:Int)<a.length
 ·rw [G3 aA,if_pos aA];omega
 ·rw [KY (k:=k) hA];split <;> omega
theorem before_ne{a b:List Int}{k:Nat}(hk:k<a.length)(hkb:k<b.length)(h:¬a.getD k 0=b.getD k 0):(GX a b (a.length-k) k<0)↔a.getD k 0<b.getD k 0:=by
 rw [G3 hk,if_neg aA];unfold Pp;split
 ·simp_all
 ·split <;> simp_all <;> omega
theorem before_eq{a b:List Int}{k:Nat}(hk:k<a.length)(hkb:k<b.length)(h:¬¬a.getD k 0=b.getD k 0):GX a b (a.length-k) k=GX a b (a.length-(k+1)) (k+1):=by
 have e:=Decidable.not_not.1 h;rw [G3 hk,if_neg aA,if_neg (by unfold Pp;rw [e];simp)]
section
variable {a b c:List Int} {x y:Int}
end
section
variable {jobs l r:List Int} {f n:Nat}
end
section
variable {g pre:List (List Int)} {x:List Int}
end
section
variable {G:List Int->Int} {l:List (List Int)}
end
end Go.Ns
namespace Go.Ns
section
variable {c:Gq} {q i:Nat} {x:Int}
end
section
variable {bag kinds:Int} {ps:List ByteArray} {ws:List AA} {js:List AK} {ns:List AF} {r:List Int} {k:Nat} {x:Int}
end
theorem BJ.snoc{h:GH}{js:List AK}{x:AK}(a:BJ h js)(b:AI h x.pv 1 eI x.parts):BJ h (js++[x]):=λk=>by
 rw [Hb];split
 ·exact a k
 ·cases hk:k-js.length with
  | zero=>exact b
  | succ n=>rw [BM aD];exact AI.nil _ _ _
end Go.Ns
namespace Go.Ns
open Go.Conc Go Go.RowKit
section
variable {P:Program} {E:Gr P} {O:Nat->Value} {ds:List Deferred} {h:GH} {T:(Nat->Value)->List Deferred->GH->Prop} {dst:Option Nat} {ty:TypeId} {pos:String} {af:Array Edge} {gd:Option (Nat×Bool)}
end
def JO(l:List Int):Nat:=l.length*100000+(l.foldl (λn x=>10*n+x.toNat) 0)
def chk1:Bool:=(List.range 5).all λn=>(List.range (2 ^ n)).all λ(x:Nat)=>(List.range (2 ^ n)).all λ(y:Nat)=>Jm (Bd (x:Int) n) (Bd (y:Int) n)==decide (JO (Bd (x:Int) n)<JO (Bd (y:Int) n))
def chk5:Bool:=(List.range 5).all λn=>(List.range (2 ^ n)).all λ(x:Nat)=>(List.range (2 ^ n)).all λ(y:Nat)=>Eo (true,Bd (y:Int) n) (Bd (x:Int) n)==decide (JO (Bd (y:Int) n)<JO (Bd (x:Int) n))
theorem chk5_true:chk5=true:=aB
theorem chk1_true:chk1=true:=aB
theorem mask_cmp{n x y:Nat}(hn:n<=4)(hx:x<2 ^ n)(hy:y<2 ^ n):Jm (Bd (x:Int) n) (Bd (y:Int) n)=decide (JO (Bd (x:Int) n)<JO (Bd (y:Int) n)):=by
 have h:=chk1_true;unfold chk1 at h;rw [List.all_eq_true] at h;have h2:=List.all_eq_true.1 (List.all_eq_true.1 (h n (List.mem_range.2 aA)) x (List.mem_range.2 hx)) y (List.mem_range.2 hy);exact eq_of_beq h2
theorem XW{n x y:Nat}(hn:n<=4)(hx:x<2 ^ n)(hy:y<2 ^ n):Eo (true,Bd (y:Int) n) (Bd (x:Int) n)=decide (JO (Bd (y:Int) n)<JO (Bd (x:Int) n)):=by
 have h:=chk5_true;unfold chk5 at h;rw [List.all_eq_true] at h;have h2:=List.all_eq_true.1 (List.all_eq_true.1 (h n (List.mem_range.2 aA)) x (List.mem_range.2 hx)) y (List.mem_range.2 hy);exact eq_of_beq h2
theorem pickI_all:∀n,n<=4->Bd (((2 ^ n-1:Nat)):Int) n=BQ n
 | 0,_=>aC
 | 1,_=>aC
 | 2,_=>aC
 | 3,_=>aC
 | 4,_=>aC
 | n+5,h=>aA
def Dw(ns:List AF)(l:List Int):List AF:=l.map λi=>ns.getD i.toNat AF.z
section
variable {ns:List AF} {l:List Int} {k:Nat} {h:GH}
theorem IW(ns:List AF)(l:List Int):(Dw ns l).length=l.length:=List.length_map _
theorem Vt(hk:k<l.length):Dw ns (l.take (k+1))=Dw ns (l.take k)++[ns.getD (l.getD k 0).toNat AF.z]:=by
 unfold Dw;rw [Cq 0 hk,List.map_append];rfl
theorem XX(h:¬(k:Int)<l.length):Dw ns (l.take k)=Dw ns l:=by rw [List.take_of_length_le aA]
theorem L5(hk:k<l.length):(Dw ns l).getD k AF.z=ns.getD (l.getD k 0).toNat AF.z:=by
 unfold Dw;rw [CH AF.z (by simpa using hk),List.getElem_map,CH 0 hk]
theorem Ac.alone(x:Ac h ns)(l:List Int):Ac h (Dw ns l):=λq=>by
 by_cases hq:q<l.length
 ·rw [L5 hq];exact x _
 ·rw [BM (by rw [IW];omega)];exact Ac.nil h 0
theorem Io(mask:Int)(n:Nat):Dw ns (Bd mask n)=Dx ns mask n:=by
 unfold Dw Bd Dx;rw [List.map_map];exact List.map_congr_left λi _=>rfl
theorem XY(ns:List AF):Dw ns (BQ ns.length)=ns:=by
 apply List.ext_getElem
 ·rw [IW,CQ]
 ·intro i h1 h2
  have:=L5 (ns:=ns) (l:=BQ ns.length) (k:=i) (by rw [CQ];exact h2)
  rw [Jv _ _ h2,CH AF.z h1,Int.toNat_natCast,CH AF.z h2] at this;exact this
end
section
variable {bag kinds:Int} {ps:List ByteArray} {ws:List AA} {js:List AK} {ns:List AF}
theorem BD.alone(b:BD bag kinds ps ws js ns){l:List Int}(h:∀i,i<l.length->0<=l.getD i 0/\l.getD i 0<ns.length)(hl:l.length<=4):BD bag kinds ps ws js (Dw ns l):=
 { b with
  nlen:=by rw [IW];exact hl
  note:=λk hk=>by
   rw [IW] at hk
   have:=b.note (l.getD k 0).toNat (by have:=h k hk;omega)
   rw [Mm (L5 hk)];exact this }
theorem bell_of(b:BD bag kinds ps ws js ns):Aj bag kinds ps ws js ns=0:=by
 refine CA (k:=5) (λj hj=>?_) (Nat.le_refl _)
 match j with
 | 0=>exact if_neg (by have:=b.hbag;have:=b.hkin;omega)
 | 1=>exact (if_neg (by have:=b.plen;omega)).trans (CA b.place (Nat.le_refl _))
 | 2=>exact (Mb (by have:=b.wlen;omega) b.way (Nat.le_refl _)).trans b.led
 | 3=>exact (if_neg (by have:=b.jlen;omega)).trans (CA b.job (Nat.le_refl _))
 | 4=>exact (if_neg (by have:=b.nlen;omega)).trans (CA b.note (Nat.le_refl _))
 | j+5=>omega
def Ip(ws:List AA)(js:List AK)(ns:List AF)(q:Nat):Prop:=(AD ws js (Dx ns (q:Int) ns.length)).length=0
theorem S8(hn:ns.length<=4):∀q,q<=2 ^ ns.length->((Be ws js ns q).1=false->∀m,m<q->¬Ip ws js ns m)/\((Be ws js ns q).1=true->∃m,m<q/\(Be ws js ns q).2=Bd (m:Int) ns.length/\Ip ws js ns m/\∀m',m'<q->Ip ws js ns m'->JO (Bd (m:Int) ns.length)<=JO (Bd (m':Int) ns.length))
 | 0,_=>⟨λ_ m hm=>absurd hm (Nat.not_lt_zero _),λh=>(by cases h)⟩
 | q+1,hq=>by
  obtain ⟨i1,i2⟩:=S8 hn q aA;cases hb:(Be ws js ns q).1 with
  | false=>
   have hw:Eo (Be ws js ns q) (Bd (q:Int) ns.length)=false:=St hb;by_cases e:Ip ws js ns q
   ·rw [Im hw (by unfold Ip at e;omega)];exact ⟨λh=>(by cases h),λ_=>⟨q,Nat.lt_succ_self _,rfl,e,λm' hm' e'=>by
     rcases Nat.lt_or_ge m' q with z | z
     ·exact absurd e' (i1 hb m' z)
     ·rw [show m'=q by omega];exact Nat.le_refl _⟩⟩
   ·rw [In hw (by unfold Ip at e;omega),hb];exact ⟨λ_ m hm=>by
     rcases Nat.lt_or_ge m q with z | z
     ·exact i1 hb m z
     ·rw [show m=q by omega];exact e,λh=>(by cases h)⟩
  | true=>
   obtain ⟨m,h1,h2,h3,h4⟩:=i2 hb;have hx:Be ws js ns q=(true,Bd (m:Int) ns.length):=Prod.ext hb h2;have hw:Eo (Be ws js ns q) (Bd (q:Int) ns.length)=decide (JO (Bd (m:Int) ns.length)<JO (Bd (q:Int) ns.length)):=by rw [hx];exact XW hn aA aA
   by_cases c:JO (Bd (m:Int) ns.length)<JO (Bd (q:Int) ns.length)
   ·rw [decide_eq_true c] at hw;rw [Ha hw,hb];exact ⟨λh=>(by cases h),λ_=>⟨m,aA,h2,h3,λm' hm' e'=>by
     rcases Nat.lt_or_ge m' q with z | z
     ·exact h4 m' z e'
     ·rw [show m'=q by omega];omega⟩⟩
   ·rw [decide_eq_false c] at hw;by_cases e:Ip ws js ns q
    ·rw [Im hw (by unfold Ip at e;omega)];exact ⟨λh=>(by cases h),λ_=>⟨q,Nat.lt_succ_self _,rfl,e,λm' hm' e'=>by
      rcases Nat.lt_or_ge m' q with z | z
      ·have:=h4 m' z e';omega
      ·rw [show m'=q by omega];exact Nat.le_refl _⟩⟩
    ·rw [In hw (by unfold Ip at e;omega),hb];exact ⟨λh=>(by cases h),λ_=>⟨m,aA,h2,h3,λm' hm' e'=>by
      rcases Nat.lt_or_ge m' q with z | z
      ·exact h4 m' z e'
      ·rw [show m'=q by omega] at e';exact absurd e' e⟩⟩
end
end Go.Ns
namespace Go.Ns
open Go.Conc
def timed(ws:List AA)(i:Nat)(lo hi:Int):List AA:=ws.set i ⟨(ws.getD i AA.z).a,(ws.getD i AA.z).b,lo,hi⟩
def S9(x:AA):Int×Int:=(x.a,x.b)
section
variable {ws ws':List AA} {js:List AK} {ns:List AF} {i k np:Nat} {lo hi n:Int} {p q:AG} {ag:AG->Bool}
theorem LI:(timed ws i lo hi).length=ws.length:=List.length_set
theorem TA(k:Nat):(timed ws i lo hi).getD k AA.z=if k=i/\i<ws.length then ⟨(ws.getD i AA.z).a,(ws.getD i AA.z).b,lo,hi⟩ else ws.getD k AA.z:=by
 unfold timed;rw [List.getD_eq_getElem?_getD,List.getElem?_set];by_cases h:i=k
 ·subst h;by_cases h2:i<ws.length
  ·rw [if_pos rfl,if_pos h2,if_pos ⟨rfl,h2⟩];rfl
  ·rw [if_pos rfl,if_neg h2,if_neg (λq=>h2 q.2),BM aA];rfl
 ·rw [if_neg h,if_neg (λq=>h q.1.symm),<-List.getD_eq_getElem?_getD]
theorem Vu:(timed ws i lo hi).map S9=ws.map S9:=by
 apply List.ext_getElem
 ·rw [List.length_map,List.length_map,LI]
 ·intro k h1 h2;rw [List.getElem_map,List.getElem_map];have e:=TA (ws:=ws) (i:=i) (lo:=lo) (hi:=hi) k;rw [List.length_map] at h1 h2;rw [CH AA.z h1,CH AA.z h2] at e;rw [e];split
  ·rename_i c
   obtain ⟨rfl,c⟩:=c;rw [CH AA.z h2];rfl
  ·rfl
theorem QZ:∀{ws ws':List AA}(c:Gq),ws'.map S9=ws.map S9->ws'.foldl EO c=ws.foldl EO c
 | [],[],c,_=>rfl
 | x ::ws,y ::ws',c,h=>by
  rw [List.map_cons,List.map_cons] at h;have h1:=(List.cons.inj h).1;have e:EO c y=EO c x:=by
   unfold EO;rw [show y.a=x.a from congrArg Prod.fst h1,show y.b=x.b from congrArg Prod.snd h1]
  rw [List.foldl_cons,List.foldl_cons,e];exact QZ _ (List.cons.inj h).2
 | [],_ ::_,c,h=>(by cases h)
 | _ ::_,[],c,h=>(by cases h)
theorem TB(h:ws'.map S9=ws.map S9):∀n c,D4 ws' n c=D4 ws n c
 | 0,c=>rfl
 | n+1,c=>by
  show D4 ws' n (ws'.foldl EO c)=D4 ws n (ws.foldl EO c);rw [QZ c h];exact TB h n _
theorem led_ab(h:ws'.map S9=ws.map S9):EF np ws'=EF np ws:=by
 unfold EF;rw [TB h]
theorem any_ab{f:Int×Int->Bool}:∀{ws ws':List AA}(k:Nat),ws'.map S9=ws.map S9->(ws'.take k).any (λy=>f (S9 y))=(ws.take k).any (λy=>f (S9 y)):=λ{ws ws'} k h=>by
 have e:∀l:List AA,l.any (λy=>f (S9 y))=(l.map S9).any f:=λl=>by rw [List.any_map];rfl
 rw [e,e,List.map_take,List.map_take,h]
theorem wayAt_ab(h:ws'.map S9=ws.map S9)(hk:k<ws.length)(h0:DK np ws k=0)(hs:Fi (ws'.getD k AA.z).low (ws'.getD k AA.z).high 30 2):DK np ws' k=0:=by
 have hl:ws'.length=ws.length:=by have:=congrArg List.length h;simpa using this
 have e:S9 (ws'.getD k AA.z)=S9 (ws.getD k AA.z):=by
  have:(ws'.map S9).getD k (0,0)=(ws.map S9).getD k (0,0):=by rw [h]
  rw [CH (0,0) (by rw [List.length_map];omega),CH (0,0) (by rw [List.length_map];omega),List.getElem_map,List.getElem_map] at this;rw [CH AA.z aA,CH AA.z hk];exact this
 have ea:(ws'.getD k AA.z).a=(ws.getD k AA.z).a:=congrArg Prod.fst e;have eb:(ws'.getD k AA.z).b=(ws.getD k AA.z).b:=congrArg Prod.snd e;have f:=any_ab (f:=λz=>decide (z.1=(ws.getD k AA.z).a/\z.2=(ws.getD k AA.z).b)) k h;have f2:(ws'.take k).any (λy=>decide (y.a=(ws.getD k AA.z).a/\y.b=(ws.getD k AA.z).b))=(ws.take k).any (λy=>decide (y.a=(ws.getD k AA.z).a/\y.b=(ws.getD k AA.z).b)):=f;unfold DK at h0 ⊢;rw [ea,eb,f2];split at h0
 ·rename_i a;exact absurd h0 a
 ·rename_i a
  rw [if_neg a];split at h0
  ·cases h0
  ·rename_i b
   rw [if_neg b];split at h0
   ·cases h0
   ·rename_i c
    rw [if_neg c,if_neg (λq=>q hs)]
theorem BD.timed{bag kinds:Int}{ps:List ByteArray}(b:BD bag kinds ps ws js ns)(hs:Fi lo hi 30 2):BD bag kinds ps (timed ws i lo hi) js ns:=
 { b with
  wlen:=by rw [LI];exact b.wlen
  way:=λk hk=>by
   rw [LI] at hk;refine wayAt_ab Vu hk (b.way k hk) ?_;rw [TA];split
   ·exact hs
   ·have:=(HX b.way k hk).time
    unfold Fi;omega
  led:=by rw [led_ab Vu];exact b.led
  note:=λk hk=>by rw [LI];exact b.note k hk }
end
theorem top_ge(f:Nat->Int):∀(n:Nat)(b:Int),(Cx f n b).getD 0<=FA f n
 | 0,b=>by simp [Cx,FA]
 | k+1,b=>by
  have ih:=top_ge f k b;by_cases e:b=f k
  ·subst e;unfold FA;omega
  ·have:Cx f (k+1) b=Cx f k b:=by
    show (if b=f k then _ else _)=_;rw [if_neg e]
   rw [this];unfold FA;omega
theorem top_le(f:Nat->Int){M:Int}(h0:0<=M):∀(n:Nat),(∀k,k<=n->∀j,j<k->(Cx f k (f j)).getD 0<=M)->FA f n<=M
 | 0,_=>h0
 | n+1,h=>by
  have ih:=top_le f h0 n λk hk=>h k aA
  have:=h (n+1) (Nat.le_refl _) n (Nat.lt_succ_self _)
  unfold FA;omega
section
variable {ws:List AA} {js:List AK} {ns:List AF} {i k:Nat} {n:Int}
theorem Vv(f:Nat->Int)(b:Int):∀d k,(Cx f k b).getD 0<=(Cx f (k+d) b).getD 0
 | 0,k=>Int.le_refl _
 | d+1,k=>by
  have ih:=Vv f b d k;have h:=F9 f (k+d) b
  have:(Cx f (k+d) b).getD 0<=(Cx f (k+d+1) b).getD 0:=by
   show _<=(if b=f (k+d) then some ((Cx f (k+d) (f (k+d))).getD 0+1) else Cx f (k+d) b).getD 0;split
   ·rename_i e;rw [<-e];show _<=(Cx f (k+d) b).getD 0+1;omega
   ·exact Int.le_refl _
  exact Int.le_trans ih this
end
section
variable {bag kinds:Int} {ps:List ByteArray} {ws:List AA} {js:List AK} {ns:List AF} {i:Nat} {lo hi x:Int}
theorem IX(hz:Aj bag kinds ps ws js ns=0)(hs:Fi lo hi 30 2):Aj bag kinds ps (timed ws i lo hi) js ns=0:=bell_of ((Bt hz).timed hs)
end
end Go.Ns
namespace Go.Ns
section
variable {nj:Nat} {l:List Int} {k:Nat}
end
section
variable {jobs l r q:List Int} {f n:Nat}
end
section
variable {bag kinds:Int} {ps:List ByteArray} {ws:List AA} {js:List AK} {ns:List AF} {r o:List Int}
end
end Go.Ns
namespace Go.Ns
open Go.Conc
structure Ze(x y:AK):Prop where
 p:x.place=y.place
 lo:x.low=y.low
 hi:x.high=y.high
 du:x.due=y.due
 ps:x.parts=y.parts
structure Zf(x y:AF):Prop where
 ws:x.ways=y.ways
 lo:x.low=y.low
 hi:x.high=y.high
section
variable {ws:List AA} {js js':List AK} {ns ns':List AF} {bag kinds:Int} {ps:List ByteArray} {i:Nat} {pq:List AG}
theorem reJ_same(js:List AK)(f:Nat->Value)(n k:Nat):Ze ((HN js f n).getD k AK.z) (js.getD k AK.z):=by
 by_cases h:k<js.length
 ·rw [Nj,HO h];split
  ·exact ⟨rfl,rfl,rfl,rfl,rfl⟩
  ·exact ⟨rfl,rfl,rfl,rfl,rfl⟩
 ·rw [BM (by rw [LF];omega),BM aA];exact ⟨rfl,rfl,rfl,rfl,rfl⟩
theorem reN_same(ns:List AF)(f:Nat->Value)(n k:Nat):Zf ((H5 ns f n).getD k AF.z) (ns.getD k AF.z):=by
 by_cases h:k<ns.length
 ·rw [Nk,HO h];split
  ·exact ⟨rfl,rfl,rfl⟩
  ·exact ⟨rfl,rfl,rfl⟩
 ·rw [BM (by rw [LG];omega),BM aA];exact ⟨rfl,rfl,rfl⟩
theorem JP{x y:Int}(bk:BD bag kinds ps ws js ns)(hi:i<ws.length)(h:max (ws.getD i AA.z).low x<=min (ws.getD i AA.z).high y):Fi (max (ws.getD i AA.z).low x) (min (ws.getD i AA.z).high y) 30 2:=by
 have:=(HX bk.way i hi).time
 unfold Fi;omega
theorem JQ(hz:Aj bag kinds ps ws js ns=0)(h:¬AY bag kinds ps ws js ns 0=0):AY bag kinds ps ws js ns 0=9:=(openB_09 hz).elim (λq=>absurd q.1 h) (λq=>q.1)
end
end Go.Ns
namespace Go.Ns
section
variable {ws:List AA} {p:AG} {x y z u v k l np:Nat} {d e w:Int}
end
section
variable {bag kinds:Int} {ps:List ByteArray} {ws:List AA} {js:List AK} {ns:List AF} {p:AG} {x y v k n:Nat} {d w:Int}
end
end Go.Ns
namespace Go.Ns
def dfs(S:Nat->Int×Int):Nat->Nat->List (List Int)
 | 0,_=>[[]]
 | f+1,i=>(EU (S i).1 (S i).2).flatMap λn=>(dfs S f (i+1)).map λs=>n ::s
def B2(S:Nat->Int×Int):Nat->List (List Int)
 | 0=>[[]]
 | i+1=>(B2 S i).flatMap λx=>(EU (S i).1 (S i).2).map λn=>x++[n]
section
variable {S:Nat->Int×Int}
theorem Vw:∀f i,dfs S (f+1) i=(dfs S f i).flatMap λx=>(EU (S (i+f)).1 (S (i+f)).2).map λn=>x++[n]
 | 0,i=>by
  show (EU (S i).1 (S i).2).flatMap (λn=>[[n]])=[[]].flatMap _;rw [List.flatMap_cons,List.flatMap_nil,List.append_nil,Nat.add_zero,List.map_eq_flatMap];rfl
 | f+1,i=>by
  have ih:=Vw f (i+1);show (EU (S i).1 (S i).2).flatMap (λn=>(dfs S (f+1) (i+1)).map λs=>n ::s)=((EU (S i).1 (S i).2).flatMap λn=>(dfs S f (i+1)).map λs=>n ::s).flatMap _;rw [List.flatMap_assoc];congr 1;funext n;rw [ih,List.map_flatMap,List.flatMap_map];congr 1;funext s;rw [List.map_map,show i+1+f=i+(f+1) by omega];rfl
theorem RA:∀m,B2 S m=dfs S m 0
 | 0=>rfl
 | m+1=>by
  rw [Vw,<-RA m,Nat.zero_add];rfl
end
def Mx(w k:List Int):AG:=⟨λi=>w.getD i 0,λi=>k.getD i 0⟩
def My(p:AG)(i:Nat)(s:List Int):AG:={ p with ways:=λk=>if i<=k/\k<i+s.length then s.getD (k-i) 0 else p.ways k }
def M0(p:AG)(i:Nat)(s:List Int):AG:={ p with works:=λk=>if i<=k/\k<i+s.length then s.getD (k-i) 0 else p.works k }
theorem Vx{f:Nat->Int}{i n:Nat}{v:Int}{s:List Int}:(λk=>if i<=k/\k<i+(v ::s).length then (v ::s).getD (k-i) 0 else f k)=λk=>if i+1<=k/\k<i+1+s.length then s.getD (k-(i+1)) 0 else if k=i then v else f k:=by
 funext k;by_cases h1:k=i
 ·subst h1;rw [if_pos aD,if_neg aA,if_pos rfl,Nat.sub_self];rfl
 ·by_cases h2:i+1<=k/\k<i+1+s.length
  ·rw [if_pos h2,if_pos (by simp only [List.length_cons];omega),show k-i=(k-(i+1))+1 by omega];rfl
  ·rw [if_neg h2,if_neg (by simp only [List.length_cons];omega),if_neg h1]
theorem RB{p:AG}{nw i:Nat}{v:Int}{s:List Int}(h:i<nw):My p i (v ::s)=My (p.put nw i v) (i+1) s:=by
 unfold My AG.put;rw [if_pos h,Vx (n:=0)];rfl
theorem XZ{p:AG}{nw i:Nat}{v:Int}{s:List Int}(h:nw<=i):M0 p (i-nw) (v ::s)=M0 (p.put nw i v) (i+1-nw) s:=by
 unfold M0 AG.put;rw [if_neg aA,Vx (n:=0),show i-nw+1=i+1-nw by omega];rfl
theorem TC(p:AG)(i:Nat):My p i []=p:=by
 unfold My
 have:(λk=>if i<=k/\k<i+([]:List Int).length then ([]:List Int).getD (k-i) 0 else p.ways k)=p.ways:=funext λk=>if_neg aD
 rw [this]
theorem putsK_nil(p:AG)(i:Nat):M0 p i []=p:=by
 unfold M0
 have:(λk=>if i<=k/\k<i+([]:List Int).length then ([]:List Int).getD (k-i) 0 else p.works k)=p.works:=funext λk=>if_neg aD
 rw [this]
def Fx(ws:List AA)(k:Nat):Int×Int:=((ws.getD k AA.z).low,(ws.getD k AA.z).high)
def IY(js:List AK)(k:Nat):Int×Int:=((js.getD k AK.z).low,(js.getD k AK.z).high)
section
variable {ws:List AA} {js:List AK} {ns:List AF} {ag:AG->Bool}
theorem TE:∀(f i:Nat)(p:AG),ws.length<=i->CS ag ws js f i p=(dfs (IY js) f (i-ws.length)).map (M0 p (i-ws.length))
 | 0,i,p,_=>by
  show [p]=[[]].map _;rw [List.map_singleton,putsK_nil]
 | f+1,i,p,h=>by
  rw [EP];have e1:Ca ws js i=(IY js (i-ws.length)).1:=if_neg aA;have e2:GD ws js i=(IY js (i-ws.length)).2:=if_neg aA;show _=((EU _ _).flatMap _).map _;rw [e1,e2,List.map_flatMap];congr 1;funext n;unfold CI;rw [if_neg aA,TE f (i+1) _ aA,List.map_map,show i+1-ws.length=i-ws.length+1 by omega];congr 1;funext s;show _=M0 p (i-ws.length) (n ::s);rw [XZ h,show i+1-ws.length=i-ws.length+1 by omega]
theorem OZ{V β:Type}(q:V->Bool)(F:V->List β):∀l:List V,(l.filter q).flatMap F=l.flatMap λx=>if q x=true then F x else []
 | []=>rfl
 | x ::l=>by
  rw [List.filter_cons,List.flatMap_cons,<-OZ q F l];by_cases h:q x=true
  ·rw [if_pos h,if_pos h,List.flatMap_cons]
  ·rw [if_neg h,if_neg h,List.nil_append]
theorem Vy:∀(f i:Nat)(p:AG),i+(f+1)=ws.length->CS ag ws js (f+1+js.length) i p=(dfs (Fx ws) (f+1) i).flatMap λs=>if ag (My p i s)=true then CS ag ws js js.length ws.length (My p i s) else []
 | 0,i,p,h=>by
  rw [show 0+1+js.length=js.length+1 by omega,EP];have e1:Ca ws js i=(Fx ws i).1:=if_pos aA;have e2:GD ws js i=(Fx ws i).2:=if_pos aA;show _=((EU _ _).flatMap λn=>[[n]]).flatMap _;rw [e1,e2,List.flatMap_assoc];congr 1;funext n;rw [List.flatMap_cons,List.flatMap_nil,List.append_nil,RB (nw:=ws.length) aA,TC];unfold CI;cases hb:ag (p.put ws.length i n) with
  | false=>rw [if_pos ⟨aA,rfl⟩];rfl
  | true=>rw [if_neg (λq=>by cases q.2),if_pos rfl,show i+1=ws.length by omega]
 | f+1,i,p,h=>by
  rw [show f+1+1+js.length=(f+1+js.length)+1 by omega,EP];have e1:Ca ws js i=(Fx ws i).1:=if_pos aA;have e2:GD ws js i=(Fx ws i).2:=if_pos aA;show _=((EU _ _).flatMap λn=>(dfs (Fx ws) (f+1) (i+1)).map λs=>n ::s).flatMap _;rw [e1,e2,List.flatMap_assoc];congr 1;funext n;unfold CI;rw [if_neg (λq=>aA),Vy f (i+1) _ aA,List.flatMap_map];congr 1;funext s;rw [RB (nw:=ws.length) aA]
def IZ(ws:List AA)(js:List AK)(ns:List AF):List (List Int×List Int):=
 ((B2 (Fx ws) ws.length).filter λw=>Bq ns (Mx w [])).flatMap λw=>(B2 (IY js) js.length).map λk=>(w,k)
theorem TF{w:List Int}:My AG.zero 0 w=Mx w []:=by
 unfold My Mx AG.zero;congr 1
 ·funext k;by_cases h:k<w.length
  ·rw [if_pos aA];rfl
  ·rw [if_neg aA,BM aA]
theorem puts_both{w k:List Int}:M0 (Mx w []) 0 k=Mx w k:=by
 unfold M0 Mx;congr 1;funext i;by_cases h:i<k.length
 ·rw [if_pos aA];rfl
 ·rw [if_neg aA,BM aA];rfl
theorem Oa:AD ws js ns=(IZ ws js ns).map λx=>Mx x.1 x.2:=by
 have wk:∀w:List Int,CS (Bq ns) ws js js.length ws.length (Mx w [])=(B2 (IY js) js.length).map λk=>Mx w k:=λw=>by
  rw [TE _ _ _ (Nat.le_refl _),Nat.sub_self,RA];congr 1;funext k;exact puts_both
 unfold IZ;rw [OZ,List.map_flatMap];have rhs:∀w:List Int,(if Bq ns (Mx w [])=true then (B2 (IY js) js.length).map λk=>(w,k) else []).map (λx=>Mx x.1 x.2)=if Bq ns (Mx w [])=true then CS (Bq ns) ws js js.length ws.length (Mx w []) else []:=λw=>by
  split
  ·rw [wk,List.map_map];rfl
  ·rfl
 simp only [rhs];unfold AD;rcases Nat.eq_zero_or_pos ws.length with h | h
 ·rw [h,Nat.zero_add];show _=[[]].flatMap _;rw [List.flatMap_cons,List.flatMap_nil,List.append_nil];have z:(Mx [] []:AG)=AG.zero:=by rw [<-TF,TC]
  rw [z];by_cases c:Bq ns AG.zero=true
  ·rw [if_pos (.inr c),if_pos c]
  ·rw [if_neg (λq=>q.elim aA c),if_neg c]
 ·rw [if_pos (.inl h)]
  have:=Vy (ag:=Bq ns) (ws:=ws) (js:=js) (ws.length-1) 0 AG.zero aA
  rw [show ws.length-1+1=ws.length by omega] at this;rw [this,RA];congr 1;funext w;rw [TF]
end
end Go.Ns
namespace Go.Ns
section
variable {np x i k:Nat} {o:Nat->Int} {v:Int} {ws:List AA} {p:AG}
end
section
variable {bag kinds:Int} {ps:List ByteArray} {ws:List AA} {js:List AK} {ns:List AF} {p:AG} {x i:Nat}
end
theorem note_way{nw k q:Nat}{ns:List AF}(h:D5 nw ns k=0)(hq:q<(ns.getD k AF.z).ways.length):0<=(ns.getD k AF.z).ways.getD q 0/\(ns.getD k AF.z).ways.getD q 0<=(nw:Int)-1:=by
 unfold D5 at h;split at h
 ·cases h
 ·split at h
  ·cases h
  ·rename_i h6
   have h7:¬∃x ∈ (ns.getD k AF.z).ways,¬(0<=x/\x<=(nw:Int)-1):=by simpa [List.any_eq_true] using h6
   exact Classical.byContradiction λz=>h7 ⟨_,Bj hq,z⟩
section
variable {F:AG->Int} {pq:List AG} {hl:List (List Int×List Int)}
end
end Go.Ns
namespace Go.Ns
open Go.Conc
structure P2 where
 w:Sl
 k:Sl
def P2.o:P2:=⟨Sl.z,Sl.z⟩
def eP2(x:P2):Array Value:=#[x.w.1,x.k.1]
def FJ(h:GH)(t:TypeId)(l:List P2):Prop:=∀k,B8 h t (l.getD k P2.o).w.1 (l.getD k P2.o).w.2/\B8 h t (l.getD k P2.o).k.1 (l.getD k P2.o).k.2
theorem FJ.le{h h':GH}{t:TypeId}{l:List P2}(x:FJ h t l)(e:h.Le h'):FJ h' t l:=λk=>⟨(x k).1.le e,(x k).2.le e⟩
theorem FJ.nil(h:GH)(t:TypeId):FJ h t []:=λk=>by
 rw [BM aD];exact ⟨B8.nil _ _,B8.nil _ _⟩
theorem FJ.app{h:GH}{t:TypeId}{l l':List P2}(a:FJ h t l)(b:FJ h t l'):FJ h t (l++l'):=λk=>by
 rw [Hb];split
 ·exact a k
 ·exact b _
theorem FJ.one{h:GH}{t:TypeId}{x:P2}(a:B8 h t x.w.1 x.w.2)(b:B8 h t x.k.1 x.k.2):FJ h t [x]:=λk=>by
 cases k with
 | zero=>exact ⟨a,b⟩
 | succ k=>rw [BM aD];exact ⟨B8.nil _ _,B8.nil _ _⟩
theorem FJ.grown{V:Type}{h h' h0:GH}{v v':Value}{t t':TypeId}{n:Nat}{enc:V->Array Value}{ys:List V}(g:GU h h' v v')(o:AM h0 h v t' n enc ys)(ne:t'≠t){l:List P2}(x:FJ h t l):FJ h' t l:=λk=>⟨(x k).1.grown g o ne,(x k).2.grown g o ne⟩
theorem FJ.fine{h:GH}{t:TypeId}{l:List P2}(a:FJ h t l):∀y ∈ l,(eP2 y).toList.all (·.oneCell')=true:=λy hy=>by
 obtain ⟨k,hk,e⟩:=List.mem_iff_getElem.1 hy;obtain rfl:l.getD k P2.o=y:=by rw [CH P2.o hk];exact e
 show (((l.getD k P2.o).w.1.oneCell') && (((l.getD k P2.o).k.1.oneCell') && true))=true;rw [(AI.one (a k).1.1).2,(AI.one (a k).2.1).2];rfl
theorem fill_b2{v0 v1:Value}(h0:v0.cells=#[v0])(h1:v1.cells=#[v1]):Instr.fill (λx=>#[(0,1),(1,1)][x]?) #[Value.slice none 0 0,Value.slice none 0 0] [(0,v0),(1,v1)]=some #[v0,v1]:=by
 simp [Instr.fill,h0,h1]
def rps(l:List P2):List (List Int×List Int):=l.map λx=>(x.w.2,x.k.2)
theorem rps_app(a b:List P2):rps (a++b)=rps a++rps b:=List.map_append
theorem UV(l:List P2):(rps l).length=l.length:=List.length_map _
theorem rps_getD{l:List P2}{k:Nat}(hk:k<l.length):(rps l).getD k ([],[])=((l.getD k P2.o).w.2,(l.getD k P2.o).k.2):=by
 unfold rps;rw [CH _ (by simpa using hk),CH P2.o hk,List.getElem_map]
section
variable {S:Nat->Int×Int}
def HA(S:Nat->Int×Int)(i k j:Nat):List (List Int):=(((B2 S i).take k).flatMap λx=>(EU (S i).1 (S i).2).map λn=>x++[n])++(Ce (S i).1 j).map λn=>(B2 S i).getD k []++[n]
theorem Vz{i k:Nat}:HA S i k 0=((B2 S i).take k).flatMap λx=>(EU (S i).1 (S i).2).map λn=>x++[n]:=by
 unfold HA Ce;rw [List.range_zero,List.map_nil,List.map_nil,List.append_nil]
theorem nextTo_j{i k j:Nat}:HA S i k (j+1)=HA S i k j++[(B2 S i).getD k []++[(S i).1+(j:Int)]]:=by
 unfold HA;rw [KT,List.map_append,List.append_assoc];rfl
theorem nextTo_k{i k j:Nat}(hk:k<(B2 S i).length)(h1:¬(S i).1+(j:Int)<=(S i).2)(h2:(j:Int)<=(S i).2-(S i).1+1\/j=0):HA S i k j=HA S i (k+1) 0:=by
 rw [Vz,Cq [] hk,List.flatMap_append,List.flatMap_cons,List.flatMap_nil,List.append_nil];unfold HA EU;rw [show j=((S i).2-(S i).1+1).toNat by omega]
theorem Xa{i k:Nat}(hk:(B2 S i).length<=k):HA S i k 0=B2 S (i+1):=by
 rw [Vz,List.take_of_length_le hk];rfl
theorem V0(h:∀i,(S i).2-(S i).1<2):∀i,(B2 S i).length<=2 ^ i
 | 0=>Nat.le_refl 1
 | i+1=>by
  have:=KU (f:=λx=>(EU (S i).1 (S i).2).map λn=>x++[n]) (c:=2) (l:=B2 S i) λx _=>by
   rw [List.length_map];exact Lx (h i)
  have h2:=V0 h i;show ((B2 S i).flatMap λx=>(EU (S i).1 (S i).2).map λn=>x++[n]).length<=2 ^ (i+1);rw [Nat.pow_succ];omega
theorem J3(h:∀i,(S i).2-(S i).1<2){i:Nat}(hi:i<=5):(B2 S i).length<=32:=Nat.le_trans (V0 h i) (Nat.pow_le_pow_right aC hi:2 ^ i<=2 ^ 5)
theorem Xb(h:∀i,(S i).2-(S i).1<2){i k j:Nat}(hi:i<=5)(hj:j<=2):(HA S i k j).length<=66:=by
 have h1:=KU (f:=λx=>(EU (S i).1 (S i).2).map λn=>x++[n]) (c:=2) (l:=(B2 S i).take k) λx _=>by
  rw [List.length_map];exact Lx (h i)
 have h2:=J3 h hi;have h3:((B2 S i).take k).length<=32:=Nat.le_trans (List.length_take_le' _ _) h2;unfold HA Ce;rw [List.length_append,List.length_map,List.length_map,List.length_range];omega
theorem JR:∀(m:Nat)(s:List Int),s ∈ B2 S m->s.length=m/\∀k,k<m->(S k).1<=s.getD k 0/\s.getD k 0<=(S k).2
 | 0,s,h=>by rw [List.mem_singleton.1 h];exact ⟨rfl,λk hk=>absurd hk (Nat.not_lt_zero _)⟩
 | m+1,s,h=>by
  obtain ⟨x,hx,h⟩:=List.mem_flatMap.1 h;obtain ⟨n,hn,rfl⟩:=List.mem_map.1 h;obtain ⟨e,r⟩:=JR m x hx;have hn:=Pm.1 hn;refine ⟨by rw [List.length_append,e];rfl,λk hk=>?_⟩;rw [Hb];by_cases c:k<m
  ·rw [if_pos aA];exact r k c
  ·have:k=m:=aA
   subst this;rw [if_neg aA,e,Nat.sub_self];show (S k).1<=n/\n<=(S k).2;omega
theorem Zg{i k:Nat}(h:k<(B2 S i).length):((B2 S i).getD k []).length=i:=(JR i _ (Bj h)).1
theorem L6{S':Nat->Int×Int}:∀m,(∀k,k<m->S k=S' k)->B2 S m=B2 S' m
 | 0,_=>rfl
 | m+1,h=>by
  unfold B2;rw [L6 m λk hk=>h k aA,h m aA]
end
def V1(ws:List AA):List (Int×Int):=ws.map λx=>(x.low,x.high)
def V2(js:List AK):List (Int×Int):=js.map λx=>(x.low,x.high)
section
variable {bag kinds:Int} {ps:List ByteArray} {ws:List AA} {js:List AK} {ns:List AF} {k:Nat}
theorem J4:(V1 ws).length=ws.length:=List.length_map _
theorem J5:(V2 js).length=js.length:=List.length_map _
theorem spW_next(h:k<ws.length):V1 (ws.take (k+1))=V1 (ws.take k)++[((ws.getD k AA.z).low,(ws.getD k AA.z).high)]:=by
 unfold V1;rw [Cq AA.z h,List.map_append];rfl
theorem spJ_next(h:k<js.length):V2 (js.take (k+1))=V2 (js.take k)++[((js.getD k AK.z).low,(js.getD k AK.z).high)]:=by
 unfold V2;rw [Cq AK.z h,List.map_append];rfl
theorem spW_at(h:k<ws.length):(V1 ws).getD k (0,0)=Fx ws k:=by
 unfold V1 Fx;rw [CH _ (by rw [List.length_map];exact h),List.getElem_map,CH AA.z h]
theorem spJ_at(h:k<js.length):(V2 js).getD k (0,0)=IY js k:=by
 unfold V2 IY;rw [CH _ (by rw [List.length_map];exact h),List.getElem_map,CH AK.z h]
theorem V3:B2 (λk=>(V1 ws).getD k (0,0)) (V1 ws).length=B2 (Fx ws) ws.length:=by
 rw [J4];exact L6 _ λk hk=>spW_at hk
theorem V4:B2 (λk=>(V2 js).getD k (0,0)) (V2 js).length=B2 (IY js) js.length:=by
 rw [J5];exact L6 _ λk hk=>spJ_at hk
theorem Zh(bk:BD bag kinds ps ws js ns)(k:Nat):(0<=((V1 ws).getD k (0,0)).1/\((V1 ws).getD k (0,0)).2<=30)/\((V1 ws).getD k (0,0)).2-((V1 ws).getD k (0,0)).1<2:=by
 by_cases h:k<ws.length
 ·have:=(HX bk.way k h).time
  rw [spW_at h];show (0<=(ws.getD k AA.z).low/\(ws.getD k AA.z).high<=30)/\(ws.getD k AA.z).high-(ws.getD k AA.z).low<2;omega
 ·rw [BM (by rw [J4];omega)];decide
theorem Zi(bk:BD bag kinds ps ws js ns)(k:Nat):(0<=((V2 js).getD k (0,0)).1/\((V2 js).getD k (0,0)).2<=30)/\((V2 js).getD k (0,0)).2-((V2 js).getD k (0,0)).1<2:=by
 by_cases h:k<js.length
 ·have:=(Kc (bk.job k h)).time
  rw [spJ_at h];show (0<=(js.getD k AK.z).low/\(js.getD k AK.z).high<=30)/\(js.getD k AK.z).high-(js.getD k AK.z).low<2;omega
 ·rw [BM (by rw [J5];omega)];decide
def Eq(ns:List AF)(W K:List (List Int))(i j:Nat):List (List Int×List Int):=(((W.take i).filter λw=>Bq ns (Mx w [])).flatMap λw=>K.map λk=>(w,k))++(K.take j).map λk=>(W.getD i [],k)
section
variable {W K:List (List Int)} {i j:Nat}
theorem LJ:Eq ns W K i 0=(((W.take i).filter λw=>Bq ns (Mx w [])).flatMap λw=>K.map λk=>(w,k)):=by
 unfold Eq;rw [List.take_zero,List.map_nil,List.append_nil]
theorem UW(h:i<W.length)(hn:Bq ns (Mx (W.getD i []) [])=false):Eq ns W K i 0=Eq ns W K (i+1) 0:=by
 rw [LJ,LJ,Cq [] h,List.filter_append,List.filter_cons,if_neg (by rw [hn];decide),List.filter_nil,List.append_nil]
theorem UX(h:j<K.length):Eq ns W K i (j+1)=Eq ns W K i j++[(W.getD i [],K.getD j [])]:=by
 unfold Eq;rw [Cq [] h,List.map_append,List.append_assoc];rfl
theorem UY(h:i<W.length)(hn:Bq ns (Mx (W.getD i []) [])=true)(hj:K.length<=j):Eq ns W K i j=Eq ns W K (i+1) 0:=by
 rw [LJ,Cq [] h,List.filter_append,List.filter_cons,if_pos hn,List.filter_nil,List.flatMap_append,List.flatMap_cons,List.flatMap_nil,List.append_nil];unfold Eq;rw [List.take_of_length_le hj]
theorem V5(h:W.length<=i)(hW:W=B2 (Fx ws) ws.length)(hK:K=B2 (IY js) js.length):Eq ns W K i 0=IZ ws js ns:=by
 rw [LJ,List.take_of_length_le h];subst hW;subst hK;rfl
theorem V6(hW:W.length<=32)(hK:K.length<=32):(Eq ns W K i j).length<=1056:=by
 have h1:=KU (f:=λw=>K.map λk=>(w,k)) (c:=32) (l:=(W.take i).filter λw=>Bq ns (Mx w [])) λx _=>by rw [List.length_map];exact hK
 have h2:=List.length_filter_le (λw=>Bq ns (Mx w [])) (W.take i);have h3:=List.length_take_le i W;have h4:=List.length_take_le j K;have h5:=List.length_take_le' i W;have h6:=List.length_take_le' j K;unfold Eq;rw [List.length_append,List.length_map];omega
end
theorem num_ok(bk:BD bag kinds ps ws js ns){s:List Int}(hs:s ∈ B2 (Fx ws) ws.length)(k:Nat):0<=s.getD k 0/\s.getD k 0<=30:=by
 obtain ⟨e,r⟩:=JR _ s hs;by_cases h:k<ws.length
 ·have:=(HX bk.way k h).time
  have q:=r k h;unfold Fx at q;omega
 ·rw [BM aA];decide
theorem numJ_ok(bk:BD bag kinds ps ws js ns){s:List Int}(hs:s ∈ B2 (IY js) js.length)(k:Nat):0<=s.getD k 0/\s.getD k 0<=30:=by
 obtain ⟨e,r⟩:=JR _ s hs;by_cases h:k<js.length
 ·have:=(Kc (bk.job k h)).time
  have q:=r k h;unfold IY at q;omega
 ·rw [BM aA];decide
theorem toT_ok(bk:BD bag kinds ps ws js ns){s:List Int}(hs:s ∈ B2 (Fx ws) ws.length):B6 (Mx s []):=⟨num_ok bk hs,λk=>by show 0<=([]:List Int).getD k 0/\([]:List Int).getD k 0<=30;rw [BM (Nat.zero_le _)];decide⟩
theorem pasts_mem(bk:BD bag kinds ps ws js ns){x:List Int×List Int}(h:x ∈ IZ ws js ns):B6 (Mx x.1 x.2)/\x.1.length=ws.length/\x.2.length=js.length:=by
 obtain ⟨w,hw,h⟩:=List.mem_flatMap.1 h;obtain ⟨k,hk,rfl⟩:=List.mem_map.1 h;have hw:=(List.mem_filter.1 hw).1;exact ⟨⟨num_ok bk hw,numJ_ok bk hk⟩,(JR _ w hw).1,(JR _ k hk).1⟩
theorem V7(bk:BD bag kinds ps ws js ns){pl:List P2}(hrp:rps pl=IZ ws js ns)(hk:k<pl.length):B6 (Mx (pl.getD k P2.o).w.2 (pl.getD k P2.o).k.2)/\(pl.getD k P2.o).w.2.length=ws.length/\(pl.getD k P2.o).k.2.length=js.length/\(AD ws js ns).getD k AG.zero=Mx (pl.getD k P2.o).w.2 (pl.getD k P2.o).k.2:=by
 have hl:k<(IZ ws js ns).length:=by rw [<-hrp,UV];exact hk
 have e:(IZ ws js ns).getD k ([],[])=((pl.getD k P2.o).w.2,(pl.getD k P2.o).k.2):=by rw [<-hrp,rps_getD hk]
 have m:=pasts_mem bk (Bj (d:=([],[])) hl);rw [e] at m;refine ⟨m.1,m.2.1,m.2.2,?_⟩;rw [Oa,CH _ (by rw [List.length_map];exact hl),List.getElem_map];rw [CH _ hl] at e;rw [e]
theorem Fc{pl:List P2}(hrp:rps pl=IZ ws js ns):(AD ws js ns).length=pl.length:=by
 rw [Oa,List.length_map,<-hrp,UV]
end
section
variable {bag kinds:Int} {ps:List ByteArray} {ws:List AA} {js:List AK} {ns:List AF} {l:List Int} {p:AG}
end
section
variable {G:AG->Int} {pq:List AG} {due:Int}
end
section
variable {bag kinds:Int} {ps:List ByteArray} {ws:List AA} {js:List AK} {ns:List AF} {l:List Int}
end
section
variable {G:AG->Int} {pq:List AG} {due v:Int} {i:Nat}
end
end Go.Ns
namespace Go.Ns
section
variable {ws:List AA} {l:List Int} {k j np:Nat} {w:AA} {p q:Int}
theorem RC(h:p=l.getD k 0):q ∈ Ho l k p q:=by
 unfold Ho;split
 ·simp
 ·rename_i e;exact Decidable.byContradiction λn=>e ⟨h,n⟩
theorem UZ(h:w.a=l.getD k 0):w.b ∈ C1 l k w:=(IU _ _ _ _).subset (RC h)
theorem Ua(hk:k<l.length)(h:w.b=l.getD k 0):w.a ∈ C1 l k w:=RC (h.trans (QX (IU _ _ _ _) hk).symm)
theorem JC(hk:k<l.length):∀n,j<n->((ws.getD j AA.z).a=l.getD k 0->(ws.getD j AA.z).b ∈ Af ws l k n)/\((ws.getD j AA.z).b=l.getD k 0->(ws.getD j AA.z).a ∈ Af ws l k n)
 | n+1,h=>by
  by_cases e:j=n
  ·subst e;have hl:=Fv (ws:=ws) (l:=l) (k:=k) j;have e2:=QX hl hk;exact ⟨λx=>UZ (x.trans e2.symm),λx=>Ua (Nat.lt_of_lt_of_le hk hl.length_le) (x.trans e2.symm)⟩
  ·have ih:=JC hk n aA;exact ⟨λx=>(JB _ _ _).subset (ih.1 x),λx=>(JB _ _ _).subset (ih.2 x)⟩
theorem J6(m:Nat):∀d,Ap ws m<+:Ap ws (m+d)
 | 0=>List.prefix_refl _
 | d+1=>by
  refine (J6 m d).trans ?_;show Ap ws (m+d)<+:Ap ws (m+d+1)
  conv=>rhs;unfold Ap
  split
  ·exact Fv _
  ·exact List.prefix_refl _
theorem Ub(ok:Hd np (DC ws))(hnp:np<=4)(hj:j<ws.length):(ws.getD j AA.z).a ∈ DC ws↔(ws.getD j AA.z).b ∈ DC ws:=by
 have hl:=ok.len;have key:∀{y z:Int},((∀k l,k<l.length->y=l.getD k 0->z ∈ Af ws l k ws.length))->y ∈ DC ws->z ∈ DC ws:=by
  intro y z hz hy;obtain ⟨k,hk,e⟩:=List.mem_iff_getElem.1 hy;have e2:(DC ws).getD k 0=y:=by rw [List.getD_eq_getElem?_getD,List.getElem?_eq_getElem hk];exact e
  have hkn:k<(Ap ws k).length:=Decidable.byContradiction λn=>by
   have q:=S7 (ws:=ws) (k:=k) aA aA;rw [q] at hk;omega
  have p1:Ap ws k<+:DC ws:=by
   have q:=J6 (ws:=ws) k (4-k);rw [show k+(4-k)=4 by omega] at q;exact q
  have p2:Ap ws (k+1)<+:DC ws:=by
   have q:=J6 (ws:=ws) (k+1) (4-(k+1));rw [show k+1+(4-(k+1))=4 by omega] at q;exact q
  refine p2.subset ?_;rw [Kn hkn];exact hz k _ hkn (by rw [<-e2];exact QX p1 hkn)
 exact ⟨key λk l hk e=>(JC hk ws.length hj).1 e,key λk l hk e=>(JC hk ws.length hj).2 e⟩
theorem canWay_in{R:List Int}{c:Gq}{x:AA}(h:∀v,c v=true->(v:Int) ∈ R)(hx:((x.a.toNat:Nat):Int) ∈ R↔((x.b.toNat:Nat):Int) ∈ R):∀v,EO c x v=true->(v:Int) ∈ R:=by
 have h1:∀v,(c.set x.a.toNat (c x.a.toNat || c x.b.toNat)) v=true->(v:Int) ∈ R:=λv hv=>by
  unfold Gq.set at hv;split at hv
  ·rename_i e;subst e
   rcases Bool.or_eq_true_iff.1 hv with q | q
   ·exact h _ q
   ·exact hx.2 (h _ q)
  ·exact h _ hv
 intro v hv;unfold EO at hv;generalize c.set x.a.toNat (c x.a.toNat || c x.b.toNat)=c' at h1 hv;unfold Gq.set at hv;split at hv
 ·rename_i e;subst e
  rcases Bool.or_eq_true_iff.1 hv with q | q
  ·exact h1 _ q
  ·exact hx.1 (h1 _ q)
 ·exact h1 _ hv
theorem RD{R:List Int}:∀(m:List AA)(c:Gq),(∀v,c v=true->(v:Int) ∈ R)->(∀x ∈ m,((x.a.toNat:Nat):Int) ∈ R↔((x.b.toNat:Nat):Int) ∈ R)->∀v,m.foldl EO c v=true->(v:Int) ∈ R
 | [],_,h,_=>h
 | x ::m,c,h,hx=>RD m _ (canWay_in h (hx x aD)) λy hy=>hx y (List.mem_cons_of_mem _ hy)
theorem TG{R:List Int}(hx:∀x ∈ ws,((x.a.toNat:Nat):Int) ∈ R↔((x.b.toNat:Nat):Int) ∈ R):∀n (c:Gq),(∀v,c v=true->(v:Int) ∈ R)->∀v,D4 ws n c v=true->(v:Int) ∈ R
 | 0,_,h=>h
 | n+1,c,h=>TG hx n _ (RD ws c h hx)
theorem Uc(hn:0<np)(hnp:np<=4)(hw:L3 np ws)(h:EF np ws=0):¬(DC ws).length<np:=by
 have ok:Hd np (DC ws):=JK hn hw 4;have h0:(0:Int) ∈ DC ws:=(J6 (ws:=ws) 0 4).subset (by simp [Ap]);have hx:∀x ∈ ws,((x.a.toNat:Nat):Int) ∈ DC ws↔((x.b.toNat:Nat):Int) ∈ DC ws:=λx hx=>by
  obtain ⟨j,hj,e⟩:=List.mem_iff_getElem.1 hx;have e2:ws.getD j AA.z=x:=by rw [List.getD_eq_getElem?_getD,List.getElem?_eq_getElem hj];exact e
  have r:=hw j hj;rw [e2] at r;rw [Int.toNat_of_nonneg r.1.1,Int.toNat_of_nonneg r.2.1,<-e2];exact Ub ok hnp hj
 have all:∀y,y<np->(y:Int) ∈ DC ws:=λy hy=>by
  refine TG hx np c0 (λv hv=>?_) y (Decidable.byContradiction λn=>?_)
  ·unfold c0 Gq.set Gq.none at hv;split at hv
   ·rename_i e;subst e;exact h0
   ·cases hv
  ·have:(NZ (D4 ws np c0) np).any (λx=>(false==x))=true:=List.any_eq_true.2 ⟨false,by
    unfold NZ;exact List.mem_map.2 ⟨y,List.mem_range.2 hy,by simpa using n⟩,rfl⟩
   unfold EF at h;rw [show Gq.none.set 0 true=c0 from rfl,if_pos this] at h;cases h
 intro hlt
 have:=UH (DC ws).length np (λy=>(DC ws).idxOf (y:Int)) (λi hi=>List.idxOf_lt_length_of_mem (all i hi)) λi j hij hj e=>by
  have a:=List.getElem_idxOf (List.idxOf_lt_length_of_mem (all i aA));have b:=List.getElem_idxOf (List.idxOf_lt_length_of_mem (all j hj));have e2:(DC ws).idxOf (i:Int)=(DC ws).idxOf (j:Int):=e
  have:(i:Int)=(j:Int):=by rw [<-a,<-b];congr 1
  omega
 omega
theorem rWays_eq(hn:0<np)(hnp:np<=4):Fw np ws=Ez np ws:=by
 unfold Fw Ez;split
 ·rfl
 ·split
  ·rfl
  ·rename_i b
   have z:=De (Decidable.not_not.1 b);have hw:L3 np ws:=waysOK λk hk=>z k (Nat.zero_le _) aA;split
   ·rename_i c
    have:¬EF np ws=0:=λe=>Uc hn hnp hw e c
    unfold EF at this ⊢;split
    ·rfl
    ·rename_i d;rw [if_neg d] at this;exact absurd rfl this
   ·rename_i c;exact (UT hn hw c).symm
variable {bag kinds:Int} {ps:List ByteArray} {js:List AK} {ns:List AF}
theorem HB:G9 bag kinds ps ws js ns=Aj bag kinds ps ws js ns:=by
 unfold G9 Aj;simp only [C9,I8];by_cases h0:GY bag kinds=0
 ·rw [if_neg (λn=>n h0),if_pos h0];by_cases h1:BO ps=0
  ·have hp:=Ko h1;rw [if_neg (λn=>n h1),if_pos h1,rWays_eq hp.1 hp.2];by_cases h2:Ez ps.length ws=0
   ·rw [if_neg (λn=>n h2),if_pos h2];by_cases h3:CC ps.length kinds js=0
    ·rw [if_neg (λn=>n h3),if_pos h3];split
     ·rename_i e;exact e
     ·rfl
    ·rw [if_pos h3,if_neg h3]
   ·rw [if_pos h2,if_neg h2]
  ·rw [if_pos h1,if_neg h1]
 ·rw [if_pos h0,if_neg h0]
end
end Go.Ns
namespace Go.Ns
section
variable (sf:List Int->Bool) (G:List Int->Int) (l:List (List Int))
variable {sf G l}
variable (G l)
variable {G l}
end
section
variable {sf:List Int->Bool} {l:List (List Int)} {k:Nat}
end
section
variable {bag kinds:Int} {ps:List ByteArray} {ws:List AA} {js:List AK} {ns:List AF} {l:List Int} {k:Nat}
def openL(bag kinds:Int)(ps:List ByteArray)(ws:List AA)(js:List AK)(ns:List AF)(s:Int):List (List Int×List Int):=if AY bag kinds ps ws js ns s=0 then IZ ws js ns else []
theorem V8{s:Int}(h:AY bag kinds ps ws js ns s=0):openL bag kinds ps ws js ns s=IZ ws js ns:=if_pos h
theorem RE{s:Int}(h:¬AY bag kinds ps ws js ns s=0):openL bag kinds ps ws js ns s=[]:=if_neg h
theorem Xc{s:Int}(h:AY bag kinds ps ws js ns s=0):Aj bag kinds ps ws js ns=0:=Decidable.byContradiction λn=>n ((LB n).symm.trans h)
theorem openB_00{s:Int}(h:AY bag kinds ps ws js ns s=0):AY bag kinds ps ws js ns 0=0:=
 O7 (λn=>n (Xc h)) aD (by have:=(Eh h).2.2;omega)
end
section
variable {sf:List Int->Bool} {G:List Int->Int} {xl:List Sl} {i:Nat} {all:List (List Int)}
end
end Go.Ns
namespace Go.Ns
open Go.Conc
def BT(l:List Int):List (List Int):=l.foldl (λc x=>c++c.map (·++[x])) [[]]
def Ei(l:List Int)(k j:Nat):List (List Int):=BT (l.take k)++((BT (l.take k)).take j).map (·++[l.getD k 0])
theorem Ud{l:List Int}{k:Nat}(hk:k<l.length):BT (l.take (k+1))=BT (l.take k)++(BT (l.take k)).map (·++[l.getD k 0]):=by
 rw [Cq 0 hk];unfold BT;rw [List.foldl_append];rfl
theorem Xd(l:List Int)(k:Nat):Ei l k 0=BT (l.take k):=by simp [Ei]
theorem Ue{l:List Int}{k j:Nat}(hk:k<l.length)(hj:(BT (l.take k)).length<=j):Ei l k j=BT (l.take (k+1)):=by
 rw [Ud hk];unfold Ei;rw [List.take_of_length_le hj]
theorem SA{l:List Int}{k j:Nat}(hj:j<(BT (l.take k)).length):Ei l k (j+1)=Ei l k j++[(BT (l.take k)).getD j []++[l.getD k 0]]:=by
 unfold Ei;rw [Cq [] hj,List.map_append,List.append_assoc];rfl
theorem V9:∀(l:List Int),(BT l).length=2 ^ l.length:=λl=>by
 have key:∀(l:List Int)(c:List (List Int)),(l.foldl (λc x=>c++c.map (·++[x])) c).length=c.length*2 ^ l.length:=by
  intro l
  induction l with
  | nil=>intro c;simp
  | cons x l ih=>intro c;rw [List.foldl_cons,ih,List.length_append,List.length_map,List.length_cons,Nat.pow_succ,Nat.mul_comm (2 ^ l.length) 2,<-Nat.mul_assoc];congr 1;omega
 unfold BT;rw [key];simp
theorem M1{l:List Int}(h:l.length<=6)(k:Nat):(BT (l.take k)).length<=64:=by
 rw [V9]
 have:2 ^ (l.take k).length<=2 ^ 6:=Nat.pow_le_pow_right aC (by rw [List.length_take];omega)
 omega
theorem RF{l:List Int}:∀{c:List Int},c ∈ BT l->c.Sublist l:=by
 have key:∀(l r:List Int)(cs:List (List Int)),(∀c ∈ cs,c.Sublist r)->∀c ∈ l.foldl (λc x=>c++c.map (·++[x])) cs,c.Sublist (r++l):=by
  intro l
  induction l with
  | nil=>intro r cs h c hc;rw [List.append_nil];exact h c hc
  | cons x l ih=>
   intro r cs h c hc
   have:=ih (r++[x]) (cs++cs.map (·++[x])) (λc hc=>by
    rcases List.mem_append.1 hc with hc | hc
    ·exact (h c hc).trans (List.sublist_append_left _ _)
    ·obtain ⟨c',hc',rfl⟩:=List.mem_map.1 hc;exact (h c' hc').append (List.Sublist.refl _)) c hc
   rwa [List.append_assoc] at this
 intro c hc
 have:=key l [] [[]] (λc hc=>by rw [List.mem_singleton.1 hc];exact List.Sublist.refl _) c hc
 simpa using this
theorem choice_el{l:List Int}{k:Nat}(h6:l.length<=6){x:List Int}(h:x ∈ BT (l.take k)):x.length<=6:=by
 have h1:=(RF h).length_le;rw [List.length_take] at h1;omega
theorem choice_at{l:List Int}{k j:Nat}{fl fl2:List Sl}(h6:l.length<=6)(h1:Ao fl=BT (l.take k))(h2:Ao fl2=Ei l k j)(hj:j<=fl.length) :
  fl2.length=fl.length+j/\(j<fl.length->(fl2.getD j Sl.z).2=(BT (l.take k)).getD j []/\(fl2.getD j Sl.z).2.length<=6):=by
 have e1:(BT (l.take k)).length=fl.length:=by rw [<-h1,B7]
 have e2:fl2.length=fl.length+j:=by
  rw [<-B7 fl2,h2];unfold Ei;rw [List.length_append,List.length_map,List.length_take,e1];omega
 refine ⟨e2,λhj2=>?_⟩;have e3:(fl2.getD j Sl.z).2=(BT (l.take k)).getD j []:=by
  rw [<-DA aA,h2];unfold Ei;rw [Hb,if_pos aA]
 exact ⟨e3,by rw [e3];exact choice_el h6 (Bj aA)⟩
theorem WA{l:List Int}{k j:Nat}{fl fl2:List Sl}{w:Value}(h1:Ao fl=BT (l.take k))(h2:Ao fl2=Ei l k j)(e:(fl2.getD j Sl.z).2=(BT (l.take k)).getD j [])(hj:j<fl.length):Ao (fl2++[(w,(fl2.getD j Sl.z).2++[l.getD k 0])])=Ei l k (j+1):=by
 rw [JJ,h2,SA (by rw [<-h1,B7];exact hj),e];rfl
theorem list_rng{c:List Int}{n:Nat}(h:c ∈ BT (BQ n)):c.length<=n/\∀i,i<c.length->0<=c.getD i 0/\c.getD i 0<(n:Int):=by
 have s:=RF h;refine ⟨by have:=s.length_le;rwa [CQ] at this,λi hi=>?_⟩;obtain ⟨k,hk,e⟩:=List.mem_iff_getElem.1 (s.mem (Bj (d:=0) hi));have hk2:k<n:=by rwa [CQ] at hk
 rw [<-e,<-CH 0 hk,Jv n k hk2];omega
def chk6:Bool:=(List.range 5).all λn=>((BT (BQ n)).all λc=>(List.range (2 ^ n)).any λ(y:Nat)=>Bd (y:Int) n==c) && (List.range (2 ^ n)).all λ(x:Nat)=>(BT (BQ n)).any λc=>c==Bd (x:Int) n
def chk7:Bool:=(List.range 5).all λn=>(List.range (2 ^ n)).all λ(x:Nat)=>(List.range (2 ^ n)).all λ(y:Nat)=> !(JO (Bd (x:Int) n)==JO (Bd (y:Int) n)) || Bd (x:Int) n==Bd (y:Int) n
theorem TH:chk6=true:=aB
theorem chk7_true:chk7=true:=aB
theorem WB{n:Nat}(hn:n<=4){c:List Int}(hc:c ∈ BT (BQ n)):∃y:Nat,y<2 ^ n/\Bd (y:Int) n=c:=by
 have h:=TH;unfold chk6 at h;rw [List.all_eq_true] at h;have h2:=h n (List.mem_range.2 aA);rw [Bool.and_eq_true] at h2;obtain ⟨y,hy,e⟩:=List.any_eq_true.1 (List.all_eq_true.1 h2.1 c hc);exact ⟨y,List.mem_range.1 hy,eq_of_beq e⟩
theorem WC{n x:Nat}(hn:n<=4)(hx:x<2 ^ n):Bd (x:Int) n ∈ BT (BQ n):=by
 have h:=TH;unfold chk6 at h;rw [List.all_eq_true] at h;have h2:=h n (List.mem_range.2 aA);rw [Bool.and_eq_true] at h2;obtain ⟨c,hc,e⟩:=List.any_eq_true.1 (List.all_eq_true.1 h2.2 x (List.mem_range.2 hx));rw [<-eq_of_beq e];exact hc
theorem key_one{n x y:Nat}(hn:n<=4)(hx:x<2 ^ n)(hy:y<2 ^ n)(e:JO (Bd (x:Int) n)=JO (Bd (y:Int) n)):Bd (x:Int) n=Bd (y:Int) n:=by
 have h:=chk7_true;unfold chk7 at h;rw [List.all_eq_true] at h;have h2:=List.all_eq_true.1 (List.all_eq_true.1 (h n (List.mem_range.2 aA)) x (List.mem_range.2 hx)) y (List.mem_range.2 hy);rw [Bool.or_eq_true] at h2;rcases h2 with q | q
 ·rw [e] at q;simp at q
 ·exact eq_of_beq q
section
variable {bag kinds:Int} {ps:List ByteArray} {ws:List AA} {js:List AK} {ns:List AF} {k:Nat}
def Ht(ws:List AA)(js:List AK)(ns:List AF)(C:List (List Int))(b:List Int):Nat->List Int
 | 0=>b
 | q+1=>if Jm (C.getD q []) (Ht ws js ns C b q)=true/\(AD ws js (Dw ns (C.getD q []))).length=0 then C.getD q [] else Ht ws js ns C b q
theorem TJ(hn:ns.length<=4)(h0:(AD ws js ns).length=0):∀q,q<=(BT (BQ ns.length)).length->∃m:Nat,m<2 ^ ns.length/\Ht ws js ns (BT (BQ ns.length)) (BQ ns.length) q=Bd (m:Int) ns.length/\Ip ws js ns m/\∀j,j<q->∀y:Nat,y<2 ^ ns.length->(BT (BQ ns.length)).getD j []=Bd (y:Int) ns.length->Ip ws js ns y->JO (Bd (m:Int) ns.length)<=JO (Bd (y:Int) ns.length)
 | 0,_=>by
  have h2:0<2 ^ ns.length:=Nat.two_pow_pos _;have e:=pickI_all ns.length hn;refine ⟨2 ^ ns.length-1,aA,e.symm,?_,λj hj=>absurd hj (Nat.not_lt_zero _)⟩;unfold Ip;rw [<-Io,e,XY];exact h0
 | q+1,hq=>by
  obtain ⟨m,hm,e,hN,hmin⟩:=TJ hn h0 q aA;obtain ⟨y0,hy0,e0⟩:=WB hn (Bj (l:=BT (BQ ns.length)) (d:=[]) (aA:q<_));have hc:=mask_cmp hn hy0 hm;unfold Ht;rw [e,<-e0,Io,hc];split
  ·rename_i g
   have g1:=of_decide_eq_true g.1;refine ⟨y0,hy0,rfl,g.2,λj hj y hy ey hNy=>?_⟩;rcases Nat.lt_succ_iff_lt_or_eq.1 hj with q1 | q1
   ·have:=hmin j q1 y hy ey hNy;omega
   ·subst q1;rw [<-e0] at ey;rw [ey];exact Nat.le_refl _
  ·rename_i g
   refine ⟨m,hm,rfl,hN,λj hj y hy ey hNy=>?_⟩;rcases Nat.lt_succ_iff_lt_or_eq.1 hj with q1 | q1
   ·exact hmin j q1 y hy ey hNy
   ·subst q1;rw [<-e0] at ey;have hN0:Ip ws js ns y0:=by unfold Ip;rw [<-Io,ey,Io];exact hNy
    rw [<-ey];exact Nat.le_of_not_lt λz=>g ⟨decide_eq_true z,hN0⟩
theorem clash_ref(hn:ns.length<=4)(h0:(AD ws js ns).length=0){q:Nat}(hq:q=(BT (BQ ns.length)).length):Ht ws js ns (BT (BQ ns.length)) (BQ ns.length) q=(Be ws js ns (2 ^ ns.length)).2:=by
 obtain ⟨m,hm,e,hN,hmin⟩:=TJ hn h0 q aA;obtain ⟨c1,c2⟩:=S8 (ws:=ws) (js:=js) hn (2 ^ ns.length) (Nat.le_refl _);cases hb:(Be ws js ns (2 ^ ns.length)).1 with
 | false=>exact absurd hN (c1 hb m hm)
 | true=>
  obtain ⟨m1,hm1,e1,hN1,hmin1⟩:=c2 hb;obtain ⟨j,hj,ej⟩:=List.mem_iff_getElem.1 (WC hn hm1);have a:=hmin j aA m1 hm1 (by rw [CH [] hj];exact ej) hN1;have b:=hmin1 m hm hN;rw [e,e1];exact key_one hn hm hm1 (Nat.le_antisymm a b)
theorem WD(hz:Aj bag kinds ps ws js ns=0)(hn:ns.length<=4)(h0:(AD ws js ns).length=0){fl:List Sl}(hfe:Ao fl=BT (BQ ns.length)){q:Nat}(hq:q=fl.length):Cy bag kinds ps ws js ns=Ht ws js ns (Ao fl) (BQ ns.length) q:=by
 unfold Cy;rw [if_neg (λx=>x hz),if_neg aA,hfe];exact (clash_ref hn h0 (by rw [hq,<-hfe,B7])).symm
theorem Xe{fl:List Sl}(hn:ns.length<=4)(hfe:Ao fl=BT (BQ ns.length)):fl.length<=64:=by
 have q:=M1 (l:=BQ ns.length) (by rw [CQ];omega) ns.length
 rwa [List.take_of_length_le (by rw [CQ];exact Nat.le_refl _),<-hfe,B7] at q
theorem Xf{fl:List Sl}(hfe:Ao fl=BT (BQ ns.length))(hk:k<fl.length):(fl.getD k Sl.z).2.length<=ns.length/\∀i,i<(fl.getD k Sl.z).2.length->0<=(fl.getD k Sl.z).2.getD i 0/\(fl.getD k Sl.z).2.getD i 0<(ns.length:Int):=by
 rw [<-DA hk,hfe];exact list_rng (Bj (by rw [<-hfe,B7];exact hk))
theorem cBest_put{fl:List Sl}{bl:List Int}{n:Nat}(hk:k<fl.length)(hbl:bl=Ht ws js ns (Ao fl) (BQ ns.length) k)(h1:Jm (fl.getD k Sl.z).2 bl=true)(hal:(AD ws js (Dw ns (fl.getD k Sl.z).2)).length=n)(h2:(n:Int)=0):(fl.getD k Sl.z).2=Ht ws js ns (Ao fl) (BQ ns.length) (k+1):=by
 unfold Ht;rw [<-hbl,DA hk,if_pos ⟨h1,aA⟩]
theorem Xg{fl:List Sl}{bl:List Int}(hk:k<fl.length)(hbl:bl=Ht ws js ns (Ao fl) (BQ ns.length) k)(h1:Jm (fl.getD k Sl.z).2 bl=false):bl=Ht ws js ns (Ao fl) (BQ ns.length) (k+1):=by
 unfold Ht;rw [<-hbl,DA hk,if_neg (λx=>by rw [h1] at x;cases x.1)]
theorem Xh{fl:List Sl}{bl:List Int}{n:Nat}(hk:k<fl.length)(hbl:bl=Ht ws js ns (Ao fl) (BQ ns.length) k)(hal:(AD ws js (Dw ns (fl.getD k Sl.z).2)).length=n)(h2:¬(n:Int)=0):bl=Ht ws js ns (Ao fl) (BQ ns.length) (k+1):=by
 unfold Ht;rw [<-hbl,DA hk,if_neg (λx=>h2 (by have:=x.2;omega))]
end
section
variable {f:Nat->Int} {k i n:Nat} {b:Int}
theorem cnt_t(h:f k=b):(Cx f (k+1) b).getD 0=(Cx f k b).getD 0+1:=by
 show (if b=f k then some ((Cx f k (f k)).getD 0+1) else Cx f k b).getD 0=_;rw [if_pos h.symm,h];rfl
theorem cnt_f(h:¬f k=b):(Cx f (k+1) b).getD 0=(Cx f k b).getD 0:=by
 show (if b=f k then _ else Cx f k b).getD 0=_;rw [if_neg (λe=>h e.symm)]
def Gh(f:Nat->Int)(n:Nat):Nat->Int
 | 0=>0
 | i+1=>max (Gh f n i) ((Cx f n (f i)).getD 0)
theorem TK(f:Nat->Int)(n:Nat):∀i,0<=Gh f n i/\Gh f n i<=FA f n/\∀j,j<i->(Cx f n (f j)).getD 0<=Gh f n i
 | 0=>⟨Int.le_refl _,(OS f n).1,λj hj=>absurd hj (Nat.not_lt_zero _)⟩
 | i+1=>by
  obtain ⟨a,b,c⟩:=TK f n i;have t:=top_ge f n (f i);unfold Gh;refine ⟨aA,aA,λj hj=>?_⟩;rcases Nat.lt_succ_iff_lt_or_eq.1 hj with q | q
  ·have:=c j q;omega
  ·subst q;omega
theorem Xi(hi:i=n):Gh f n i=FA f n:=by
 subst hi;obtain ⟨a,b,c⟩:=TK f i i;refine Int.le_antisymm b (top_le f a i λk hk j hj=>?_);have m:=Vv f (f j) (i-k) k;rw [show k+(i-k)=i by omega] at m;exact Int.le_trans m (c j aA)
end
def EX{V:Type}(B:Int)(l:List V):List V:=if B=0 then l else []
theorem J7{V:Type}{B:Int}{l:List V}(h:B=0):EX B l=l:=if_pos h
theorem Fl{V:Type}{B:Int}{l:List V}(h:¬B=0):EX B l=[]:=if_neg h
theorem WE{B v:Int}(h:B=0):Gf B v=v:=if_pos h
section
variable {bag kinds ob ok B way xl xh:Int} {ps ops:List ByteArray} {ws ows:List AA} {js ojs js2:List AK} {ns ons ns2:List AF} {h h':GH} {x:AF} {xj:AK}
theorem BJ.onL(c:BJ h js):BJ h (EX B js):=by unfold EX;split;exact c;exact BJ.nil h
theorem Ac.onL(c:Ac h ns):Ac h (EX B ns):=by unfold EX;split;exact c;exact Ac.nil h
structure Fy(B bag kinds:Int)(ps:List ByteArray)(ws:List AA)(js:List AK)(ns:List AF)(ob ok:Int)(ops:List ByteArray)(ows:List AA)(ojs:List AK)(ons:List AF):Prop where
 n:ob=Gf B bag/\ok=Gf B kinds
 p:ops=EX B ps
 w:ows=EX B ws
 jl:ojs.length=(EX B js).length
 j:∀k,Ze (ojs.getD k AK.z) ((EX B js).getD k AK.z)
 nl:ons.length=(EX B ns).length
 ns:∀k,Zf (ons.getD k AF.z) ((EX B ns).getD k AF.z)
theorem Fy.no(hB:¬B=0):Fy B bag kinds ps ws js ns 0 0 [] [] [] []:=
 ⟨⟨(GE hB).symm,(GE hB).symm⟩,(Fl hB).symm,(Fl hB).symm,by rw [Fl hB],λk=>by rw [Fl hB];exact ⟨rfl,rfl,rfl,rfl,rfl⟩,by rw [Fl hB],λk=>by rw [Fl hB];exact ⟨rfl,rfl,rfl⟩⟩
theorem Fy.yes(hB:B=0)(hj:js2.length=js.length)(hjs:∀k,Ze (js2.getD k AK.z) (js.getD k AK.z))(hn:ns2.length=ns.length)(hns:∀k,Zf (ns2.getD k AF.z) (ns.getD k AF.z)):Fy B bag kinds ps ws js ns bag kinds ps ws js2 ns2:=
 ⟨⟨(WE hB).symm,(WE hB).symm⟩,(J7 hB).symm,(J7 hB).symm,by rw [J7 hB];exact hj,λk=>by rw [J7 hB];exact hjs k,by rw [J7 hB];exact hn,λk=>by rw [J7 hB];exact hns k⟩
def Hu(t1 t2 t3 t4:TypeId)(B bag kinds:Int)(ps:List ByteArray)(ws:List AA)(js:List AK)(ns:List AF)(h:GH)(v:Value)(h':GH):Prop:=
 ∃(ob:Int)(ok:Int)(ops:List ByteArray)(opv:Value)(ows:List AA)(owv:Value)(ojs:List AK)(ojv:Value)(ons:List AF)(onv:Value),v=(.tuple #[.agg #[.int .i64 ob,.int .i64 ok,opv,owv,ojv,onv],.int .i64 B]:Value)/\AM h h' opv t1 1 Dz ops/\AM h h' owv t2 4 CO ows/\AM h h' ojv t3 5 CP ojs/\AM h h' onv t4 3 Bh ons/\CL h' 3 ojs/\CY h' 3 ons/\Fy B bag kinds ps ws js ns ob ok ops ows ojs ons/\h.Le h'
theorem Hu.no{v:Value}{t1 t2 t3 t4:TypeId}(hB:¬B=0)(e:v=(.tuple #[.agg #[.int .i64 0,.int .i64 0,.slice none 0 0,.slice none 0 0,.slice none 0 0,.slice none 0 0],.int .i64 B]:Value)/\h.Le h'):Hu t1 t2 t3 t4 B bag kinds ps ws js ns h v h':=
 ⟨0,0,[],_,[],_,[],_,[],_,e.1,AM.nil _ _ _ _ _,AM.nil _ _ _ _ _,AM.nil _ _ _ _ _,AM.nil _ _ _ _ _,λk=>by simpa [AK.z] using B8.nil h' 3,λk=>by simpa [AF.z] using B8.nil h' 3,Fy.no hB,e.2⟩
theorem Hu.yes{v:Value}{t1 t2 t3 t4:TypeId}(hB:B=0)(e:∃(p2:Value)(w2:Value)(j2:Value)(n2:Value)(fj:Nat->Value)(fn:Nat->Value),v=(.tuple #[.agg #[.int .i64 bag,.int .i64 kinds,p2,w2,j2,n2],.int .i64 0]:Value)/\AM h h' p2 t1 1 Dz ps/\AM h h' w2 t2 4 CO ws/\AM h h' j2 t3 5 CP (HN js fj js.length)/\AM h h' n2 t4 3 Bh (H5 ns fn ns.length)/\CL h' 3 (HN js fj js.length)/\CY h' 3 (H5 ns fn ns.length)/\h.Le h'):Hu t1 t2 t3 t4 B bag kinds ps ws js ns h v h':=by
 obtain ⟨p2,w2,j2,n2,fj,fn,e,a,b,c,d,tj,tn,l⟩:=e;exact ⟨bag,kinds,ps,p2,ws,w2,_,j2,_,n2,by rw [e,hB],a,b,c,d,tj,tn,Fy.yes hB (LF ..) (reJ_same _ _ _) (LG ..) (reN_same _ _ _),l⟩
def DS(B:Int)(v:Value):Value:=if B=0 then v else .slice none 0 0
theorem Xj{B:Int}{v:Value}(h:B=0):DS B v=v:=if_pos h
theorem JD{B:Int}{v:Value}(h:¬B=0):DS B v=.slice none 0 0:=if_neg h
theorem D6{V:Type}{v:Value}{n:Nat}{enc:V->Array Value}{l:List V}(x:AI h v n enc l):AI h (DS B v) n enc (EX B l):=by
 unfold DS EX;split
 ·exact x
 ·exact AI.nil _ _ _
def Bp(bag kinds:Int)(ps:List ByteArray)(ws:List AA)(js:List AK)(ns:List AF)(x:AF):Int:=if¬Aj bag kinds ps ws js ns=0 then Aj bag kinds ps ws js ns else AY bag kinds ps ws js (ns++[x]) 0
theorem Uf(h:¬Aj bag kinds ps ws js ns=0):Bp bag kinds ps ws js ns x=Aj bag kinds ps ws js ns:=if_pos h
theorem LK(h:Aj bag kinds ps ws js ns=0):Bp bag kinds ps ws js ns x=AY bag kinds ps ws js (ns++[x]) 0:=if_neg λn=>n h
def BY(bag kinds:Int)(ps:List ByteArray)(ws:List AA)(js:List AK)(ns:List AF)(xj:AK):Int:=if¬Aj bag kinds ps ws js ns=0 then Aj bag kinds ps ws js ns else Aj bag kinds ps ws (js++[xj]) ns
theorem Ug(h:¬Aj bag kinds ps ws js ns=0):BY bag kinds ps ws js ns xj=Aj bag kinds ps ws js ns:=if_pos h
theorem M3(h:Aj bag kinds ps ws js ns=0):BY bag kinds ps ws js ns xj=Aj bag kinds ps ws (js++[xj]) ns:=if_neg λn=>n h
abbrev Xk(ws:List AA)(way xl xh:Int):List AA:=timed ws way.toNat (max (ws.getD way.toNat AA.z).low xl) (min (ws.getD way.toNat AA.z).high xh)
def BN(bag kinds:Int)(ps:List ByteArray)(ws:List AA)(js:List AK)(ns:List AF)(way xl xh:Int):Int:=
 if¬Aj bag kinds ps ws js ns=0 then Aj bag kinds ps ws js ns
 else if¬(0<=way/\way<=(ws.length:Int)-1) then 6
 else if¬((0<=xl/\xl<=xh)/\xh<=30) then 1
 else if min (ws.getD way.toNat AA.z).high xh<max (ws.getD way.toNat AA.z).low xl then 9
 else AY bag kinds ps (Xk ws way xl xh) js ns 0
theorem Uh(h:¬Aj bag kinds ps ws js ns=0):BN bag kinds ps ws js ns way xl xh=Aj bag kinds ps ws js ns:=if_pos h
theorem Ui(h:Aj bag kinds ps ws js ns=0)(h2:¬(0<=way/\way<=(ws.length:Int)-1)):BN bag kinds ps ws js ns way xl xh=6:=by
 unfold BN;rw [if_neg (λn=>n h),if_pos h2]
theorem Uj(h:Aj bag kinds ps ws js ns=0)(h2:0<=way/\way<=(ws.length:Int)-1)(h3:¬((0<=xl/\xl<=xh)/\xh<=30)):BN bag kinds ps ws js ns way xl xh=1:=by
 unfold BN;rw [if_neg (λn=>n h),if_neg (λn=>n h2),if_pos h3]
theorem Uk(h:Aj bag kinds ps ws js ns=0)(h2:0<=way/\way<=(ws.length:Int)-1)(h3:(0<=xl/\xl<=xh)/\xh<=30)(h4:min (ws.getD way.toNat AA.z).high xh<max (ws.getD way.toNat AA.z).low xl):BN bag kinds ps ws js ns way xl xh=9:=by
 unfold BN;rw [if_neg (λn=>n h),if_neg (λn=>n h2),if_neg (λn=>n h3),if_pos h4]
theorem M4(h:Aj bag kinds ps ws js ns=0)(h2:0<=way/\way<=(ws.length:Int)-1)(h3:(0<=xl/\xl<=xh)/\xh<=30)(h4:¬min (ws.getD way.toNat AA.z).high xh<max (ws.getD way.toNat AA.z).low xl):BN bag kinds ps ws js ns way xl xh=AY bag kinds ps (Xk ws way xl xh) js ns 0:=by
 unfold BN;rw [if_neg (λn=>n h),if_neg (λn=>n h2),if_neg (λn=>n h3),if_neg h4]
end
end Go.Ns
namespace Go.Ns
open Go.Conc
universe u
theorem Z{V:Sort u}{a:V}:a=a:=rfl
theorem Lr{h:GH}:GH.Le h h:=GH.Le.refl h
theorem Ln{h h':GH}(l:h.Le h'){r:Nat}(hr:h' r=none):h r=none:=l.nothing hr
theorem CD{h:GH}{b r:Nat}{p:Bool}{o:Obj}(hb:h b=some (p,o))(hr:h r=none):b≠r:=GH.ne_of hb hr
theorem Nb{a b:Nat}(h:Nat.ble a b=true):a<=b:=Nat.le_of_ble_eq_true h
theorem Dn{p:Prop}[Decidable p](h:¬¬p):p:=Decidable.not_not.1 h
theorem Et{V:Sort u}{a b c:V}(x:a=b)(y:b=c):a=c:=x.trans y
theorem Kl{h0 h:GH}(k:KeepD (λb=>h0 b=none) h0 h):h0.Le h:=k.leOf
theorem Bx{h:GH}{b:Nat}{p:Bool}{c:Array Value}{t:TypeId}{f:Nat×Nat}(hb:h b=some (p,.cells c t f)){n:Nat}(hn:c.size=n):AZ h b 0 n c:=AZ.box hb hn
abbrev lE(v:Value):Law2:=λ_ u _=>u=v
abbrev lF(v:Value):SQ:=λu _=>u=v
abbrev zP:Array Value:=#[.int .i64 0,.int .i64 0,.slice none 0 0,.slice none 0 0,.slice none 0 0,.slice none 0 0,.map none]
section
variable {P:Program} {E:Gr P} {O:Nat->Value} {ds:List Deferred} {h:GH} {Q:Post} {T:(Nat->Value)->List Deferred->GH->Prop}
variable {dst:Option Nat} {ty:TypeId} {pos:String} {af:Array Edge} {ops:Array Oper} {o:Oper} {l:List Oper}
theorem Sq{x y:Code}(a:Tr E x O ds h (λe σ' ds' h'=>match e with | .normal=>Tr E y σ' ds' h' Q | e=>Q e σ' ds' h')):Tr E (.seq x y) O ds h Q:=tr_seq a
theorem Rg{id:Nat}{l:List Oper}(a:DE E l.toArray l O ds h Q):Tr E (.region id l.toArray false) O ds h Q:=Zo a
theorem Nl(q:Q .normal O ds h):DE E ops [] O ds h Q:=trL_nil q
abbrev Rt:=@tr_ret
abbrev Bk:=@tr_block
abbrev Sk:=@tr_skip
abbrev Xt:=@tr_exit
def plainB(N:Nat)(o:Oper):Bool:=o.guard.isNone && !DH o.op && DD o.dst N
theorem Pl(hp:plainB E.N o=true)(x:BX E o O ds h λσ' ds' h'=>DE E ops l σ' ds' h' Q):DE E ops (o ::l) O ds h Q:=by
 simp only [plainB,Bool.and_eq_true,Option.isNone_iff_eq_none,Bool.not_eq_true'] at hp;exact Gv hp.1.1 hp.1.2 hp.2 x
theorem Mv{x:Operand}(v:Value)(hp:DD dst E.N=true)(hx:AQ O x=v)(k:DE E ops l (putS O dst v) ds h Q):DE E ops (⟨dst,.move x,ty,pos,af,none⟩ ::l) O ds h Q:=Gv rfl rfl hp (FS hx k)
theorem As{x:Operand}(v:Value)(hp:DD dst E.N=true)(hx:AQ O x=v)(k:DE E ops l (putS O dst v) ds h Q):DE E ops (⟨dst,.assign x,ty,pos,af,none⟩ ::l) O ds h Q:=Gv rfl rfl hp (NO hx k)
theorem Ld{t:TypeId}{x:Operand}{b off:Nat}(v:Value)(hp:DD dst E.N=true)(hx:AQ O x=.pointer (some ⟨b,off,none⟩))(hr:Rd P h t b off v)(k:DE E ops l (putS O dst v) ds h Q):DE E ops (⟨dst,.load t x,ty,pos,af,none⟩ ::l) O ds h Q:=
 Gv rfl rfl hp (B1 hx hr k)
theorem Fa{s:TypeId}{x:Operand}{f o b off:Nat}(hf:D1 P s f=some o)(hp:DD dst E.N=true)(hx:AQ O x=.pointer (some ⟨b,off,none⟩))(k:DE E ops l (putS O dst (.pointer (some ⟨b,off+o,none⟩))) ds h Q) :
  DE E ops (⟨dst,.fieldAddr s x f,ty,pos,af,none⟩ ::l) O ds h Q:=Gv rfl rfl hp (AC hf hx k)
theorem Pk{c a b:Operand}(t:Bool)(v:Value)(hp:DD dst E.N=true)(hc:AQ O c=.bool t)(hv:(if t then AQ O a else AQ O b)=v)(k:DE E ops l (putS O dst v) ds h Q):DE E ops (⟨dst,.pick c a b,ty,pos,af,none⟩ ::l) O ds h Q:=
 Gv rfl rfl hp (BK hc hv k)
theorem Ad{xt yt:TypeId}{x y:Operand}(a b:Int)(hp:DD dst E.N=true)(hx:AQ O x=.int .i64 a)(hy:AQ O y=.int .i64 b)(hr: -9223372036854775808<=a+b/\a+b<=9223372036854775807)(k:DE E ops l (putS O dst (.int .i64 (a+b))) ds h Q) :
  DE E ops (⟨dst,.binOp .add xt x y yt,ty,pos,af,none⟩ ::l) O ds h Q:=Gv rfl rfl hp (Tq hx hy hr k)
def skipB(N:Nat)(ops:Array Oper)(o:Oper)(j d:Nat)(is:Bool):Bool:=(match o.guard with
 | some (i,w)=>i==j && w !=is
 | none=>false) && (match ops[j]? with
 | some oj=>(match oj.dst with
  | some e=>e==d
  | none=>false)
 | none=>false) && Nat.blt d N && DD o.dst N
theorem Gs(j d:Nat){is:Bool}(hv:O d=.bool is)(hs:skipB E.N ops o j d is=true)(x:DE E ops l (putS O o.dst undef) ds h Q):DE E ops (o ::l) O ds h Q:=by
 simp only [skipB,Bool.and_eq_true] at hs;obtain ⟨⟨⟨h1,h2⟩,h3⟩,h4⟩:=hs;cases hg:o.guard with
 | none=>rw [hg] at h1;cases h1
 | some q=>
  obtain ⟨i,w⟩:=q;rw [hg] at h1;simp only [Bool.and_eq_true,beq_iff_eq,bne_iff_ne,ne_eq] at h1;obtain ⟨rfl,hne⟩:=h1;cases hj:ops[i]? with
  | none=>rw [hj] at h2;cases h2
  | some oj=>
   cases hd:oj.dst with
   | none=>simp [hj,hd] at h2
   | some e=>
    obtain rfl:e=d:=by simpa [hj,hd] using h2
    exact PE hg hj hd hv h3 hne h4 x
def goB(N:Nat)(ops:Array Oper)(o:Oper)(j d:Nat)(is:Bool):Bool:=(match o.guard with
 | some (i,w)=>i==j && w==is
 | none=>false) && (match ops[j]? with
 | some oj=>(match oj.dst with
  | some e=>e==d
  | none=>false)
 | none=>false) && Nat.blt d N && !DH o.op && DD o.dst N
theorem Gg(j d:Nat){is:Bool}(hv:O d=.bool is)(hs:goB E.N ops o j d is=true)(x:BX E o O ds h λσ' ds' h'=>DE E ops l σ' ds' h' Q):DE E ops (o ::l) O ds h Q:=by
 simp only [goB,Bool.and_eq_true,Bool.not_eq_true'] at hs;obtain ⟨⟨⟨⟨h1,h2⟩,h3⟩,h5⟩,h4⟩:=hs;cases hg:o.guard with
 | none=>rw [hg] at h1;cases h1
 | some q=>
  obtain ⟨i,w⟩:=q;rw [hg] at h1;simp only [Bool.and_eq_true,beq_iff_eq] at h1;obtain ⟨rfl,rfl⟩:=h1;cases hj:ops[i]? with
  | none=>rw [hj] at h2;cases h2
  | some oj=>
   cases hd:oj.dst with
   | none=>simp [hj,hd] at h2
   | some e=>
    obtain rfl:e=d:=by simpa [hj,hd] using h2
    exact trL_opg hg hj hd hv h3 (.inr h5) h4 x
end
section
variable {S:Nat->Prop} {Pre:Nat->GH->Prop} {Φ:List Law2} {cl:List Nat} {k d:Nat} {h h':GH} {O:Nat->Value} {ds:List Deferred} {v:Value}
theorem fL{Φ:List SQ}(p:MP Φ k v h):ds=ds/\GH.Le h h/\∃w,putS O (some d) v=putS O (some d) w/\MP Φ k w h:=⟨rfl,GH.Le.refl _,_,rfl,p⟩
theorem K1{R:GH->GH->Prop}{Φ:List SQ}{a:Value}(x:GS R Φ):GS R (lF a ::Φ):=⟨λ_ _ _ _ y=>y,x⟩
theorem K2{R:GH->GH->Prop}{Φ:List SQ}{a b:Value}(x:GS R Φ):GS R (lF a ::lF b ::Φ):=K1 (K1 x)
theorem K4{R:GH->GH->Prop}{Φ:List SQ}{a b c d:Value}(x:GS R Φ):GS R (lF a ::lF b ::lF c ::lF d ::Φ):=K2 (K2 x)
theorem K8{R:GH->GH->Prop}{Φ:List SQ}{a b c d a' b' c' d':Value}(x:GS R Φ):GS R (lF a ::lF b ::lF c ::lF d ::lF a' ::lF b' ::lF c' ::lF d' ::Φ):=K4 (K4 x)
end
end Go.Ns
namespace Go.Ns
open Go.Conc
section
variable {P:Program} {E:Gr P} {O:Nat->Value} {ds:List Deferred} {h:GH} {Q:Post} {T:(Nat->Value)->List Deferred->GH->Prop}
variable {dst:Option Nat} {ty:TypeId} {pos:String} {af:Array Edge} {ops:Array Oper} {o:Oper} {l:List Oper} {gd:Option (Nat×Bool)}
theorem Mz{x:Operand}(v:Value)(e:(DD dst E.N,AQ O x)=(true,v))(k:DE E ops l (putS O dst v) ds h Q):DE E ops (⟨dst,.move x,ty,pos,af,none⟩ ::l) O ds h Q:=Mv v (congrArg Prod.fst e) (congrArg Prod.snd e) k
theorem Az{x:Operand}(v:Value)(e:(DD dst E.N,AQ O x)=(true,v))(k:DE E ops l (putS O dst v) ds h Q):DE E ops (⟨dst,.assign x,ty,pos,af,none⟩ ::l) O ds h Q:=As v (congrArg Prod.fst e) (congrArg Prod.snd e) k
theorem Lz{t:TypeId}{x:Operand}{b off:Nat}(v:Value)(e:(DD dst E.N,AQ O x)=(true,.pointer (some ⟨b,off,none⟩)))(hr:Rd P h t b off v)(k:DE E ops l (putS O dst v) ds h Q):DE E ops (⟨dst,.load t x,ty,pos,af,none⟩ ::l) O ds h Q:=
 Ld v (congrArg Prod.fst e) (congrArg Prod.snd e) hr k
theorem Fz{s:TypeId}{x:Operand}{f o b off:Nat}(hf:D1 P s f=some o)(e:(DD dst E.N,AQ O x)=(true,.pointer (some ⟨b,off,none⟩)))(k:DE E ops l (putS O dst (.pointer (some ⟨b,off+o,none⟩))) ds h Q) :
  DE E ops (⟨dst,.fieldAddr s x f,ty,pos,af,none⟩ ::l) O ds h Q:=Fa hf (congrArg Prod.fst e) (congrArg Prod.snd e) k
theorem Pz{c a b:Operand}(t:Bool)(v:Value)(e:(DD dst E.N,AQ O c,(if t then AQ O a else AQ O b))=(true,.bool t,v))(k:DE E ops l (putS O dst v) ds h Q):DE E ops (⟨dst,.pick c a b,ty,pos,af,none⟩ ::l) O ds h Q:=
 Pk t v (congrArg Prod.fst e) (congrArg (λq=>q.2.1) e) (congrArg (λq=>q.2.2) e) k
theorem Yd{xt yt:TypeId}{x y:Operand}{a b:Int}(e:(DD dst E.N,AQ O x,AQ O y)=(true,.int .i64 a,.int .i64 b))(hr: -9223372036854775808<=a+b/\a+b<=9223372036854775807)(k:DE E ops l (putS O dst (.int .i64 (a+b))) ds h Q) :
  DE E ops (⟨dst,.binOp .add xt x y yt,ty,pos,af,none⟩ ::l) O ds h Q:=Ad a b (congrArg Prod.fst e) (congrArg (λq=>q.2.1) e) (congrArg (λq=>q.2.2) e) hr k
theorem Mo{x:Operand}(v:Value)(hx:AQ O x=v)(k:T (putS O dst v) ds h):BX E ⟨dst,.move x,ty,pos,af,gd⟩ O ds h T:=FS hx k
theorem Lo{t:TypeId}{x:Operand}{b off:Nat}(v:Value)(hx:AQ O x=.pointer (some ⟨b,off,none⟩))(hr:Rd P h t b off v)(k:T (putS O dst v) ds h):BX E ⟨dst,.load t x,ty,pos,af,gd⟩ O ds h T:=B1 hx hr k
theorem Ex{x:Operand}{n:Nat}{vs:Array Value}(v:Value)(e:(AQ O x,vs[n]?)=(.tuple vs,some v))(k:T (putS O dst v) ds h):BX E ⟨dst,.extract x n,ty,pos,af,gd⟩ O ds h T:=Wo (congrArg Prod.fst e) (congrArg Prod.snd e) k
theorem Bo{t:TypeId}{x:Operand}{v:Value}(c:Array Value)(hx:AQ O x=v)(hc:v.cells=c)
  (k:∀r h',h r=none->h.Le h'->h' r=some (true,.cells c t (0,0))->(∀b,b≠r->h' b=h b)->T (putS O dst (.pointer (some ⟨r,0,none⟩))) ds h'):BX E ⟨dst,.box t x,ty,pos,af,gd⟩ O ds h T:=Ts hx hc k
theorem So{t:TypeId}{a x:Operand}{b off n:Nat}{g:Bool}{c:Array Value}{et:TypeId}(v:Value)(c':Array Value)(ht:Co P t=some (g,n))(e:(AQ O a,AQ O x)=(.pointer (some ⟨b,off,none⟩),v))(hb:h b=some (true,.cells c et (0,0)))
  (e2:(v.cells.size,Value.fine v)=(n,true)) (hn:off+n<=c.size) (hc:Bw c off v.cells.toList=c') (k:∀h',h' b=some (true,.cells c' et (0,0))->(∀x,x≠b->h' x=h x)->T (putS O dst undef) ds h') :
  BX E ⟨dst,.store t a x,ty,pos,af,gd⟩ O ds h T:=AV ht (congrArg Prod.fst e) (congrArg Prod.snd e) hb (congrArg Prod.fst e2) (congrArg Prod.snd e2) hn hc k
theorem Ot{fn:Func}{R:Value->GH->Prop}{t:Tmp}(v:Value)(e:(fn.results,O t)=(#[.tmp t],v))(x:R v h):Gu P fn O R [] h:=IE (congrArg Prod.fst e) (congrArg Prod.snd e) x
theorem Ou{fn:Func}{R:Value->GH->Prop}{t u:Tmp}(v v':Value)(e:(fn.results,O t,O u)=(#[.tmp t,.tmp u],v,v'))(x:R (.tuple #[v,v']) h):Gu P fn O R [] h:=outs2 (congrArg Prod.fst e) (congrArg (λq=>q.2.1) e) (congrArg (λq=>q.2.2) e) x
theorem Sr{id:Nat}{y:Code}(a:DE E l.toArray l O ds h (λe σ' ds' h'=>match e with | .normal=>Tr E y σ' ds' h' Q | e=>Q e σ' ds' h')):Tr E (.seq (.region id l.toArray false) y) O ds h Q:=Sq (Rg a)
theorem S2{id:Nat}{y z:Code}(a:DE E l.toArray l O ds h (λe σ' ds' h'=>match e with | .normal=>Tr E y σ' ds' h' (λe σ' ds' h'=>match e with | .normal=>Tr E z σ' ds' h' Q | e=>Q e σ' ds' h') | e=>(λe σ' ds' h'=>match e with | .normal=>Tr E z σ' ds' h' Q | e=>Q e σ' ds' h') e σ' ds' h')) :
  Tr E (.seq (.seq (.region id l.toArray false) y) z) O ds h Q:=Sq (Sq (Rg a))
theorem Zr{V:Type}{a b:V}:a=b\/a=a:=.inr rfl
theorem M2{x x':Operand}{dst':Option Nat}{ty':TypeId}{pos':String}{af':Array Edge}(v v':Value)(e:(DD dst E.N,AQ O x,DD dst' E.N,AQ (putS O dst v) x')=(true,v,true,v'))(k:DE E ops l (putS (putS O dst v) dst' v') ds h Q):DE E ops (⟨dst,.move x,ty,pos,af,none⟩ ::⟨dst',.move x',ty',pos',af',none⟩ ::l) O ds h Q:=
 Mv v (congrArg Prod.fst e) (congrArg (λq=>q.2.1) e) (Mv v' (congrArg (λq=>q.2.2.1) e) (congrArg (λq=>q.2.2.2) e) k)
theorem A2{x x':Operand}{dst':Option Nat}{ty':TypeId}{pos':String}{af':Array Edge}(v v':Value)(e:(DD dst E.N,AQ O x,DD dst' E.N,AQ (putS O dst v) x')=(true,v,true,v'))(k:DE E ops l (putS (putS O dst v) dst' v') ds h Q):DE E ops (⟨dst,.assign x,ty,pos,af,none⟩ ::⟨dst',.assign x',ty',pos',af',none⟩ ::l) O ds h Q:=
 As v (congrArg Prod.fst e) (congrArg (λq=>q.2.1) e) (As v' (congrArg (λq=>q.2.2.1) e) (congrArg (λq=>q.2.2.2) e) k)
theorem Ct{W:Wk P}{f:FuncId}{fn:Func}{c:Code}{args:Array Value}{R:Value->GH->Prop}(hf:P.funcs[f]? =some fn)(e:(fn.body,Nat.ble args.size fn.ntmps)=(some c,true))
  (x:Tr ⟨W,f,none,fn.ntmps⟩ c (λi=>args.getD i undef) [] h (λe O ds h'=>(e=.normal\/e=.ret)/\Gu P fn O R ds h')):AU W f args h R:=Wn hf (congrArg Prod.fst e) (Nat.le_of_ble_eq_true (congrArg Prod.snd e)) x
end
section
variable {P:Program} {E:Gr P} {l:List Oper} {n:Nat} {fl:Bool} {hs:GH} {ds:List Deferred} {Lw:Nat->Value->GH->Prop} {F:(Nat->Value)->GH->Prop} {π:List Nat} {O:Nat->Value} {h:GH} {m k g d:Nat} {dst:Option Nat} {op:Op} {ty:TypeId} {pos:String} {af:Array Edge} {v:Value} {w is:Bool} {og:Oper}
theorem Rz(e:(LU m,l[k]?)=((.r,k),some ⟨dst,op,ty,pos,af,none⟩))(x:Tx E ⟨dst,op,ty,pos,af,none⟩ O ds h v)(y:TD E l n fl hs ds Lw F (dK π) (putS O dst v) h):TD E l n fl hs ds Lw F (dK (m ::π)) O h:=tR (congrArg Prod.fst e) (congrArg Prod.snd e) x y
theorem Rm{x:Operand}(v:Value)(e:(LU m,l[k]?,AQ O x)=((.r,k),some ⟨dst,.move x,ty,pos,af,none⟩,v))(y:TD E l n fl hs ds Lw F (dK π) (putS O dst v) h):TD E l n fl hs ds Lw F (dK (m ::π)) O h:=
 tR (congrArg Prod.fst e) (congrArg (λq=>q.2.1) e) (FS (congrArg (λq=>q.2.2) e) vz) y
theorem Rl{t:TypeId}{x:Operand}{b off:Nat}(v:Value)(e:(LU m,l[k]?,AQ O x)=((.r,k),some ⟨dst,.load t x,ty,pos,af,none⟩,.pointer (some ⟨b,off,none⟩)))(hr:Rd P h t b off v)(y:TD E l n fl hs ds Lw F (dK π) (putS O dst v) h):TD E l n fl hs ds Lw F (dK (m ::π)) O h:=
 tR (congrArg Prod.fst e) (congrArg (λq=>q.2.1) e) (B1 (congrArg (λq=>q.2.2) e) hr vz) y
theorem Py(e:(LU m,l[k]?)=((.p,k),some ⟨dst,op,ty,pos,af,none⟩))(x:∀hx,Tx E ⟨dst,op,ty,pos,af,none⟩ O ds hx v)(y:TD E l n fl hs ds Lw F (dK π) (putS O dst v) h):TD E l n fl hs ds Lw F (dK (m ::π)) O h:=tP (congrArg Prod.fst e) (congrArg Prod.snd e) x y
theorem Ry(e:(LU m,l[k]?,l[g]?,og.dst)=((.r,k),some ⟨dst,op,ty,pos,af,some (g,w)⟩,some og,some d))(h3:O d=.bool w)(x:Tx E ⟨dst,op,ty,pos,af,some (g,w)⟩ O ds h v)
  (y:TD E l n fl hs ds Lw F (dK π) (putS O dst v) h):TD E l n fl hs ds Lw F (dK (m ::π)) O h:=tRg (congrArg Prod.fst e) (congrArg (λq=>q.2.1) e) (congrArg (λq=>q.2.2.1) e) (congrArg (λq=>q.2.2.2) e) h3 x y
theorem Sz{kd:Kd}(e:(LU m,l[k]?,l[g]?,og.dst)=((kd,k),some ⟨dst,op,ty,pos,af,some (g,w)⟩,some og,some d))(h3:O d=.bool is)(hne:(is==w)=false)
  (y:TD E l n fl hs ds Lw F (dK π) (putS O dst undef) h) (hl:(kd !=Kd.l)=true:=by rfl):TD E l n fl hs ds Lw F (dK (m ::π)) O h:=tS (congrArg Prod.fst e) (congrArg (λq=>q.2.1) e) (congrArg (λq=>q.2.2.1) e) (congrArg (λq=>q.2.2.2) e) h3 hne y hl
end
end Go.Ns
namespace Go.Ns
open Go.Conc
structure D7(h:GH)(ps:List ByteArray)(psv:Value)(ws:List AA)(wsv:Value)(js:List AK)(jsv:Value)(ns:List AF)(nsv:Value):Prop where
 a:AI h psv 1 Dz ps
 b:AI h wsv 4 CO ws
 c:AI h jsv 5 CP js
 d:BJ h js
 e:AI h nsv 3 Bh ns
 f:Ac h ns
theorem D7.le{h h':GH}{ps:List ByteArray}{psv:Value}{ws:List AA}{wsv:Value}{js:List AK}{jsv:Value}{ns:List AF}{nsv:Value}(x:D7 h ps psv ws wsv js jsv ns nsv)(l:h.Le h'):D7 h' ps psv ws wsv js jsv ns nsv:=⟨x.1.le l,x.2.le l,x.3.le l,x.4.le l,x.5.le l,x.6.le l⟩
abbrev J(x:Int):Value:=.int .i64 x
abbrev Pt(b:Nat):Value:=.pointer (some ⟨b,0,none⟩)
abbrev Sc(b:Nat)(n c:Nat):Value:=.slice (some ⟨b,0,none⟩) n c
abbrev Q0:Array Value:=#[J 0,J 0,.slice none 0 0,.slice none 0 0,.slice none 0 0,.slice none 0 0,.slice none 0 0,.map none]
abbrev Q1:Array Value:=#[J 0,J 0,.slice none 0 0,.slice none 0 0,.slice none 0 0,.slice none 0 0]
abbrev Q2(a:List AA)(b:List AK)(c:List AF)(d:Nat):Array Value:=#[J (((AD a b c).getD (((d:Int)-1).toNat) AG.zero).ways 0),J (((AD a b c).getD (((d:Int)-1).toNat) AG.zero).ways 1),J (((AD a b c).getD (((d:Int)-1).toNat) AG.zero).ways 2),J (((AD a b c).getD (((d:Int)-1).toNat) AG.zero).ways 3),J (((AD a b c).getD (((d:Int)-1).toNat) AG.zero).ways 4)]
abbrev Q3(a:List AA)(b:List AK)(c:List AF)(d:Nat):Array Value:=#[J (((AD a b c).getD d AG.zero).ways 0),J (((AD a b c).getD d AG.zero).ways 1),J (((AD a b c).getD d AG.zero).ways 2),J (((AD a b c).getD d AG.zero).ways 3),J (((AD a b c).getD d AG.zero).ways 4)]
abbrev Q4(a:List AA)(b:Nat):Array Value:=#[J ((a.getD b AA.z).a),J ((a.getD b AA.z).b),J ((a.getD b AA.z).low),J ((a.getD b AA.z).high)]
abbrev Q5(a:ByteArray)(b:Nat):=decide (¬(((97<=((bytesOf a).getD b 0))/\(((bytesOf a).getD b 0)<=122))\/(((0<(b:Int))/\(48<=((bytesOf a).getD b 0)))/\(((bytesOf a).getD b 0)<=57))))
abbrev Q6:Value:=.slice none 0 0
abbrev Q7(a:List AF)(b:Nat):Array Value:=#[(a.getD b AF.z).wv,J ((a.getD b AF.z).low),J ((a.getD b AF.z).high)]
abbrev Q8(a:ByteArray)(b:Nat):=(bytesOf a).getD b 0
abbrev Q9(a:List AK)(b:Nat):=decide ((¬(((0<=((a.getD b AK.z).low)/\((a.getD b AK.z).low)<=((a.getD b AK.z).high))/\((a.getD b AK.z).high)<=30)/\((a.getD b AK.z).high)-((a.getD b AK.z).low)<2))\/(¬(0<=((a.getD b AK.z).due)/\((a.getD b AK.z).due)<=200)))
abbrev Qa(a:List AA)(b:Nat):=(a.getD b AA.z).b
abbrev Qb(a:List AA)(b:Nat):=(a.getD b AA.z).a
abbrev Qc(a:List AK)(b:Nat):Array Value:=#[J ((a.getD b AK.z).place),J ((a.getD b AK.z).low),J ((a.getD b AK.z).high),J ((a.getD b AK.z).due),(a.getD b AK.z).pv]
abbrev Qd(a:List AG)(b:Nat):=(a.drop (1)).getD b AG.zero
abbrev Qe(a:List AK)(b:Nat):=(a.getD b AK.z).high
abbrev Qf(a:List AK)(b:Nat):=(a.getD b AK.z).low
abbrev Qg(a:List Int)(b:List Int):=decide (((a.length:Int)<(b.length:Int))\/(((a.length:Int)=(b.length:Int))/\(KX a b<0)))
abbrev Qh(a:List AF)(b:Nat):=(a.getD b AF.z).high
abbrev Qi(a:List ByteArray)(b:List AA)(c:List AK)(d:List AF):=decide ((((20<(a.length:Int))\/(20<(b.length:Int)))\/(20<(c.length:Int)))\/(20<(d.length:Int)))
abbrev Qj(a:Int)(b:Int)(c:List ByteArray)(d:List AA)(e:List AK)(f:List AF):=J (Aj a b c d e f)
abbrev Qk(a:List AA)(b:Nat):Array Value:=#[J ((a.getD b AA.z).low),J ((a.getD b AA.z).high)]
abbrev Ql(a:Int)(b:Int):=decide ((¬(0<=a/\a<=9))\/(¬(0<=b/\b<=3)))
abbrev Qm(a:List AA)(b:List AK)(c:List AF)(d:Nat):Value:=.agg (Ag ((AD a b c).getD d AG.zero))
abbrev Qn(a:Int)(b:Int):Value:=.bool (decide (a<=b))
abbrev Qo(a:Int)(b:Int)(c:Int)(d:Int):=decide ((((0<=a)/\(a<=b))/\(b<=c))/\((b-a)<d))
abbrev Qp(a:List ByteArray)(b:List AA)(c:Nat):=J (CB a.length [(b.getD c AA.z).a,(b.getD c AA.z).b])
abbrev Qq(a:List AG):=a.getD 0 AG.zero
abbrev Qr(a:List AK)(b:List Int):=Ai a.length b
abbrev Qs(a:List Int)(b:Nat):=J (a.getD b 0)
abbrev Qt(a:List ByteArray)(b:Int)(c:Int):=CB a.length [b,c]
abbrev Qu(a:List AF)(b:Nat):=(a.getD b AF.z).low
abbrev Qv(a:List AK)(b:Int):=Gc a.length b
abbrev Qw(a:List AF)(b:Nat)(c:Nat):=((a.getD b AF.z).ways).getD c 0
abbrev Qx(a:Int)(b:Int):=decide (((0<=a/\a<=b)/\b<=30)/\((b-a)<2))
abbrev Qy(a:Int)(b:List AA):Value:=.bool (decide (¬(0<=a/\a<=((b.length:Int)-1))))
abbrev Qz(a:List Sl)(b:Nat):=(a.getD b Sl.z).2
abbrev Q10(a:List AK)(b:Nat):=(a.getD b AK.z).due
abbrev Q11(a:List AF)(b:Nat):=(a.getD b AF.z).wv
abbrev Q12(a:Int)(b:Int)(c:List ByteArray)(d:List AA)(e:List AK)(f:List AF):=decide (((¬(EQ a b c d e f)=(EQ a b c d e f))\/(¬(DL a b c d e f)=(DL a b c d e f)))\/(¬(AY a b c d e f 0)=(AY a b c d e f (0))))
abbrev Q13(a:Int)(b:Int)(c:Int):=decide ((a<=b)/\(b<=c))
abbrev Q14(a:List AA)(b:Nat):=CO (a.getD b AA.z)
abbrev Q15(a:List AF)(b:Nat):=Bh (a.getD b AF.z)
abbrev Q16(a:Int)(b:Int)(c:Int)(d:Int):=decide (((a<=b)/\(b<=c))/\(c<=d))
abbrev U4(a:Int)(b:Int)(c:Value)(d:Value)(e:Value)(f:Value):Array Value:=#[.agg #[J a,J b,c,d,e,f]]
abbrev Q18(a:Nat)(b:Nat)(c:Array Int):=decide (((a:Int)<(b:Int))/\((c[b]!)<(c[((b:Int)-1).toNat]!)))
abbrev Q19:Value:=.func (.func 101) #[] #[]
abbrev Q1a(a:ByteArray):=decide (((a.size:Int)<1)\/(10<(a.size:Int)))
abbrev Q1b(a:List AA)(b:List AA):=decide (¬(a.length:Int)=(b.length:Int))
abbrev Q1c(a:List AK)(b:List AK):=decide (¬(a.length:Int)=(b.length:Int))
abbrev Q1d(a:List Int)(b:Nat):=(a.getD b 0).toNat
abbrev Q1e(a:Int):=decide ((97<=a)/\(a<=122))
abbrev Q1f(a:List AA)(b:Nat):=(a.getD b AA.z).high
abbrev Q1g(a:Nat)(b:List Int)(c:List Int):=decide (((a:Int)<(b.length:Int))/\((a:Int)<(c.length:Int)))
abbrev Q1h(a:List AF)(b:List AF):=decide (¬(a.length:Int)=(b.length:Int))
abbrev Q1i(a:Int):=decide (¬(0<=a/\a<=3))
abbrev Q1j(a:Nat):Value:=.func (.func 139) #[] #[Pt a]
abbrev Q1k(a:List Int)(b:Nat)(c:List Int):=J (Pp (a.getD b 0) (c.getD b 0))
abbrev Q1l(a:List Sl)(b:Nat):=((a.drop (1)).getD b Sl.z).1
abbrev Q1m(a:Int):=decide ((48<=a)/\(a<=57))
abbrev Q1n(a:Nat):Value:=.func (.func 77) #[] #[Pt a]
abbrev Q1o(a:List AA)(b:Nat):=(a.getD b AA.z).low
abbrev Q1p:=Ag AG.zero
abbrev Q1q(a:Nat)(b:Nat):Value:=.func (.func 68) #[] #[Pt a,Pt b]
abbrev Q1r(a:List AK)(b:List Int)(c:Nat):=J (Gc a.length (b.getD c 0))
end Go.Ns
namespace Go.Ns
open Go.Conc Go.Proofs Go.Proofs.Tryz
theorem ER:Ii prog 133 133=some (28,1,24):=aB
theorem WF:Ii prog 22 22=some (9,1,16):=aB
theorem Ob:Ii prog 23 23=some (78,4,32):=aB
theorem He:Ii prog 24 24=some (60,5,56):=aB
theorem FK:Ii prog 25 25=some (70,3,40):=aB
theorem Ck:Ii prog 28 28=some (3,1,8):=aB
theorem Ks:Ii prog 46 46=some (36,2,16):=aB
theorem WG:Ii prog 87 87=some (106,9,72):=aB
theorem WH:Ii prog 91 91=some (116,2,48):=aB
theorem fx_arr94:arrOf prog 94=some (5,false,1):=aB
theorem IC:N7 prog 103=some (5,1):=aB
theorem EB:N7 prog 104=some (4,1):=aB
theorem E3:N7 prog 141=some (4,1):=aB
theorem Fe:N7 prog 183=some (4,4):=aB
theorem fx_bt3:Mi prog 3=some 8:=aB
theorem fx_bt4:Mi prog 4=some 1:=aB
theorem fx_call10:AO Tryz.f10=true:=aB
theorem fx_call100:AO Tryz.f100=true:=aB
theorem FL:AO Tryz.f101=true:=aB
theorem RG:AO Tryz.f102=true:=aB
theorem RH:AO Tryz.f103=true:=aB
theorem RI:AO Tryz.f104=true:=aB
theorem fx_call105:AO Tryz.f105=true:=aB
theorem Xl:AO Tryz.f106=true:=aB
theorem Ia:AO Tryz.f107=true:=aB
theorem RJ:AO Tryz.f108=true:=aB
theorem L7:AO Tryz.f109=true:=aB
theorem L8:AO Tryz.f110=true:=aB
theorem RK:AO Tryz.f111=true:=aB
theorem Xm:AO Tryz.f112=true:=aB
theorem Xn:AO Tryz.f113=true:=aB
theorem Xo:AO Tryz.f114=true:=aB
theorem L9:AO Tryz.f115=true:=aB
theorem J8:AO Tryz.f116=true:=aB
theorem HC:AO Tryz.f118=true:=aB
theorem MA:AO Tryz.f119=true:=aB
theorem C2:AO Tryz.f12=true:=aB
theorem Xp:AO Tryz.f120=true:=aB
theorem Xq:AO Tryz.f121=true:=aB
theorem Xr:AO Tryz.f122=true:=aB
theorem Xs:AO Tryz.f123=true:=aB
theorem Xu:AO Tryz.f124=true:=aB
theorem Xv:AO Tryz.f125=true:=aB
theorem J9:AO Tryz.f126=true:=aB
theorem RL:AO Tryz.f127=true:=aB
theorem MB:AO Tryz.f128=true:=aB
theorem Xw:AO Tryz.f129=true:=aB
theorem HD:AO Tryz.f13=true:=aB
theorem RM:AO Tryz.f130=true:=aB
theorem Xx:AO Tryz.f131=true:=aB
theorem Xy:AO Tryz.f132=true:=aB
theorem Xz:AO Tryz.f133=true:=aB
theorem RN:AO Tryz.f134=true:=aB
theorem X3:AO Tryz.f135=true:=aB
theorem KA:AO Tryz.f136=true:=aB
theorem RO:AO Tryz.f137=true:=aB
theorem RP:AO Tryz.f138=true:=aB
theorem RQ:AO Tryz.f139=true:=aB
theorem TL:AO Tryz.f14=true:=aB
theorem X4:AO Tryz.f140=true:=aB
theorem RR:AO Tryz.f141=true:=aB
theorem RS:AO Tryz.f142=true:=aB
theorem X5:AO Tryz.f143=true:=aB
theorem X6:AO Tryz.f144=true:=aB
theorem X7:AO Tryz.f145=true:=aB
theorem X8:AO Tryz.f146=true:=aB
theorem X9:AO Tryz.f147=true:=aB
theorem fx_call148:AO Tryz.f148=true:=aB
theorem RT:AO Tryz.f149=true:=aB
theorem RU:AO Tryz.f150=true:=aB
theorem YA:AO Tryz.f151=true:=aB
theorem YB:AO Tryz.f152=true:=aB
theorem YC:AO Tryz.f153=true:=aB
theorem KB:AO Tryz.f154=true:=aB
theorem RV:AO Tryz.f155=true:=aB
theorem YD:AO Tryz.f156=true:=aB
theorem YE:AO Tryz.f157=true:=aB
theorem RW:AO Tryz.f158=true:=aB
theorem fx_call16:AO Tryz.f16=true:=aB
theorem YF:AO Tryz.f164=true:=aB
theorem YG:AO Tryz.f168=true:=aB
theorem YH:AO Tryz.f169=true:=aB
theorem MC:AO Tryz.f170=true:=aB
theorem LL:AO Tryz.f18=true:=aB
theorem fx_call19:AO Tryz.f19=true:=aB
theorem YI:AO Tryz.f193=true:=aB
theorem YJ:AO Tryz.f194=true:=aB
theorem YK:AO Tryz.f195=true:=aB
theorem YL:AO Tryz.f196=true:=aB
theorem YM:AO Tryz.f197=true:=aB
theorem YN:AO Tryz.f198=true:=aB
theorem YO:AO Tryz.f199=true:=aB
theorem YP:AO Tryz.f200=true:=aB
theorem YQ:AO Tryz.f201=true:=aB
theorem YR:AO Tryz.f202=true:=aB
theorem RX:AO Tryz.f203=true:=aB
theorem YS:AO Tryz.f204=true:=aB
theorem YT:AO Tryz.f205=true:=aB
theorem YU:AO Tryz.f206=true:=aB
theorem YV:AO Tryz.f207=true:=aB
theorem YW:AO Tryz.f208=true:=aB
theorem YX:AO Tryz.f209=true:=aB
theorem fx_call21:AO Tryz.f21=true:=aB
theorem YY:AO Tryz.f210=true:=aB
theorem fx_call23:AO Tryz.f23=true:=aB
theorem fx_call25:AO Tryz.f25=true:=aB
theorem fx_call26:AO Tryz.f26=true:=aB
theorem fx_call28:AO Tryz.f28=true:=aB
theorem fx_call30:AO Tryz.f30=true:=aB
theorem fx_call32:AO Tryz.f32=true:=aB
theorem fx_call34:AO Tryz.f34=true:=aB
theorem fx_call36:AO Tryz.f36=true:=aB
theorem fx_call39:AO Tryz.f39=true:=aB
theorem Nq:AO Tryz.f40=true:=aB
theorem fx_call41:AO Tryz.f41=true:=aB
theorem GG:AO Tryz.f43=true:=aB
theorem TM:AO Tryz.f44=true:=aB
theorem fx_call45:AO Tryz.f45=true:=aB
theorem fx_call47:AO Tryz.f47=true:=aB
theorem fx_call48:AO Tryz.f48=true:=aB
theorem fx_call49:AO Tryz.f49=true:=aB
theorem TN:AO Tryz.f50=true:=aB
theorem fx_call51:AO Tryz.f51=true:=aB
theorem TO:AO Tryz.f52=true:=aB
theorem fx_call53:AO Tryz.f53=true:=aB
theorem fx_call54:AO Tryz.f54=true:=aB
theorem fx_call55:AO Tryz.f55=true:=aB
theorem fx_call56:AO Tryz.f56=true:=aB
theorem fx_call57:AO Tryz.f57=true:=aB
theorem Ff:AO Tryz.f58=true:=aB
theorem JS:AO Tryz.f59=true:=aB
theorem GI:AO Tryz.f60=true:=aB
theorem JT:AO Tryz.f61=true:=aB
theorem JU:AO Tryz.f62=true:=aB
theorem fx_call63:AO Tryz.f63=true:=aB
theorem fx_call64:AO Tryz.f64=true:=aB
theorem fx_call65:AO Tryz.f65=true:=aB
theorem fx_call66:AO Tryz.f66=true:=aB
theorem DR:AO Tryz.f67=true:=aB
theorem TP:AO Tryz.f68=true:=aB
theorem Nr:AO Tryz.f69=true:=aB
theorem Nt:AO Tryz.f70=true:=aB
theorem fx_call71:AO Tryz.f71=true:=aB
theorem fx_call72:AO Tryz.f72=true:=aB
theorem Nu:AO Tryz.f74=true:=aB
theorem fx_call75:AO Tryz.f75=true:=aB
theorem fx_call76:AO Tryz.f76=true:=aB
theorem TQ:AO Tryz.f77=true:=aB
theorem TR:AO Tryz.f78=true:=aB
theorem TS:AO Tryz.f79=true:=aB
theorem fx_call8:AO Tryz.f8=true:=aB
theorem fx_call80:AO Tryz.f80=true:=aB
theorem fx_call81:AO Tryz.f81=true:=aB
theorem fx_call82:AO Tryz.f82=true:=aB
theorem TT:AO Tryz.f83=true:=aB
theorem TU:AO Tryz.f84=true:=aB
theorem fx_call86:AO Tryz.f86=true:=aB
theorem TV:AO Tryz.f87=true:=aB
theorem fx_call88:AO Tryz.f88=true:=aB
theorem GJ:AO Tryz.f89=true:=aB
theorem WI:AO Tryz.f9=true:=aB
theorem Nv:AO Tryz.f90=true:=aB
theorem fx_call91:AO Tryz.f91=true:=aB
theorem fx_call92:AO Tryz.f92=true:=aB
theorem TW:AO Tryz.f93=true:=aB
theorem Nw:AO Tryz.f94=true:=aB
theorem DY:AO Tryz.f95=true:=aB
theorem fx_call96:AO Tryz.f96=true:=aB
theorem LM:AO Tryz.f97=true:=aB
theorem fx_call98:AO Tryz.f98=true:=aB
theorem TX:AO Tryz.f99=true:=aB
theorem TY:prog.eqGuardType prog.depth 103=false:=aB
theorem Hf:prog.eqGuardType prog.depth 36=false:=aB
theorem fx_eqg78:prog.eqGuardType prog.depth 78=false:=aB
theorem C3:E9 prog 133=some 1:=aB
theorem Nx:E9 prog 175=some 1:=aB
theorem F0:E9 prog 22=some 1:=aB
theorem fx_esz227:E9 prog 227=some 1:=aB
theorem DM:E9 prog 23=some 4:=aB
theorem Ej:E9 prog 24=some 5:=aB
theorem EH:E9 prog 25=some 3:=aB
theorem A6:E9 prog 28=some 1:=aB
theorem M5:E9 prog 46=some 2:=aB
theorem Gi:E9 prog 87=some 9:=aB
theorem WJ:E9 prog 91=some 2:=aB
theorem M6:∀a:FZ,ckP prog 4 108 (FF a)=true:=by intros;kernel_rfl
theorem M7:∀a b:FZ,PT prog 4 108 (FF a) (FF b)=some ((a.1.1==b.1.1 && (a.1.2.1==b.1.2.1 && (a.1.2.2.1==b.1.2.2.1 && (a.1.2.2.2.1==b.1.2.2.2.1 && (a.1.2.2.2.2==b.1.2.2.2.2 && true))))) && (a.2.1==b.2.1 && (a.2.2==b.2.2 && true))):=by intros;kernel_rfl
theorem Cz:D1 prog 106 0=some 0:=aB
theorem Kt:D1 prog 106 1=some 5:=aB
theorem Oc:D1 prog 116 0=some 0:=aB
theorem fx_fld116_1:D1 prog 116 1=some 1:=aB
theorem WK:D1 prog 174 0=some 0:=aB
theorem WL:D1 prog 174 1=some 1:=aB
theorem Ib:D1 prog 27 0=some 0:=aB
theorem F6:D1 prog 27 1=some 1:=aB
theorem CE:D1 prog 27 2=some 2:=aB
theorem Ar:D1 prog 27 3=some 3:=aB
theorem BE:D1 prog 27 4=some 4:=aB
theorem A5:D1 prog 27 5=some 5:=aB
theorem CF:D1 prog 36 0=some 0:=aB
theorem CG:D1 prog 36 1=some 1:=aB
theorem HE:D1 prog 60 0=some 0:=aB
theorem HF:D1 prog 60 1=some 1:=aB
theorem HG:D1 prog 60 2=some 3:=aB
theorem Do:D1 prog 60 3=some 4:=aB
theorem DN:D1 prog 70 0=some 0:=aB
theorem FM:D1 prog 70 1=some 1:=aB
theorem Cd:D1 prog 78 0=some 0:=aB
theorem Cl:D1 prog 78 1=some 1:=aB
theorem ES:D1 prog 78 2=some 2:=aB
theorem A1:D1 prog 89 0=some 0:=aB
theorem ET:D1 prog 98 0=some 0:=aB
theorem Ic:D1 prog 98 1=some 6:=aB
theorem KC:D1 prog 98 2=some 7:=aB
theorem YZ:(prog.info? 174).isSome=true:=aB
theorem fx_infs3:(prog.info? 3).isSome=true:=aB
theorem fx_infs4:(prog.info? 4).isSome=true:=aB
theorem Ya:(prog.info? 174).map (·.zero)=some (some (.agg #[.int .i64 0,.bool false])):=aB
theorem fx_infz3:(prog.info? 3).map (·.zero)=some (some (.int .i64 0)):=aB
theorem fx_infz4:(prog.info? 4).map (·.zero)=some (some (.bool false)):=aB
theorem RY:PN prog 167=some .u64:=aB
theorem Hg:PN prog 3=some .i64:=aB
theorem Hh:PN prog 5=some .u8:=aB
theorem Ny:MQ prog 156=some (3,3):=aB
theorem M8:MQ prog 96=some (108,3):=aB
theorem Nz:∀a:Int,ckP prog 3 3 (D9 a)=true:=by intros;kernel_rfl
theorem N0:∀a b:Int,PT prog 3 3 (D9 a) (D9 b)=some (a==b):=by intros;kernel_rfl
theorem Av:prog.follows .mixedOrders=true:=aB
theorem WM:(prog.info? 3).bind (·.zero)=some (.int .i64 0):=aB
theorem Ul:(prog.info? 3).bind (·.zero)=some (.int .i64 0):=aB
theorem M9:Eu prog 108=some [(0,5),(5,1),(6,1)]:=aB
theorem fx_pl116:Eu prog 116=some [(0,1),(1,1)]:=aB
theorem fx_pl174:Eu prog 174=some [(0,1),(1,1)]:=aB
theorem D8:Eu prog 27=some [(0,1),(1,1),(2,1),(3,1),(4,1),(5,1)]:=aB
theorem HP:Eu prog 36=some [(0,1),(1,1)]:=aB
theorem Um:Eu prog 60=some [(0,1),(1,2),(3,1),(4,1)]:=aB
theorem Un:Eu prog 70=some [(0,1),(1,2)]:=aB
theorem Uo:Eu prog 78=some [(0,1),(1,1),(2,2)]:=aB
theorem Iq:Eu prog 89=some [(0,6)]:=aB
theorem Ir:Eu prog 98=some [(0,6),(6,1),(7,1)]:=aB
theorem WN:s2bOf prog 9 227=some 5:=aB
theorem Fg:DZ prog 133=some (1,#[.slice none 0 0],28):=aB
theorem fx_sel175:DZ prog 175=some (1,#[.bool false],4):=aB
theorem WO:DZ prog 22=some (1,#[.string ⟨#[]⟩],9):=aB
theorem RZ:DZ prog 23=some (4,#[.int .i64 0,.int .i64 0,.int .i64 0,.int .i64 0],78):=aB
theorem JV:DZ prog 24=some (5,#[.int .i64 0,.int .i64 0,.int .i64 0,.int .i64 0,.slice none 0 0],60):=aB
theorem Hi:DZ prog 25=some (3,#[.slice none 0 0,.int .i64 0,.int .i64 0],70):=aB
theorem BU:DZ prog 28=some (1,#[.int .i64 0],3):=aB
theorem NA:DZ prog 46=some (2,#[.int .i64 0,.int .i64 0],36):=aB
theorem fx_sel87:DZ prog 87=some (9,#[.int .i64 0,.int .i64 0,.int .i64 0,.int .i64 0,.int .i64 0,.int .i64 0,.int .i64 0,.int .i64 0,.int .i64 0],106):=aB
theorem fx_sel91:DZ prog 91=some (2,#[.slice none 0 0,.slice none 0 0],116):=aB
theorem EI:KO prog 133=true:=aB
theorem fx_sl175:KO prog 175=true:=aB
theorem DT:KO prog 22=true:=aB
theorem fx_sl227:KO prog 227=true:=aB
theorem C7:KO prog 23=true:=aB
theorem Ea:KO prog 24=true:=aB
theorem EJ:KO prog 25=true:=aB
theorem A8:KO prog 28=true:=aB
theorem PA:KO prog 46=true:=aB
theorem Gj:KO prog 87=true:=aB
theorem Is:KO prog 91=true:=aB
theorem Er:PL prog 9=true:=aB
theorem Hj:Co prog 103=some (true,5):=aB
theorem Cm:Co prog 106=some (true,9):=aB
theorem fx_ty116:Co prog 116=some (true,2):=aB
theorem NB:Co prog 123=some (false,1):=aB
theorem Gk:Co prog 133=some (false,1):=aB
theorem NC:Co prog 170=some (false,1):=aB
theorem ND:Co prog 171=some (false,1):=aB
theorem Ra:Co prog 172=some (false,1):=aB
theorem fx_ty174:Co prog 174=some (true,2):=aB
theorem fx_ty179:Co prog 179=some (false,1):=aB
theorem Ku:Co prog 180=some (false,1):=aB
theorem Dc:Co prog 22=some (false,1):=aB
theorem BZ:Co prog 23=some (false,1):=aB
theorem CK:Co prog 24=some (false,1):=aB
theorem By:Co prog 25=some (false,1):=aB
theorem AN:Co prog 27=some (true,6):=aB
theorem BC:Co prog 28=some (false,1):=aB
theorem AS:Co prog 3=some (false,1):=aB
theorem Ak:Co prog 36=some (true,2):=aB
theorem HH:Co prog 4=some (false,1):=aB
theorem fx_ty5:Co prog 5=some (false,1):=aB
theorem Eb:Co prog 60=some (true,5):=aB
theorem Dk:Co prog 70=some (true,3):=aB
theorem Fh:Co prog 78=some (true,4):=aB
theorem It:Co prog 87=some (false,1):=aB
theorem Cj:Co prog 89=some (true,6):=aB
theorem Kv:Co prog 9=some (false,1):=aB
theorem fx_ty94:Co prog 94=some (true,5):=aB
theorem PB:Co prog 96=some (false,1):=aB
theorem A3:Co prog 98=some (true,8):=aB
theorem GK:(prog.underlying 196).isSome=true:=aB
theorem Zj:(prog.underlying 3).isSome=true:=aB
theorem Iu:(prog.underlying 5).isSome=true:=aB
theorem fx_und61:(prog.underlying 61).isSome=true:=aB
theorem Kw:prog.underlying 170=some (.chan .both 174):=aB
theorem Kx:prog.underlying 171=some (.chan .both 3):=aB
theorem Ky:prog.underlying 172=some (.chan .both 4):=aB
theorem F7:B5 prog 106=some #[.int .i64 0,.int .i64 0,.int .i64 0,.int .i64 0,.int .i64 0,.int .i64 0,.int .i64 0,.int .i64 0,.int .i64 0]:=aB
theorem KD:B5 prog 108=some #[.int .i64 0,.int .i64 0,.int .i64 0,.int .i64 0,.int .i64 0,.int .i64 0,.int .i64 0]:=aB
theorem Yb:B5 prog 116=some #[.slice none 0 0,.slice none 0 0]:=aB
theorem Yc:B5 prog 123=some #[.nilFunc]:=aB
theorem Rb:B5 prog 133=some #[.slice none 0 0]:=aB
theorem Rc:B5 prog 141=some #[.bool false,.bool false,.bool false,.bool false]:=aB
theorem Ye:B5 prog 170=some #[.chan none]:=aB
theorem Yf:B5 prog 171=some #[.chan none]:=aB
theorem Yg:B5 prog 172=some #[.chan none]:=aB
theorem Re:B5 prog 174=some #[.int .i64 0,.bool false]:=aB
theorem Yh:B5 prog 180=some #[.nilFunc]:=aB
theorem Yi:B5 prog 183=some #[.int .i64 0,.int .i64 0,.int .i64 0,.int .i64 0,.int .i64 0,.int .i64 0,.int .i64 0,.int .i64 0,.int .i64 0,.int .i64 0,.int .i64 0,.int .i64 0,.int .i64 0,.int .i64 0,.int .i64 0,.int .i64 0]:=aB
theorem At:B5 prog 27=some #[.int .i64 0,.int .i64 0,.slice none 0 0,.slice none 0 0,.slice none 0 0,.slice none 0 0]:=aB
theorem fx_zero28:B5 prog 28=some #[.slice none 0 0]:=aB
theorem fx_zero3:B5 prog 3=some #[.int .i64 0]:=aB
theorem BW:B5 prog 36=some #[.int .i64 0,.int .i64 0]:=aB
theorem fx_zero4:B5 prog 4=some #[.bool false]:=aB
theorem HI:B5 prog 60=some #[.int .i64 0,.int .i64 0,.int .i64 0,.int .i64 0,.slice none 0 0]:=aB
theorem GL:B5 prog 70=some #[.slice none 0 0,.int .i64 0,.int .i64 0]:=aB
theorem GM:B5 prog 78=some #[.int .i64 0,.int .i64 0,.int .i64 0,.int .i64 0]:=aB
theorem fx_zero87:B5 prog 87=some #[.slice none 0 0]:=aB
theorem EC:B5 prog 89=some #[.int .i64 0,.int .i64 0,.slice none 0 0,.slice none 0 0,.slice none 0 0,.slice none 0 0]:=aB
theorem fx_zero9:B5 prog 9=some #[.string ⟨#[]⟩]:=aB
theorem BL:B5 prog 98=some #[.int .i64 0,.int .i64 0,.slice none 0 0,.slice none 0 0,.slice none 0 0,.slice none 0 0,.slice none 0 0,.map none]:=aB
end Go.Ns
namespace Go.Ns
open Go.Conc Go.Proofs Go.Proofs.Tryz
attribute [local irreducible] BX DE Tr AU Bm BI
variable {W:Wk prog} {h:GH} {bag kinds:Int} {ps:List ByteArray} {psv:Value} {ws:List AA} {wsv:Value} {js:List AK} {jsv:Value} {ns:List AF} {nsv:Value}
theorem HQ(a:List Int)(av:Value)(b:List Int)(bv:Value)(ha:AI h av 1 eI a)(hb:AI h bv 1 eI b):AU W 18 #[av,bv] h (λv h'=>v=(.bool (decide (a=b)):Value)/\h.Le h'):=by
 have ad:=ha.len;have ae:=hb.len;refine Ct func18 Z (Sr (Az (.bool false) Z (Nl (S2 (Mz av Z (Pl Z (AL A8 ha Z (Mz bv Z (Pl Z (AL A8 hb Z (Pl Z (Am Z Z (Nl (AT Z (λar=>?_) (λar=>?_)))))))))))))))
 ·exact Sr (Az (.bool false) Z (Nl (Rt (⟨Zr,Ot (.bool false) Z (⟨(by (rw [decide_eq_false (ne_len aA)];done)),Lr⟩)⟩))))
 ·refine Sk (S2 (Az (J 0) Z (Nl (Bk (Ab (λnn σ' ds' h'=>∃(k:Nat),nn=a.length-k/\(k<=a.length)/\(a.take k=b.take k)/\ds'=[]/\GH.Le h h'/\σ' 0=av/\σ' 1=bv/\σ' 5=J k) ⟨0,Z,aA,(by rfl),Z,Lr,Z,Z,Z⟩ (λnn _ _ _ au=>?_))))));obtain ⟨k,rfl,hk,hs,x8,x9,af,aq,ac⟩:=au;subst x8;refine S2 (Mv (J k) Z ac (Mv av Z af (Pl Z (AL A8 (ha.le x9) Z (Pl Z (Ah Z Z (Nl (AT Z (λag=>?_) (λag=>?_)))))))))
  ·refine Sk (Sq (Bk (Sq (CX 8 false [1,6,10,16,21,26,30,36] Av aB (Rz Z (Mo av af vz) (Rz Z (Mo (J k) ac vz) ?_))))));have ah:(0:Int)<=(k:Int):=aA
   have ai:(k:Int)<((a.length:Nat):Int):=aA
   refine tI Z Z A6 ha Z Z ah ai λaw aa aj=>have ak:AZ _ aw aa 1 (eI (a.getD k 0)):=AZ.getD 0 aj;Rl (Qs a k) Z (Aw AS (ak.le x9) Z) (Rz Z (Mo bv aq vz) (Rz Z (Mo (J k) ac vz) ?_));have al:(0:Int)<=(k:Int):=aA
   have am:(k:Int)<((b.length:Nat):Int):=aA
   refine tI Z Z A6 hb Z Z al am λax ab an=>have ao:AZ _ ax ab 1 (eI (b.getD k 0)):=AZ.getD 0 an;Rl (Qs b k) Z (Aw AS (ao.le x9) Z) (tN (Pl Z (Am Z Z (Nl (AT Z (λap=>?_) (λap=>?_))))))
   ·exact Sr (Az (.bool false) Z (Nl (Rt (⟨Zr,Ot (.bool false) Z (⟨(by (rw [decide_eq_false (ne_getD (k:=k) (d:=0) ‹_›)])),x9⟩)⟩))))
   ·exact Sk (Rg (Mv (J k) Z ac (Yd Z aA (Az (J ((k:Int)+1)) Z (Nl (⟨_,aA,k+1,Z,aA,(by exact Pf 0 hs aA aA aE),Z,x9,af,aq,Z⟩))))))
  ·exact Xt (Sr (Az (.bool true) Z (Nl (Rt (⟨Zr,Ot (.bool true) Z (⟨(by (rw [decide_eq_true (T4 hs hk ‹_› aA)];done)),x9⟩)⟩)))))
theorem Rf(a:List Int)(av:Value)(n:Int)(ha:AI h av 1 eI a):AU W 109 #[av,J n] h (λv h'=>v=(.bool (decide (n ∈ a)):Value)/\h.Le h'):=by
 have ab:=ha.len;refine Ct func109 Z (Sr (Az (.bool false) Z (Nl (S2 (Az (J 0) Z (Nl (Bk (Ab (λnn σ' ds' h'=>∃(k:Nat),nn=a.length-k/\(k<=a.length)/\(¬n ∈ a.take k)/\ds'=[]/\GH.Le h h'/\σ' 0=av/\σ' 1=J n/\σ' 5=J k) ⟨0,Z,aA,aD,Z,Lr,Z,Z,Z⟩ (λnn _ _ _ aj=>?_)))))))));obtain ⟨k,rfl,hk,hs,x6,x7,x8,x9,ac⟩:=aj;subst x6;refine S2 (Mv (J k) Z ac (Mv av Z x8 (Pl Z (AL A8 (ha.le x7) Z (Pl Z (Ah Z Z (Nl (AT Z (λad=>?_) (λad=>?_)))))))))
 ·refine Sk (Sq (Bk (Sr (Mv av Z x8 (Mv (J k) Z ac ?_)))));have ae:(0:Int)<=(k:Int):=aA
  have af:(k:Int)<((a.length:Nat):Int):=aA
  refine Pl Z (Aa A6 ha Z Z ae af λak aa ag=>have ah:AZ _ ak aa 1 (eI (a.getD k 0)):=AZ.getD 0 ag;Lz (Qs a k) Z (Aw AS (ah.le x7) Z) (Mv (J n) Z x9 (Pl Z (CW Z Z (Nl (AT Z (λai=>?_) (λai=>?_)))))))
  ·exact Sr (Az (.bool true) Z (Nl (Rt (⟨Zr,Ot (.bool true) Z (⟨(by (rw [decide_eq_true (has_hit (k:=k) ‹_› ‹_›)];done)),x7⟩)⟩))))
  ·exact Sk (Rg (Mv (J k) Z ac (Yd Z aA (Az (J ((k:Int)+1)) Z (Nl (⟨_,aA,k+1,Z,aA,(by exact has_next ‹_› hs ‹_›),Z,x7,x8,x9,Z⟩))))))
 ·exact Xt (Sr (Az (.bool false) Z (Nl (Rt (⟨Zr,Ot (.bool false) Z (⟨(by (rw [decide_eq_false (has_end (k:=k) ‹_› hs)])),x7⟩)⟩)))))
theorem Iv(n:Int)(lo:Int)(hi:Int):AU W 43 #[J n,J lo,J hi] h (λv h'=>v=(.bool (decide (lo<=n/\n<=hi)):Value)/\h=h'):=by
 refine Ct func43 Z (Sr (Az (.bool false) Z (Nl (BS (λσ' ds' h'=>ds'=[]/\h=h'/\σ' 6=.bool (Q13 lo n hi)) ?_ ?_))))
 ·refine Rg (Mz (J n) Z (Mz (J lo) Z (Pl Z (Dt Z Z (Mz (Qn lo n) Z (Aq (p:=lo<=n) ?_ ?_))))))
  ·intro aa;exact Gg 3 10 (AJ Z aa) Z (Mo (J n) Z (Gg 3 10 (AJ Z aa) Z (Mo (J hi) Z (Gg 3 10 (AJ Z aa) Z (E5 Z Z (Pk true (Qn n hi) Z (AJ Z aa) Z (Az (Qn n hi) Z (Nl (⟨Z,Z,Et (b:=(.bool (decide (n<=hi)):Value)) Z (congrArg Value.bool (by (simp [aa];done):decide (n<=hi)=(Q13 lo n hi)))⟩)))))))))
  ·intro aa;exact Gs 3 10 (AE Z aa) Z (Gs 3 10 (AE Z aa) Z (Gs 3 10 (AE Z aa) Z (Pk false (.bool false) Z (AE Z aa) Z (Az (.bool false) Z (Nl (⟨Z,Z,Et (b:=(.bool false:Value)) Z (congrArg Value.bool (by (simp [aa];done):false=(Q13 lo n hi)))⟩))))))
 ·rintro _ _ _ ⟨ac,ab,ad⟩;subst ac;subst ab;exact Rt (⟨Zr,IE Z (v:=.bool (Q13 lo n hi)) ad (⟨(by rfl),Z⟩)⟩)
theorem Kz(xl:Int)(xh:Int)(lo:Int)(hi:Int):AU W 128 #[.agg #[J xl,J xh],J lo,J hi] h (λv h'=>v=(.bool (decide ((lo<=xl/\xl<=xh)/\xh<=hi)):Value)/\h.Le h'):=by
 refine Ct func128 Z (Sr (Pl Z (Bo #[J xl,J xh] Z Z λ_ h2 _ ae ad _=>Az (.bool false) Z (Nl (BS (λσ' ds' h'=>ds'=[]/\h2=h'/\σ' 6=.bool (Q16 lo xl xh hi)) ?_ ?_)))))
 ·refine Rg (Fz CF Z (Lz (J xl) Z (Rd.one AS ad Z) (Mz (J lo) Z (Pl Z (Dt Z Z (Mz (Qn lo xl) Z (Aq (p:=lo<=xl) ?_ ?_)))))))
  ·intro aa;refine Gg 4 11 (AJ Z aa) Z (AC CG Z (Gg 4 11 (AJ Z aa) Z (Lo (J xh) Z (Rd.one AS ad Z) (Gg 4 11 (AJ Z aa) Z (AC CF Z (Gg 4 11 (AJ Z aa) Z (Lo (J xl) Z (Rd.one AS ad Z) (Gg 4 11 (AJ Z aa) Z (Dt Z Z (Pk true (Qn xl xh) Z (AJ Z aa) Z (Mz (Qn xl xh) Z (Aq (p:=xl<=xh) ?_ ?_))))))))))))
   ·intro ab;exact Gg 11 18 (AJ Z ab) Z (AC CG Z (Gg 11 18 (AJ Z ab) Z (Lo (J xh) Z (Rd.one AS ad Z) (Gg 11 18 (AJ Z ab) Z (Mo (J hi) Z (Gg 11 18 (AJ Z ab) Z (E5 Z Z (Pk true (Qn xh hi) Z (AJ Z ab) Z (Az (Qn xh hi) Z (Nl (⟨Z,Z,Et (b:=(.bool (decide (xh<=hi)):Value)) Z (congrArg Value.bool (by (simp [aa,ab];done):decide (xh<=hi)=(Q16 lo xl xh hi)))⟩)))))))))))
   ·intro ab;exact Gs 11 18 (AE Z ab) Z (Gs 11 18 (AE Z ab) Z (Gs 11 18 (AE Z ab) Z (Gs 11 18 (AE Z ab) Z (Pk false (.bool false) Z (AE Z ab) Z (Az (.bool false) Z (Nl (⟨Z,Z,Et (b:=(.bool false:Value)) Z (congrArg Value.bool (by (simp [aa,ab];done):false=(Q16 lo xl xh hi)))⟩)))))))
  ·intro aa;exact Gs 4 11 (AE Z aa) Z (Gs 4 11 (AE Z aa) Z (Gs 4 11 (AE Z aa) Z (Gs 4 11 (AE Z aa) Z (Gs 4 11 (AE Z aa) Z (Pk false (.bool false) Z (AE Z aa) Z (Mz (.bool false) Z (Gs 11 18 Z Z (Gs 11 18 Z Z (Gs 11 18 Z Z (Gs 11 18 Z Z (Pz false (.bool false) Z (Az (.bool false) Z (Nl (⟨Z,Z,Et (b:=(.bool false:Value)) Z (congrArg Value.bool (by (simp [aa];done):false=(Q16 lo xl xh hi)))⟩))))))))))))))
 ·rintro _ _ _ ⟨af,ac,ag⟩;subst af;subst ac;exact Rt (⟨Zr,IE Z (v:=.bool (Q16 lo xl xh hi)) ag (⟨(by rfl),ae⟩)⟩)
theorem WP(c:Int):AU W 156 #[.int .u8 c] h (λv h'=>v=(.bool (decide (FD c)):Value)/\h=h'):=by
 refine Ct func156 Z (Sr (Az (.bool false) Z (Nl (BS (λσ' ds' h'=>ds'=[]/\h=h'/\σ' 2=.bool (Q1e c)) ?_ ?_))))
 ·refine Rg (Mz (.int .u8 c) Z (Pl Z (Dt Z Z (Mz (.bool (decide (97<=c))) Z (Aq (p:=97<=c) ?_ ?_)))))
  ·intro aa;exact Gg 2 5 (AJ Z aa) Z (Mo (.int .u8 c) Z (Gg 2 5 (AJ Z aa) Z (E5 Z Z (Pk true (.bool (decide (c<=122))) Z (AJ Z aa) Z (Az (.bool (decide (c<=122))) Z (Nl (⟨Z,Z,Et (b:=(.bool (decide (c<=122)):Value)) Z (congrArg Value.bool (by (simp [aa];done):decide (c<=122)=(Q1e c)))⟩)))))))
  ·intro aa;exact Gs 2 5 (AE Z aa) Z (Gs 2 5 (AE Z aa) Z (Pk false (.bool false) Z (AE Z aa) Z (Az (.bool false) Z (Nl (⟨Z,Z,Et (b:=(.bool false:Value)) Z (congrArg Value.bool (by (simp [aa];done):false=(Q1e c)))⟩)))))
 ·rintro _ _ _ ⟨ac,ab,ad⟩;subst ac;subst ab;exact Rt (⟨Zr,IE Z (v:=.bool (Q1e c)) ad (⟨(by rfl),Z⟩)⟩)
theorem Yj(c:Int):AU W 157 #[.int .u8 c] h (λv h'=>v=(.bool (decide (FU c)):Value)/\h=h'):=by
 refine Ct func157 Z (Sr (Az (.bool false) Z (Nl (BS (λσ' ds' h'=>ds'=[]/\h=h'/\σ' 2=.bool (Q1m c)) ?_ ?_))))
 ·refine Rg (Mz (.int .u8 c) Z (Pl Z (Dt Z Z (Mz (.bool (decide (48<=c))) Z (Aq (p:=48<=c) ?_ ?_)))))
  ·intro aa;exact Gg 2 5 (AJ Z aa) Z (Mo (.int .u8 c) Z (Gg 2 5 (AJ Z aa) Z (E5 Z Z (Pk true (.bool (decide (c<=57))) Z (AJ Z aa) Z (Az (.bool (decide (c<=57))) Z (Nl (⟨Z,Z,Et (b:=(.bool (decide (c<=57)):Value)) Z (congrArg Value.bool (by (simp [aa];done):decide (c<=57)=(Q1m c)))⟩)))))))
  ·intro aa;exact Gs 2 5 (AE Z aa) Z (Gs 2 5 (AE Z aa) Z (Pk false (.bool false) Z (AE Z aa) Z (Az (.bool false) Z (Nl (⟨Z,Z,Et (b:=(.bool false:Value)) Z (congrArg Value.bool (by (simp [aa];done):false=(Q1m c)))⟩)))))
 ·rintro _ _ _ ⟨ac,ab,ad⟩;subst ac;subst ab;exact Rt (⟨Zr,IE Z (v:=.bool (Q1m c)) ad (⟨(by rfl),Z⟩)⟩)
theorem SB(xs:List Int)(xsv:Value)(fv:Value)(p:Int->Bool)(hxs:AI h xsv 1 eI xs)(hf:∀x ∈ xs,∀h1,h.Le h1->Bm W fv #[J x] h1 λv h2=>v=.bool (p x)/\h1.Le h2):AU W 209 #[xsv,fv] h (λv h'=>v=(J (idxOf p xs):Value)/\h.Le h'):=by
 have ac:=hxs.len;refine Ct func209 Z (Sr (Az (J 0) Z (Nl (S2 (Mz xsv Z (Pl Z (AL A8 hxs Z (Mz (J 0) Z (Nl (Bk (Ab (λnn σ' ds' h'=>∃(k:Nat),nn=xs.length-k/\(k<=xs.length)/\((xs.take k).any p=false)/\ds'=[]/\GH.Le h h'/\σ' 0=xsv/\σ' 1=fv/\σ' 7=J (xs.length:Int)/\σ' 8=J k) ⟨0,Z,aA,aD,Z,Lr,Z,Z,Z,Z⟩ (λnn _ _ _ am=>?_))))))))))));obtain ⟨k,rfl,hk,hs,x6,x7,x8,x9,al,ad⟩:=am;subst x6;refine Sr (Pl Z (Ah ad al (Nl (Sq (AT Z (λae=>?_) (λae=>?_))))))
 ·refine Sk (Sq (Bk (Sr (Mv (J k) Z ad (Az (J k) Z (Nl (Sr (Mv fv Z x9 (Mv xsv Z x8 (Mz (J k) Z ?_))))))))));have af:(0:Int)<=(k:Int):=aA
  have ag:(k:Int)<((xs.length:Nat):Int):=aA
  refine Pl Z (Aa A6 hxs Z Z af ag λan ab ah=>have ai:AZ _ an ab 1 (eI (xs.getD k 0)):=AZ.getD 0 ah;Lz (Qs xs k) Z (Aw AS (ai.le x7) Z) (Pl Z (Lk Z (vs:=#[J (xs.getD k 0)]) (by simp only [List.map_toArray,List.map_cons,List.map_nil,AQ] <;> rfl) ((hf (xs.getD k 0) (Bj aA) _ x7).mono λ_ _ aj=>?_))));obtain ⟨rfl,aa⟩:=aj;refine Nl (Cn Z (λak=>?_) (λak=>?_))
  ·exact Sr (Mz (J k) Z (Az (J k) Z (Nl (Rt (⟨Zr,Ot (J k) Z (⟨(by (rw [IA (k:=k) aA hs ‹_›];done)),(x7.trans aa)⟩)⟩)))))
  ·exact Sk (Rg (Ad _ _ Z ad Z aA (Mz (J ((k:Int)+1)) Z (Nl (⟨_,aA,k+1,Z,aA,(by exact Ew (d:=0) aA hs ‹_›),Z,(x7.trans aa),x8,x9,al,Z⟩)))))
 ·exact Xt (Sr (Az (J (-1)) Z (Nl (Rt (⟨Zr,Ot (J (-1)) Z (⟨(by (rw [G2 (k:=k) aA hs])),x7⟩)⟩)))))
theorem JW(xs:List Int)(xsv:Value)(fv:Value)(p:Int->Bool)(hxs:AI h xsv 1 eI xs)(hf:∀x ∈ xs,∀h1,h.Le h1->Bm W fv #[J x] h1 λv h2=>v=.bool (p x)/\h1.Le h2):AU W 203 #[xsv,fv] h (λv h'=>v=(.bool (xs.any p):Value)/\h.Le h'):=by
 have aa:=hxs.len;refine Ct func203 Z (Sr (Az (.bool false) Z (Nl (Sr (Mz xsv Z (Mz fv Z (Pl Z (AR func209 YX Z Z ((SB xs xsv fv p hxs (λx hx h1 l1=>hf x hx h1 (GH.Le.trans Lr l1))).mono λ_ _ ac=>?_)))))))));obtain ⟨rfl,ab⟩:=ac;exact Pl Z (Dt Z Z (Az (.bool (decide (0<=(idxOf p xs)))) Z (Nl (Rt (⟨Zr,Ot (.bool (decide (0<=(idxOf p xs)))) Z (⟨(by rw [show decide (0<=idxOf p xs)=xs.any p from by rw [Bool.eq_iff_iff];simp [FV]]),ab⟩)⟩)))))
end Go.Ns
