/- Rules and walks, part 3 of 6. No conditions. -/
import Derived.Carry
import Derived.Conc.LeavingOf
import Derived.LaidMore
import Derived.OpenShut
import Derived.ProofKit
import Derived.Test.YtbikoccgloongaaGreatDoorPFB
import Derived.Test.YtbikoccgloongaaGreatDoorProg
set_option linter.unusedVariables false
set_option linter.unusedSimpArgs false
set_option linter.unnecessarySimpa false
set_option linter.unusedSectionVars false
namespace Go.Ns
open Go.Conc
section
variable {P:Program} {E:Gq P} {O:Nat->Value} {ds:List Deferred} {h:GH} {T:(Nat->Value)->List Deferred->GH->Prop}
variable {dst:Option Nat} {ty:TypeId} {pos:String} {af:Array Edge} {gd:Option (Nat×Bool)}
def Md(P:Program)(e:TypeId):Option Nat:=(P.info? e).map (·.bytes)
theorem UH(z:Value)(n:Nat):(Array.range n).map (λi=>(#[z]:Array Value)[i%(#[z]:Array Value).size]!)=Array.replicate n z:=by
 apply Array.ext
 ·simp
 ·intro i h1 h2;simp [Nat.mod_one]
theorem Ji{t:TypeId}{l c:Operand}{N by_:Nat}{z:Value}{e:TypeId}(hs:Da P t=some (1,#[z],e))(hby:Md P e=some by_)(hl:AQ O l=.int .i64 N)(hc:AQ O c=.int .i64 N)(hb:by_*N<=281474976710656)(hN2:N<=16777216)
  (k:∀r h',h r=none->h.Le h'->h' r=some (true,.cells (Array.replicate N z) e (0,0))->(∀b,b≠r->h' b=h b)->T (putS O dst (.slice (some ⟨r,0,none⟩) N N)) ds h'):BQ E ⟨dst,.makeSlice t l c,ty,pos,af,gd⟩ O ds h T:=by
 unfold BQ execOp;refine F7 ?_;unfold Da at hs;unfold Instr.makeSlice;rw [hl,hc];cases hu:P.underlying t with
 | none=>rw [hu] at hs;cases hs
 | some d=>
  rw [hu] at hs;cases d <;> first | (cases hs;done) | skip
  rename_i e'
  simp only at hs;cases ht:CL P e' with
  | none=>rw [ht] at hs;cases hs
  | some x=>
   cases hz:Bm P e' with
   | none=>rw [ht,hz] at hs;cases hs
   | some z'=>
    rw [ht,hz] at hs;simp only [Option.some.injEq,Prod.mk.injEq] at hs;obtain ⟨hx2,rfl,rfl⟩:=hs;refine AD _ _ (Al hu ?_);refine AD _ _ (Ar ?_);refine AD _ _ (Ar ?_);unfold Md at hby;unfold Bm at hz;cases hi:P.info? e' with
    | none=>rw [hi] at hz;cases hz
    | some i=>
    rw [hi] at hz hby;simp only [Option.map_some,Option.some.injEq] at hby;simp only [Option.map_eq_some_iff] at hz;obtain ⟨v,hv,hvz⟩:=hz;refine AD _ _ (Cl hi ?_);have hw:IntKind.i64.wrap (N:Int)=N:=IntWalk.i64_in _ aA;simp only [hw,hby];have hb':((by_:Int)*(N:Int))<=281474976710656:=by rw [<-Int.natCast_mul];exact Int.ofNat_le.2 hb
    rw [if_neg (by simp;omega)];simp only [Int.toNat_natCast];have hask:∀(m:Nat)(Q:Unit->GH->Prop),Q () h->(askRoom m).gh P h Q:=λm Q q=>by
     unfold askRoom;split
     ·exact ⟨rfl,q⟩
     ·exact q
    refine AD _ _ (hask _ _ ?_);refine AD _ _ (F8 (by rw [ht];rfl) ?_);dsimp only;rw [hx2,Nat.mul_one];by_cases hN:N=0
    ·subst hN;rw [if_pos rfl];refine AD _ _ (Ar ?_);rw [show (Array.range 0).map (λi=>(#[]:Array Value)[i%(#[]:Array Value).size]!)=Array.replicate 0 z from aD];refine AD _ _ ?_;unfold newRow;refine AD _ _ (λr hr=>?_);exact k r _ hr (GH.Le.new hr _ _) (GH.set_same _ _ _ _) λb hb=>GH.set_ne _ _ _ hb
    rw [if_neg hN];unfold zeroValue;refine AD _ _ (AD _ _ (AD _ _ (Cl hi ?_)));rw [hv];refine Ar ?_;refine AD _ _ (Ar ?_);rw [hvz,UH];refine AD _ _ ?_;unfold newRow;refine AD _ _ (λr hr=>?_);exact k r _ hr (GH.Le.new hr _ _) (GH.set_same _ _ _ _) λb hb=>GH.set_ne _ _ _ hb
theorem KW{V:Type}{enc:V->Array Value}{x:V}{z:Value}(he:enc x=#[z]):∀N:Nat,DS enc (List.replicate N x)=List.replicate N z
 | 0=>rfl
 | N+1=>by
  have:=KW he N
  unfold DS at this ⊢;rw [List.replicate_succ,List.flatMap_cons,this,he];rfl
theorem AO.made{V:Type}{h h':GH}{r N:Nat}{t:TypeId}{enc:V->Array Value}{x:V}{z:Value}(hr:h r=none)(hb:h' r=some (true,.cells (Array.replicate N z) t (0,0)))(hN:N<=16777216)(he:enc x=#[z]) :
  AO h h' (.slice (some ⟨r,0,none⟩) N N) t 1 enc (List.replicate N x):=
 .inr ⟨r,N,_,by rw [List.length_replicate],hr,hb,aD,aD,by rw [List.length_replicate];omega,by rw [KW he,List.length_replicate,Nat.mul_one];simp,λy hy=>by rw [(List.mem_replicate.1 hy).2,he];rfl⟩
end
def Fc(nj:Nat)(k:Int):Int:=if¬(0<=k/\k<=(nj:Int)-1) then 6 else 0
def H4(nj:Nat)(l:List Int)(k:Nat):Int:=if¬Fc nj (l.getD k 0)=0 then Fc nj (l.getD k 0) else if (l.take k).any (λx=>decide (l.getD k 0=x))=true then 5 else 0
def Ah(nj:Nat)(l:List Int):Int:=C2 (H4 nj l) 0 l.length
def DQ(bag kinds:Int)(ps:List ByteArray)(ws:List AJ)(js:List AL)(ns:List AM)(l:List Int):Int:=
 if¬BD bag kinds ps ws js ns=0 then BD bag kinds ps ws js ns else Ah js.length l
theorem OI{nj:Nat}{k:Int}(h:Fc nj k=0):0<=k/\k<nj:=by
 unfold Fc at h;split at h
 ·cases h
 ·omega
theorem Fe{nj:Nat}{l:List Int}(h:Ah nj l=0)(k:Nat)(hk:k<l.length):0<=l.getD k 0/\l.getD k 0<nj:=by
 have h1:=Cy h k (Nat.zero_le _) aA;unfold H4 at h1;split at h1
 ·rename_i a;exact absurd h1 a
 ·rename_i a;exact OI (Decidable.not_not.1 a)
def Gp(out ps:List Int):Nat->List Int
 | 0=>out
 | i+1=>(Gp out ps i).set i ((Gp out ps i).getD i 0+ps.getD i 0)
def Bt(kinds:Int)(js:List AL)(l:List Int):Nat->List Int
 | 0=>List.replicate kinds.toNat 0
 | q+1=>Gp (Bt kinds js l q) (js.getD (l.getD q 0).toNat AL.z).parts (js.getD (l.getD q 0).toNat AL.z).parts.length
def Cb(kinds:Int)(js:List AL)(l:List Int):List Int:=Bt kinds js l l.length
theorem Me(out ps:List Int):∀i,(Gp out ps i).length=out.length
 | 0=>rfl
 | i+1=>by rw [Gp,List.length_set,Me out ps i]
theorem Mf(out ps:List Int)(hl:ps.length=out.length):∀i,i<=ps.length->∀j,(Gp out ps i).getD j 0=if j<i then out.getD j 0+ps.getD j 0 else out.getD j 0
 | 0,_,j=>by rw [if_neg aA];rfl
 | i+1,h,j=>by
  have e:=Mf out ps hl i aA;have hn:=Me out ps i;unfold Gp;rw [List.getD_eq_getElem?_getD,List.getElem?_set];by_cases hij:i=j
  ·subst hij;rw [if_pos rfl,if_pos aA,if_pos aA,Option.getD_some,e i,if_neg aA]
  ·rw [if_neg hij,<-List.getD_eq_getElem?_getD,e j];by_cases h1:j<i
   ·rw [if_pos h1,if_pos aA]
   ·rw [if_neg h1,if_neg aA]
section
variable {bag kinds:Int} {ps:List ByteArray} {ws:List AJ} {js:List AL} {ns:List AM} {l:List Int}
theorem NP(b:BO bag kinds ps ws js ns){k:Int}(h:0<=k/\k<js.length):JobOK ps.length kinds (js.getD k.toNat AL.z):=Pw (b.job k.toNat aA)
theorem IY(b:BO bag kinds ps ws js ns):∀q,(Bt kinds js l q).length=kinds.toNat
 | 0=>List.length_replicate
 | q+1=>by rw [Bt,Me,IY b q]
theorem Ly(b:BO bag kinds ps ws js ns)(hr:∀k,k<l.length->0<=l.getD k 0/\l.getD k 0<js.length):∀q,q<=l.length->∀j,0<=(Bt kinds js l q).getD j 0/\(Bt kinds js l q).getD j 0<=5*(q:Int)
 | 0,_,j=>by
  unfold Bt;rw [List.getD_eq_getElem?_getD,List.getElem?_replicate];split <;> simp
 | q+1,h,j=>by
  have e:=Ly b hr q aA j;have x:=NP b (hr q aA);have x2:=x.part j;have x3:=x.len;unfold Bt;rw [Mf _ _ (by rw [IY b q];omega) _ (Nat.le_refl _)];split <;> omega
theorem addP_rng(b:BO bag kinds ps ws js ns)(hr:∀k,k<l.length->0<=l.getD k 0/\l.getD k 0<js.length){q:Nat}(hq:q<l.length){i:Nat}(hi:i<(js.getD (l.getD q 0).toNat AL.z).parts.length) :
  (Gp (Bt kinds js l q) (js.getD (l.getD q 0).toNat AL.z).parts i).length=(js.getD (l.getD q 0).toNat AL.z).parts.length/\0<=(Gp (Bt kinds js l q) (js.getD (l.getD q 0).toNat AL.z).parts i).getD i 0/\(Gp (Bt kinds js l q) (js.getD (l.getD q 0).toNat AL.z).parts i).getD i 0<=5*(q:Int)/\
  0<=(js.getD (l.getD q 0).toNat AL.z).parts.getD i 0/\(js.getD (l.getD q 0).toNat AL.z).parts.getD i 0<=5:=by
 have x:=NP b (hr q hq);have e:=Ly b hr q aA i;have x3:=x.len;have hl:=IY (l:=l) b q;refine ⟨by rw [Me,hl];omega,?_⟩;rw [Mf _ _ (by rw [hl];omega) i aA,if_neg aA];exact ⟨e.1,e.2,x.part i⟩
theorem P7(b:BO bag kinds ps ws js ns):(Cb kinds js l).length=kinds.toNat:=IY b _
theorem P8(b:BO bag kinds ps ws js ns)(hr:∀k,k<l.length->0<=l.getD k 0/\l.getD k 0<js.length)(j:Nat):0<=(Cb kinds js l).getD j 0/\(Cb kinds js l).getD j 0<=5*(l.length:Int):=Ly b hr _ (Nat.le_refl _) j
theorem P9(xs:List Int){k:Nat}(h:k<xs.length):(xs.take (k+1)).sum=(xs.take k).sum+xs.getD k 0:=by
 rw [List.take_add_one,List.sum_append,List.getD_eq_getElem?_getD,List.getElem?_eq_getElem h];simp
theorem ZZ(xs:List Int){k:Nat}(h:xs.length<=k):(xs.take k).sum=xs.sum:=by rw [List.take_of_length_le h]
theorem VU(h:DQ bag kinds ps ws js ns l=0):BO bag kinds ps ws js ns/\∀k,k<l.length->0<=l.getD k 0/\l.getD k 0<js.length:=by
 unfold DQ at h;split at h
 ·rename_i a;exact absurd h a
 ·rename_i a;exact ⟨CE (Decidable.not_not.1 a),Fe h⟩
def D4(bag kinds:Int)(ps:List ByteArray)(ws:List AJ)(js:List AL)(ns:List AM)(l:List Int):List Int:=if¬DQ bag kinds ps ws js ns l=0 then [] else Cb kinds js l
def Hu(bag kinds:Int)(ps:List ByteArray)(ws:List AJ)(js:List AL)(ns:List AM)(l:List Int):Bool:=if¬DQ bag kinds ps ws js ns l=0 then false else decide ((Cb kinds js l).sum<=bag)
end
end Go.Ns
namespace Go.Ns
open Go.Conc
section
variable {P:Program} {E:Gq P} {O:Nat->Value} {ds:List Deferred} {h:GH} {T:(Nat->Value)->List Deferred->GH->Prop}
variable {dst:Option Nat} {ty:TypeId} {pos:String} {af:Array Edge} {gd:Option (Nat×Bool)}
theorem L0{t kt vt:TypeId}{x ix:Operand}{r np:Nat}{ws:List AJ}{pq:List AF}{q:AF}{a b:Int}{z:Value}(ht:MO P t=some (kt,vt))(hx:AQ O x=.map (some r))(hk:AQ O ix=FD (q.w5,a,b))(hm:EX h r np ws pq)
  (hc:∀a:Fb,ckP P 4 kt (FD a)=true)
  (he:∀a b:Fb,PQ P 4 kt (FD a) (FD b)=some ((a.1.1==b.1.1 && (a.1.2.1==b.1.2.1 && (a.1.2.2.1==b.1.2.2.1 && (a.1.2.2.2.1==b.1.2.2.2.1 && (a.1.2.2.2.2==b.1.2.2.2.2 && true))))) && (a.2.1==b.2.1 && (a.2.2==b.2.2 && true))))
  (hz:(P.info? vt).bind (·.zero)=some z) (hq:q ∈ pq) (ha:0<=a/\a<np) (hb:0<=b/\b<np)
  (k:T (putS O dst (.int .i64 (BA np ws q a.toNat b.toNat))) ds h):BQ E ⟨dst,.lookup t x ix false,ty,pos,af,gd⟩ O ds h T:=by
 obtain ⟨pm,M,hM,hF⟩:=hm;have e:=hF q hq a.toNat b.toNat aA aA;rw [Int.toNat_of_nonneg ha.1,Int.toNat_of_nonneg hb.1] at e;refine ST (d:=3) (a:=(q.w5,a,b)) ht hx hk hM rfl (hc _) (λb=>by rw [he,Fb.eq_iff]) hz ?_;rw [e];exact k
theorem NQ{V:Type}{t:TypeId}{x:Operand}{olo ohi:Option Operand}{n:Nat}{enc:V->Array Value}{xs:List V}{v:Value}{hk:GH}(lo hi:Nat)(ht:EB P t=some n)(hs:AH hk v n enc xs)(hx:AQ O x=v)
  (hlo:match olo with | none=>lo=0 | some o=>∃kd,AQ O o=.int kd lo) (hhi:match ohi with | none=>hi=xs.length | some o=>∃kd,AQ O o=.int kd hi) (h1:lo<=hi) (h2:hi<=xs.length)
  (k:∀v',AH hk v' n enc ((xs.take hi).drop lo)->T (putS O dst v') ds h):BQ E ⟨dst,.slice t x olo ohi none,ty,pos,af,gd⟩ O ds h T:=by
 have hs':=hs;obtain ⟨a,cap,rfl,hc,_,_⟩:=hs';exact K3 lo hi ht hc hx hlo hhi h1 h2 (k _ (hs.part h1 h2))
end
def fLo(F:AF->Int)(l:List AF):Nat->Int
 | 0=>F (l.getD 0 AF.zero)
 | k+1=>min (fLo F l k) (F ((l.drop 1).getD k AF.zero))
def fHi(F:AF->Int)(l:List AF):Nat->Int
 | 0=>F (l.getD 0 AF.zero)
 | k+1=>max (fHi F l k) (F ((l.drop 1).getD k AF.zero))
def EP(F:AF->Int)(l:List AF):Int:=fLo F l (l.length-1)
def CX(F:AF->Int)(l:List AF):Int:=fHi F l (l.length-1)
theorem drop1_mem{l:List AF}{k:Nat}(h:k<l.length-1):(l.drop 1).getD k AF.zero ∈ l:=List.mem_of_mem_drop (Ba (by rw [List.length_drop];exact h))
def Sg(s v:Int):Int:=if s=0 then v else 0
theorem OJ(v:Int):Sg 0 v=v:=if_pos rfl
theorem OK{s v:Int}(h:¬s=0):Sg s v=0:=if_neg h
end Go.Ns
namespace Go.Ns
open Go.Conc
theorem XH:∀(n m:Nat)(f:Nat->Nat),(∀i,i<m->f i<n)->(∀i j,i<j->j<m->f i≠f j)->m<=n
 | 0,m,f,h,_=>by
  rcases Nat.eq_zero_or_pos m with e | e
  ·omega
  ·exact absurd (h 0 e) (Nat.not_lt_zero _)
 | n+1,m,f,h,d=>by
  rcases Nat.eq_zero_or_pos m with e | e
  ·omega
  ·have x:=XH n (m-1) (λi=>if f i=n then f (m-1) else f i) (λi hi=>by
    have h1:=h i aA;have h2:=h (m-1) aA;have h3:=d i (m-1) hi aA;show (if f i=n then f (m-1) else f i)<n;split <;> omega) (λi j hij hj=>by
    have h1:=d i j hij aA;have h2:=d i (m-1) aA aA;have h3:=d j (m-1) aA aA;show (if f i=n then f (m-1) else f i)≠(if f j=n then f (m-1) else f j);split <;> split <;> omega)
   omega
theorem IG{nj:Nat}{l:List Int}(h:Ah nj l=0):l.length<=nj:=by
 refine XH nj l.length (λk=>(l.getD k 0).toNat) (λi hi=>?_) λi j hij hj=>?_
 ·have:=Fe h i hi
  show (l.getD i 0).toNat<nj;omega
 ·have hi:=Fe h i aA;have hj':=Fe h j hj;have h1:=Cy h j (Nat.zero_le _) aA;unfold H4 at h1;split at h1
  ·rename_i a;exact absurd h1 a
  ·split at h1
   ·cases h1
   ·rename_i a b
    show (l.getD i 0).toNat≠(l.getD j 0).toNat;intro e;refine b (List.any_eq_true.2 ⟨l.getD i 0,?_,decide_eq_true aA⟩);rw [List.mem_iff_getElem];refine ⟨i,by rw [List.length_take];omega,?_⟩;rw [List.getElem_take,List.getD_eq_getElem?_getD,List.getElem?_eq_getElem aA];rfl
def Hp(js:List AL)(l:List Int):Nat->Int
 | 0=>0
 | q+1=>(js.getD (l.getD q 0).toNat AL.z).place
def B7(np:Nat)(ws:List AJ)(js:List AL)(p:AF)(l:List Int):Nat->Int
 | 0=>0
 | q+1=>B7 np ws js p l q+(BA np ws p (Hp js l q).toNat (js.getD (l.getD q 0).toNat AL.z).place.toNat+p.works (l.getD q 0).toNat)
def FF(np:Nat)(ws:List AJ)(js:List AL)(p:AF)(l:List Int):Nat->List Int
 | 0=>[]
 | q+1=>FF np ws js p l q++[B7 np ws js p l (q+1)]
def A3(np:Nat)(ws:List AJ)(js:List AL)(p:AF)(l:List Int):Int:=B7 np ws js p l l.length+BA np ws p (Hp js l l.length).toNat 0
theorem Jj(np:Nat)(ws:List AJ)(js:List AL)(p:AF)(l:List Int):∀q,(FF np ws js p l q).length=q
 | 0=>rfl
 | q+1=>by rw [FF,List.length_append,Jj np ws js p l q];rfl
theorem QA(np:Nat)(ws:List AJ)(js:List AL)(p:AF)(l:List Int):∀q i,i<q->(FF np ws js p l q).getD i 0=B7 np ws js p l (i+1)
 | 0,i,h=>absurd h (Nat.not_lt_zero _)
 | q+1,i,h=>by
  have hl:=Jj np ws js p l q;rw [FF,List.getD_eq_getElem?_getD];by_cases e:i<q
  ·rw [List.getElem?_append_left aA,<-List.getD_eq_getElem?_getD];exact QA np ws js p l q i e
  ·have e2:i=q:=aA
   subst e2;rw [List.getElem?_append_right aA,hl,Nat.sub_self];rfl
section
variable {bag kinds:Int} {ps:List ByteArray} {ws:List AJ} {js:List AL} {ns:List AM} {l:List Int} {p:AF}
theorem Sh{np:Nat}(hp:CF p):(BA np ws p).ok:=VS (P4 hp)
theorem goAt_rng(b:BO bag kinds ps ws js ns)(hr:∀k,k<l.length->0<=l.getD k 0/\l.getD k 0<js.length):∀q,q<=l.length->0<=Hp js l q/\Hp js l q<ps.length
 | 0,_=>by have:=b.plen;show (0:Int)<=0/\(0:Int)<_;omega
 | q+1,h=>by have:=(NP b (hr q aA)).place;show 0<=(js.getD (l.getD q 0).toNat AL.z).place/\(js.getD (l.getD q 0).toNat AL.z).place<ps.length;omega
theorem Si(hp:CF p):∀q,0<=B7 ps.length ws js p l q/\B7 ps.length ws js p l q<=1048606*(q:Int)
 | 0=>⟨Int.le_refl 0,Int.le_refl 0⟩
 | q+1=>by
  have e:=Si hp q;have f:=Sh (np:=ps.length) (ws:=ws) hp (Hp js l q).toNat (js.getD (l.getD q 0).toNat AL.z).place.toNat;have w:=hp.works (l.getD q 0).toNat;unfold B7;omega
end
end Go.Ns
namespace Go.Ns
open Go.Conc
theorem EX.store{h h':GH}{q r np:Nat}{ws:List AJ}{pq:List AF}(x:EX h r np ws pq)(ho:∀b,b≠q->h' b=h b)(n:r≠q):EX h' r np ws pq:=by
 obtain ⟨pm,M,⟨es,clk,hb,hl⟩,hM⟩:=x;exact ⟨pm,M,⟨es,clk,(ho r n).trans hb,hl⟩,hM⟩
def JD(x:Int×Int):Array Value:=#[.int .i64 x.1,.int .i64 x.2]
section
variable (np:Nat) (ws:List AJ) (js:List AL) (pq:List AF) (l:List Int)
def endLo(i:Nat):Int:=EP (λx=>B7 np ws js x l (i+1)) pq
def endHi(i:Nat):Int:=CX (λx=>B7 np ws js x l (i+1)) pq
def Jk:Nat->List (Int×Int)
 | 0=>[]
 | q+1=>Jk q++[(endLo np ws js pq l q,endHi np ws js pq l q)]
theorem QB:∀q,(Jk np ws js pq l q).length=q
 | 0=>rfl
 | q+1=>by rw [Jk,List.length_append,QB q];rfl
def QC(i:Nat):Bool:=decide (endHi np ws js pq l i<=(js.getD (l.getD i 0).toNat AL.z).due)
def CG(bag kinds:Int):Bool:=decide ((Cb kinds js l).sum<=bag) && (List.range l.length).all (QC np ws js pq l)
variable {np ws js pq l}
theorem onTime_of{q:Nat}(h:¬(js.getD (l.getD q 0).toNat AL.z).due<CX (λx=>B7 np ws js x l ((q:Int).toNat+1)) pq):QC np ws js pq l q=true:=decide_eq_true (Int.not_lt.1 h)
theorem onTime_no{q:Nat}(h:(js.getD (l.getD q 0).toNat AL.z).due<CX (λx=>B7 np ws js x l ((q:Int).toNat+1)) pq):QC np ws js pq l q=false:=decide_eq_false (Int.not_le.2 h)
variable {bag kinds:Int}
theorem XI(h:¬(Cb kinds js l).sum<=bag):CG np ws js pq l bag kinds=false:=by unfold CG;rw [decide_eq_false h];rfl
theorem safe_late{k:Nat}(hk:k<l.length)(h:(js.getD (l.getD k 0).toNat AL.z).due<CX (λx=>B7 np ws js x l ((k:Int).toNat+1)) pq):CG np ws js pq l bag kinds=false:=by
 unfold CG;rw [Bool.and_eq_false_iff];refine .inr (Bool.eq_false_iff.2 λe=>?_)
 have:=List.all_eq_true.1 e k (List.mem_range.2 hk)
 rw [onTime_no h] at this;cases this
theorem safe_all{k:Nat}(h:¬¬(Cb kinds js l).sum<=bag)(hs:∀j,j<k->QC np ws js pq l j=true)(hk:l.length<=k):CG np ws js pq l bag kinds=true:=by
 unfold CG;rw [decide_eq_true (Decidable.not_not.1 h),Bool.true_and];exact List.all_eq_true.2 λj hj=>hs j (by have:=List.mem_range.1 hj;omega)
end
def Cv:Nat->List Int
 | 0=>[]
 | k+1=>Cv k++[(k:Int)]
theorem DN:∀n,(Cv n).length=n
 | 0=>rfl
 | n+1=>by rw [Cv,List.length_append,DN n];rfl
def Cg(nj:Nat)(l:List Int)(i:Int):Int:=if¬Ah nj l=0 then Ah nj l else if¬(0<=i/\i<=(l.length:Int)-1) then 1 else 0
theorem VV{nj:Nat}{l:List Int}{i:Int}(h:Cg nj l i=0):Ah nj l=0/\0<=i/\i<l.length:=by
 unfold Cg at h;split at h
 ·rename_i a;exact absurd h a
 ·rename_i a
  split at h
  ·cases h
  ·exact ⟨Decidable.not_not.1 a,aA⟩
section
variable (bag kinds:Int) (ps:List ByteArray) (ws:List AJ) (js:List AL) (ns:List AM) (l:List Int)
def Sj:List (Int×Int):=if¬Ag bag kinds ps ws js ns (Ah js.length l)=0 then [] else Jk ps.length ws js (AG ws js ns) l l.length
def Za:Bool:=if¬Ag bag kinds ps ws js ns (Ah js.length l)=0 then false else CG ps.length ws js (AG ws js ns) l bag kinds
def La(i:Int):Int:=
 if¬Ag bag kinds ps ws js ns (Cg js.length l i)=0 then 0 else if (js.getD (l.getD i.toNat 0).toNat AL.z).due<endLo ps.length ws js (AG ws js ns) l i.toNat then 1
 else if endHi ps.length ws js (AG ws js ns) l i.toNat<=(js.getD (l.getD i.toNat 0).toNat AL.z).due then 2 else 0
variable {bag kinds ps ws js ns l} {i:Int}
theorem late_yes(h0:Ag bag kinds ps ws js ns (Cg js.length l i)=0)(h:(js.getD (l.getD i.toNat 0).toNat AL.z).due<EP (λx=>B7 ps.length ws js x l (i.toNat+1)) (AG ws js ns)):(1:Int)=La bag kinds ps ws js ns l i:=by
 unfold La;rw [if_neg (λx=>x h0)];exact (if_pos h).symm
theorem late_no(h0:Ag bag kinds ps ws js ns (Cg js.length l i)=0)(h:¬(js.getD (l.getD i.toNat 0).toNat AL.z).due<EP (λx=>B7 ps.length ws js x l (i.toNat+1)) (AG ws js ns))
  (h2:CX (λx=>B7 ps.length ws js x l (i.toNat+1)) (AG ws js ns)<=(js.getD (l.getD i.toNat 0).toNat AL.z).due):(2:Int)=La bag kinds ps ws js ns l i:=by
 unfold La;rw [if_neg (λx=>x h0)];exact ((if_neg h).trans (if_pos h2)).symm
theorem late_open(h0:Ag bag kinds ps ws js ns (Cg js.length l i)=0)(h:¬(js.getD (l.getD i.toNat 0).toNat AL.z).due<EP (λx=>B7 ps.length ws js x l (i.toNat+1)) (AG ws js ns))
  (h2:¬CX (λx=>B7 ps.length ws js x l (i.toNat+1)) (AG ws js ns)<=(js.getD (l.getD i.toNat 0).toNat AL.z).due):(0:Int)=La bag kinds ps ws js ns l i:=by
 unfold La;rw [if_neg (λx=>x h0)];exact ((if_neg h).trans (if_neg h2)).symm
theorem late_bad(h0:¬Ag bag kinds ps ws js ns (Cg js.length l i)=0):(0:Int)=La bag kinds ps ws js ns l i:=by unfold La;rw [if_pos h0]
end
end Go.Ns
namespace Go.Ns
open Go.Conc
def HN(i:Nat)(pq:List AF):Nat->List Int
 | 0=>[]
 | k+1=>HN i pq k++[(pq.getD k AF.zero).works i]
theorem Hb(i:Nat)(pq:List AF):∀k,(HN i pq k).length=k
 | 0=>rfl
 | k+1=>by rw [HN,List.length_append,Hb i pq k];rfl
theorem QD{i:Nat}{pq:List AF}{k:Nat}(h:0<k):HN i pq k≠[]:=λe=>by
 have:=Hb i pq k
 rw [e] at this;simp at this;omega
def NR(bag kinds:Int)(ps:List ByteArray)(ws:List AJ)(js:List AL)(ns:List AM)(i:Int):List Int:=
 if¬Ag bag kinds ps ws js ns (Fc js.length i)=0 then [] else CI (DK (HN i.toNat (AG ws js ns) (AG ws js ns).length))
end Go.Ns
namespace Go.Ns
open Go.Conc
theorem VW{h:GH}{r:Nat}{M:Int->Option Int}(x:Cs h r D1 D1 M):∃y,h r=some y:=by
 obtain ⟨es,clk,hb,_⟩:=x;exact ⟨_,hb⟩
def EG(ns:List AM)(mask:Int)(k:Nat):List AM:=((List.range k).filter (OA mask)).map λ(i:Nat)=>ns.getD i AM.z
section
variable {ns:List AM} {mask:Int} {k:Nat} {h:GH}
theorem pickN_t(hb:mask.fdiv (2 ^ k)%2=1):EG ns mask (k+1)=EG ns mask k++[ns.getD k AM.z]:=by
 unfold EG;rw [KL (by unfold OA;rw [decide_eq_true hb]),List.map_append];rfl
theorem pickN_f(hb:¬mask.fdiv (2 ^ k)%2=1):EG ns mask (k+1)=EG ns mask k:=by
 unfold EG;rw [KM (by unfold OA;rw [decide_eq_false hb])]
theorem Sm(ns:List AM)(mask:Int)(k:Nat):(EG ns mask k).length<=k:=by
 unfold EG;rw [List.length_map]
 have:=List.length_filter_le (OA mask) (List.range k)
 rwa [List.length_range] at this
theorem VX(ns:List AM)(mask:Int)(k q:Nat)(hq:q<(EG ns mask k).length):∃i,i<k/\(EG ns mask k).getD q AM.z=ns.getD i AM.z:=by
 have hm:(EG ns mask k).getD q AM.z ∈ EG ns mask k:=Ba hq;unfold EG at hm ⊢;obtain ⟨i,hi,e⟩:=List.mem_map.1 hm;exact ⟨i,List.mem_range.1 (List.mem_filter.1 hi).1,e.symm⟩
theorem Av.pick(x:Av h ns)(mask:Int)(k:Nat):Av h (EG ns mask k):=λq=>by
 by_cases hq:q<(EG ns mask k).length
 ·obtain ⟨i,_,e⟩:=VX ns mask k q hq;rw [e];exact x i
 ·rw [List.getD_eq_getElem?_getD,List.getElem?_eq_none aA];exact Av.nil h 0
theorem Av.fine1(x:Av h ns)(k:Nat):(CT (ns.getD k AM.z)).toList.all (·.oneCell')=true:=by
 show (((ns.getD k AM.z).wv.oneCell') && (true && (true && true)))=true;rw [(AH.one (x k)).2];rfl
theorem Av.fine(x:Av h ns):∀y ∈ ns,(CT y).toList.all (·.oneCell')=true:=λy hy=>by
 obtain ⟨i,hi,e⟩:=List.mem_iff_getElem.1 hy
 have:=x.fine1 i
 rw [List.getD_eq_getElem?_getD,List.getElem?_eq_getElem hi] at this;rw [<-e];exact this
theorem UI{nw:Nat}{ns ns':List AM}{k i:Nat}(e:ns'.getD k AM.z=ns.getD i AM.z):D6 nw ns' k=D6 nw ns i:=by unfold D6;rw [e]
theorem BO.pick{bag kinds:Int}{ps:List ByteArray}{ws:List AJ}{js:List AL}(b:BO bag kinds ps ws js ns)(mask:Int):BO bag kinds ps ws js (EG ns mask ns.length):=
 { b with
  nlen:=Nat.le_trans (Sm ns mask ns.length) b.nlen
  note:=λk hk=>by
   obtain ⟨i,hi,e⟩:=VX ns mask ns.length k hk;rw [UI e];exact b.note i hi }
end
section
variable (ws:List AJ) (js:List AL) (ns:List AM)
def GC(x:Bool×List Int)(l:List Int):Bool:=x.1 && (decide ((x.2.length:Int)<l.length) || (decide ((l.length:Int)=x.2.length) && decide (0<VE l x.2)))
def B3:Nat->Bool×List Int
 | 0=>(false,[])
 | q+1=>if GC (B3 q) (D2 (q:Int) ns.length)=true then B3 q else if (AG ws js (EG ns (q:Int) ns.length)).length=0 then (true,D2 (q:Int) ns.length) else B3 q
variable {ws js ns} {q:Nat}
theorem In(h:GC (B3 ws js ns q) (D2 (q:Int) ns.length)=true):B3 ws js ns (q+1)=B3 ws js ns q:=if_pos h
theorem OL(h:GC (B3 ws js ns q) (D2 (q:Int) ns.length)=false)(h2:((AG ws js (EG ns (q:Int) ns.length)).length:Int)=0):B3 ws js ns (q+1)=(true,D2 (q:Int) ns.length):=by
 rw [B3,if_neg (by rw [h];simp),if_pos aA]
theorem OM(h:GC (B3 ws js ns q) (D2 (q:Int) ns.length)=false)(h2:¬((AG ws js (EG ns (q:Int) ns.length)).length:Int)=0):B3 ws js ns (q+1)=B3 ws js ns q:=by
 rw [B3,if_neg (by rw [h];simp),if_neg aA]
theorem tWorse_f1{x:Bool×List Int}{l:List Int}(h:x.1=false):GC x l=false:=by unfold GC;rw [h];rfl
theorem tWorse_f2{x:Bool×List Int}{l:List Int}(h:¬(x.2.length:Int)<l.length)(h2:¬(l.length:Int)=x.2.length):GC x l=false:=by
 unfold GC;rw [decide_eq_false h,decide_eq_false h2];simp
theorem tWorse_f3{x:Bool×List Int}{l:List Int}(h:¬(x.2.length:Int)<l.length)(h2:¬0<VE l x.2):GC x l=false:=by
 unfold GC;rw [decide_eq_false h,decide_eq_false h2];simp
theorem Sn{x:Bool×List Int}{l:List Int}(h:x.1=true)(h1:(x.2.length:Int)<l.length):GC x l=true:=by
 unfold GC;rw [h,decide_eq_true h1];simp
theorem Ss{x:Bool×List Int}{l:List Int}(h:x.1=true)(h1:(l.length:Int)=x.2.length)(h2:0<VE l x.2):GC x l=true:=by
 unfold GC;rw [h,decide_eq_true h1,decide_eq_true h2];simp
theorem pow_16:∀{n:Nat},n<=4->(1:Int)<=(2:Int) ^ n/\(2:Int) ^ n<=16
 | 0,_=>aC
 | 1,_=>aC
 | 2,_=>aC
 | 3,_=>aC
 | 4,_=>aC
theorem QE:∀q,(B3 ws js ns q).2.length<=ns.length
 | 0=>Nat.zero_le _
 | q+1=>by
  have e:=QE q;unfold B3;split
  ·exact e
  ·split
   ·exact SZ _ _
   ·exact e
def HO(bag kinds:Int)(ps:List ByteArray)(ws:List AJ)(js:List AL)(ns:List AM):List Int:=
 if¬BD bag kinds ps ws js ns=0 then [] else if (0:Int)<(AG ws js ns).length then [] else (B3 ws js ns (2 ^ ns.length)).2
end
section
variable {bag kinds:Int} {ps:List ByteArray} {ws:List AJ} {js:List AL} {ns:List AM} {q:Nat}
theorem VY(h:¬BD bag kinds ps ws js ns=0):HO bag kinds ps ws js ns=[]:=if_pos h
theorem UJ(h:(0:Int)<(AG ws js ns).length):HO bag kinds ps ws js ns=[]:=by
 unfold HO;rw [if_pos h];exact ite_self _
theorem VZ(h:BD bag kinds ps ws js ns=0)(h1:¬(0:Int)<(AG ws js ns).length)(hq:¬(q:Int)<(2:Int) ^ ((ns.length:Int)).toNat)(hq2:(q:Int)<=(2:Int) ^ ((ns.length:Int)).toNat):HO bag kinds ps ws js ns=(B3 ws js ns q).2:=by
 have e:((2 ^ ns.length:Nat):Int)=(2:Int) ^ ((ns.length:Int)).toNat:=by rw [Int.toNat_natCast,Int.natCast_pow];rfl
 rw [<-e] at hq hq2
 have:2 ^ ns.length=q:=aA
 unfold HO;rw [if_neg (λx=>x h),if_neg h1,this]
end
section
variable (ws:List AJ) (js:List AL) (ns:List AM)
abbrev LR(pq:List AF)(i:Nat):Nat->Int:=λk=>(pq.getD k AF.zero).ways i
def Va(pq:List AF)(i:Nat):Int:=LY (LR pq i) pq.length
def H5(pq:List AF)(k:Nat):Int×Int:=askTo (Va pq) (pq.length:Int) k
theorem St{pq:List AF}{k:Nat}(h:Va pq k<(H5 pq k).2):H5 pq (k+1)=((k:Int),Va pq k):=if_pos h
theorem Su{pq:List AF}{k:Nat}(h:¬Va pq k<(H5 pq k).2):H5 pq (k+1)=H5 pq k:=if_neg h
def UK(bag kinds:Int)(ps:List ByteArray)(ws:List AJ)(js:List AL)(ns:List AM):Int:=if¬Ag bag kinds ps ws js ns 0=0 then 0 else (H5 (AG ws js ns) ws.length).1
def O7(bag kinds:Int)(ps:List ByteArray)(ws:List AJ)(js:List AL)(ns:List AM):Int:=if¬Ag bag kinds ps ws js ns 0=0 then 0 else (H5 (AG ws js ns) ws.length).2
end
end Go.Ns
namespace Go.Ns
open Go.Conc
def JK(hs:GH)(k0 ln:Nat)(c:Array Value)(t:TypeId)(k:Nat)(v:Value)(h:GH):Prop:=k=k0->∃r,v=.slice (some ⟨r,0,none⟩) ln ln/\hs r=none/\h r=some (true,.cells c t (0,0))
theorem JK.mono(hs:GH)(k0 ln:Nat)(c:Array Value)(t:TypeId):∀k v h1 h2,GH.Le h1 h2->JK hs k0 ln c t k v h1->JK hs k0 ln c t k v h2:=λ_ _ _ _ l x e=>by
 obtain ⟨r,q1,q2,q3⟩:=x e;exact ⟨r,q1,q2,l.keep q3 rfl⟩
theorem G5{P:Program}{E:Gq P}{O:Nat->Value}{ds:List Deferred}{hs hx:GH}{dst:Option Nat}{ty:TypeId}{pos:String}{af:Array Edge}{gd:Option (Nat×Bool)}{t:TypeId}{len n k0 k:Nat}{z cells:Array Value}{e:TypeId}{parts:Array (Nat×Operand)}
  (h0:Da P t=some (n,z,e)) (hl:len*n<=2 ^ 24) (hn:(len*n=0)=False) (hf:Instr.fill (λi=>some (i*n,n)) ((Array.range (len*n)).map (z[·%z.size]!)) (parts.map λ(i,x)=>(i,AQ O x)).toList=some cells) (l:hs.Le hx) :
  BQ E ⟨dst,.buildSlice t len parts,ty,pos,af,gd⟩ O ds hx λσ' ds' h'=>ds'=ds/\∃v,σ'=putS O dst v/\hx.Le h'/\JK hs k0 len cells e k v h':=
 AX h0 hl hn hf λr h' hr le bx _=>⟨rfl,_,rfl,le,λ_=>⟨r,rfl,GH.Le.nothing l hr,bx⟩⟩
def LfW(hs:GH)(k0 ln:Nat)(c:Array Value)(t:TypeId)(n:Nat)(Fr:GH->Prop)(k:Nat)(v:Value)(h:GH):Prop:=JK hs k0 ln c t k v h/\(k=n->Fr h)
theorem LfW.mono(hs:GH)(k0 ln:Nat)(c:Array Value)(t:TypeId)(n:Nat){Fr:GH->Prop}(m:∀h1 h2,GH.Le h1 h2->Fr h1->Fr h2):∀k v h1 h2,GH.Le h1 h2->LfW hs k0 ln c t n Fr k v h1->LfW hs k0 ln c t n Fr k v h2:=λ_ _ _ _ l x=>⟨JK.mono _ _ _ _ _ _ _ _ _ l x.1,λe=>m _ _ l (x.2 e)⟩
theorem L1{P:Program}{E:Gq P}{O:Nat->Value}{ds:List Deferred}{hs hx:GH}{dst:Option Nat}{ty:TypeId}{pos:String}{af:Array Edge}{gd:Option (Nat×Bool)}{t:TypeId}{len n k0 N:Nat}{z cells:Array Value}{e:TypeId}{parts:Array (Nat×Operand)}{Fr:GH->Prop}(hk:k0≠N)
  (h0:Da P t=some (n,z,e)) (hl:len*n<=2 ^ 24) (hn:(len*n=0)=False) (hf:Instr.fill (λi=>some (i*n,n)) ((Array.range (len*n)).map (z[·%z.size]!)) (parts.map λ(i,x)=>(i,AQ O x)).toList=some cells) (l:hs.Le hx) :
  BQ E ⟨dst,.buildSlice t len parts,ty,pos,af,gd⟩ O ds hx λσ' ds' h'=>ds'=ds/\∃v,σ'=putS O dst v/\hx.Le h'/\LfW hs k0 len cells e N Fr k0 v h':=
 AX h0 hl hn hf λr h' hr le bx _=>⟨rfl,_,rfl,le,λ_=>⟨r,rfl,GH.Le.nothing l hr,bx⟩,λe=>absurd e hk⟩
theorem tFg{P:Program}{E:Gq P}{l:List Oper}{n:Nat}{fl:Bool}{hs:GH}{ds:List Deferred}{Lw:Nat->Value->GH->Prop}{F:(Nat->Value)->GH->Prop}{π:List Nat}{O:Nat->Value}{h:GH}{m k g d:Nat}{dst:Option Nat}{op:Op}{ty:TypeId}{pos:String}{af:Array Edge}{v:Value}{w:Bool}{og:Oper}
  (hk:LN m=(.p,k)) (ho:l[k]? =some ⟨dst,op,ty,pos,af,some (g,w)⟩) (h1:l[g]? =some og) (h2:og.dst=some d) (h3:O d=.bool w) (x:∀hx,Lw n undef hx->Tw E ⟨dst,op,ty,pos,af,some (g,w)⟩ O ds hx v)
  (y:TD E l n fl hs ds Lw F (dK π) (putS O dst v) h):TD E l n fl hs ds Lw F (dK (m ::π)) O h:=by
 unfold dK;rw [hk];exact ⟨_,true,ho,H1 h1 h2 h3,λe=>(by cases e),λ_=>⟨v,x,y⟩⟩
theorem tWLg{P:Program}{E:Gq P}{l:List Oper}{n:Nat}{hs:GH}{ds:List Deferred}{Lw:Nat->Value->GH->Prop}{F:(Nat->Value)->GH->Prop}{π:List Nat}{O:Nat->Value}{h:GH}{m k g d:Nat}{dst:Option Nat}{op:Op}{ty:TypeId}{pos:String}{af:Array Edge}{w:Bool}{og:Oper}(hk:LN m=(.w,k))(ho:l[k]? =some ⟨dst,op,ty,pos,af,some (g,w)⟩)(h1:l[g]? =some og)(h2:og.dst=some d)(h3:O d=.bool w)
  (x:BQ E ⟨dst,op,ty,pos,af,some (g,w)⟩ O ds h λσ' ds' h'=>ds'=ds/\∃v,σ'=putS O dst v/\Lw n undef h'/\TD E l n false hs ds Lw F (dK π) (putS O dst v) h'):TD E l n false hs ds Lw F (dK (m ::π)) O h:=by
 unfold dK;rw [hk];exact ⟨_,true,ho,H1 h1 h2 h3,λe=>(by cases e),λ_ hx hg=>by rw [hg.2 rfl];exact x⟩
def Ty(h:GH)(t:TypeId)(v:Value):Prop:=∀b,CW v=some b->∃p c f,h b=some (p,.cells c t f)
def B5(h:GH)(t:TypeId)(v:Value)(xs:List Int):Prop:=AH h v 1 eI xs/\Ty h t v
theorem B5.le{h h':GH}{t:TypeId}{v:Value}{xs:List Int}(x:B5 h t v xs)(l:h.Le h'):B5 h' t v xs:=⟨x.1.le l,λb hb=>by
 obtain ⟨p,c,f,q⟩:=x.2 b hb;exact ⟨p,c,f,l.keep q rfl⟩⟩
theorem B5.nil(h:GH)(t:TypeId):B5 h t (.slice none 0 0) []:=⟨AH.nil _ _ _,λb hb=>by cases hb⟩
theorem B5.own{h0 h:GH}{t:TypeId}{v:Value}{xs:List Int}(o:AO h0 h v t 1 eI xs):B5 h t v xs:=⟨o.sl,λb hb=>by
 rcases o with ⟨rfl,_⟩ | ⟨b1,cap,c,rfl,_,h2,_⟩
 ·cases hb
 ·simp only [CW,Option.some.injEq] at hb;subst hb;exact ⟨_,_,_,h2⟩⟩
theorem B5.same{h h':GH}{t:TypeId}{w:Value}{xs:List Int}(x:B5 h t w xs)(key:∀b,CW w=some b->h' b=h b):B5 h' t w xs:=by
 refine ⟨?_,λb hb=>by rw [key b hb];exact x.2 b hb⟩;obtain ⟨a,cap,hv,hc,hm,he⟩:=x.1;refine ⟨a,cap,hv,hc,hm,λi hi=>?_⟩;obtain ⟨b,off,h1,h2⟩:=he i hi;exact ⟨b,off,h1,h2.same (key b (by rw [hv,h1];rfl))⟩
theorem B5.grown{V:Type}{h h' h0:GH}{v v':Value}{t t':TypeId}{n:Nat}{enc:V->Array Value}{ys:List V}(g:Gr h h' v v')(o:AO h0 h v t' n enc ys)(ne:t'≠t){w:Value}{xs:List Int}(x:B5 h t w xs):B5 h' t w xs:=
 x.same λb hb=>by
  obtain ⟨p,c,f,q⟩:=x.2 b hb;rw [q];refine g.1 b _ q λe=>?_;rcases o with ⟨rfl,_⟩ | ⟨b1,cap,c1,rfl,_,h2,_⟩
  ·cases e
  ·simp only [CW,Option.some.injEq] at e;subst e;rw [q] at h2;cases h2;exact ne rfl
theorem B5.keepX{X:Nat->Prop}{h h':GH}{t:TypeId}{w:Value}{xs:List Int}(x:B5 h t w xs)(k:Bs X h h')(n:∀b,CW w=some b->¬X b):B5 h' t w xs:=
 x.same λb hb=>by
  obtain ⟨p,c,f,q⟩:=x.2 b hb;rw [q];exact k.box q (n b hb) rfl
theorem B5.store{h h':GH}{t t':TypeId}{w:Value}{xs:List Int}{r:Nat}{p:Bool}{c:Array Value}{f:Nat×Nat}(x:B5 h t w xs)(hr:h r=some (p,.cells c t' f))(ne:t'≠t)(ho:∀b,b≠r->h' b=h b):B5 h' t w xs:=
 x.same λb hb=>ho b λe=>by
  obtain ⟨p2,c2,f2,q⟩:=x.2 b hb;rw [e,hr] at q;cases q;exact ne rfl
def Bb(h:GH)(t:TypeId)(l:List Sl):Prop:=∀k,B5 h t (l.getD k Sl.z).1 (l.getD k Sl.z).2
theorem Bb.le{h h':GH}{t:TypeId}{l:List Sl}(x:Bb h t l)(e:h.Le h'):Bb h' t l:=λk=>(x k).le e
theorem Bb.nil(h:GH)(t:TypeId):Bb h t []:=λk=>by
 rw [Be aD];exact B5.nil _ _
theorem Gf{V:Type}(z:V)(a b:List V)(k:Nat):(a++b).getD k z=if k<a.length then a.getD k z else b.getD (k-a.length) z:=by
 simp only [List.getD_eq_getElem?_getD,List.getElem?_append];split <;> rfl
theorem Bb.app{h:GH}{t:TypeId}{l l':List Sl}(a:Bb h t l)(b:Bb h t l'):Bb h t (l++l'):=λk=>by
 rw [Gf];split
 ·exact a k
 ·exact b _
theorem Bb.one{h:GH}{t:TypeId}{x:Sl}(a:B5 h t x.1 x.2):Bb h t [x]:=λk=>by
 cases k with
 | zero=>exact a
 | succ k=>rw [Be aD];exact B5.nil _ _
theorem Bb.fine{h:GH}{t:TypeId}{l:List Sl}(a:Bb h t l):∀y ∈ l,(H2 y).toList.all (·.oneCell')=true:=λy hy=>by
 obtain ⟨i,hi,e⟩:=List.mem_iff_getElem.1 hy;have z:=a i;rw [List.getD_eq_getElem?_getD,List.getElem?_eq_getElem hi] at z;have z2:B5 h t l[i].1 l[i].2:=z;rw [<-e];show ((l[i].1.oneCell') && true)=true;rw [(AH.one z2.1).2];rfl
theorem NS(a b:List Sl):A4 (a++b)=A4 a++A4 b:=by simp [A4]
section
variable {V:Type} {hB:GH} {I:List V->(Nat->Prop)->GH->Prop} {S:GH->Prop} {X0 X X1:Nat->Prop} {h hc h':GH} {pre l:List V} {v v':Value}
def Jl(hB:GH)(X0 X:Nat->Prop)(h:GH)(v:Value):Prop:=∀b,CW v=some b->¬X b/\(X0 b\/h b=none)/\hB b=none
theorem Er.old(y:Er hB I X0 h pre X hc){b:Nat}(e:hc b=none):X0 b\/h b=none:=by
 by_cases q:X0 b
 ·exact .inl q
 ·refine .inr ?_;cases hb:h b with
  | none=>rfl
  | some x=>
   obtain ⟨o',h1,_⟩:=y.keep b x.1 x.2 hb q;rw [e] at h1;cases h1
theorem Er.fresh(P:Gm hB I)(y:Er hB I X0 h pre X hc)(o:∀b,CW v=some b->hc b=none):Jl hB X0 X h v:=λb hb=>⟨P.off y.inv (o b hb),y.old (o b hb),y.base.nothing (o b hb)⟩
theorem Jl.grown(f:Jl hB X0 X h v)(P:Gm hB I)(y:Er hB I X0 h pre X hc)(g:Gr hc h' v v'):Jl hB X0 X h v':=λb hb=>by
 rcases g.2 with e | ⟨⟨r,e1,e2⟩,_⟩
 ·exact f b (e▸hb)
 ·rw [e1] at hb;cases hb;exact ⟨P.off y.inv e2,y.old e2,y.base.nothing e2⟩
theorem Er.app(P:Gm hB I)(y:Er hB I X0 h pre X hc)(g:Gr hc h' v v')(f:Jl hB X0 X h v):Er hB I X0 h pre X h':=by
 have lB:hB.Le h':=λb p o hb=>by
  obtain ⟨o1,h1,h2⟩:=y.base b p o hb;exact ⟨o1,g.1 b _ h1 λe=>(by rw [(f b e).2.2] at hb;cases hb),h2⟩
 refine ⟨P.stable _ _ hc h' y.inv (λb hb=>?_) lB,y.sub,λb p o hb hn=>?_,lB⟩
 ·obtain ⟨p,o,h1,_⟩:=P.dom _ _ _ b y.inv hb;rw [h1];exact g.1 b _ h1 λe=>(f b e).1 hb
 ·obtain ⟨o1,h1,h2⟩:=y.keep b p o hb hn;exact ⟨o1,g.1 b _ h1 λe=>(f b e).2.1.elim hn λq=>(by rw [q] at hb;cases hb),h2⟩
theorem Er.callL(y:Er hB I X0 h pre X hc)(f:Jl hB X0 X h v){u:Value}(r:E3 hB I S pre (λb=>X b\/CW v=some b) hc l u h') :
  ∃ok X',u=.bool ok/\(∀b,X' b->(X b\/CW v=some b)\/hc b=none)/\Bs (λb=>X b\/CW v=some b) hc h'/\(ok=true->Er hB I X0 h (pre++l) X' h')/\(ok=false->∀l',E3 hB I S pre X0 h l' (.bool false) h'):=by
 obtain ⟨ok,X',hv,hs,hk,hl,h1,h2⟩:=r;have s:∀b,(X b\/CW v=some b)->X0 b\/h b=none:=λb q=>q.elim (y.sub b) λe=>(f b e).2.1;have kk:Bs X0 h h':=y.keep.trans s hk;have ss:=subX s y.keep hs;exact ⟨ok,X',hv,hs,hk,λe=>⟨h1 e,ss,kk,hl⟩,λe l'=>⟨false,X',rfl,ss,kk,hl,(λx=>by cases x),λ_=>h2 e⟩⟩
end
structure QF{P:Program}(W:Wk P)(hB:GH)(yv:Value)(t:TypeId)(I:List (List Int)->(Nat->Prop)->GH->Prop)(S:GH->Prop)(all:List (List Int)):Prop where
 prom:Gm hB I
 one:yv.cells=#[yv]
 call:∀pre p post X h v,all=pre++p ::post->I pre X h->hB.Le h->B5 h t v p->(∀b,CW v=some b->¬X b/\hB b=none)->Bn W yv #[v] h (E3 hB I S pre (λb=>X b\/CW v=some b) h [p])
section
variable {P:Program} {E:Gq P} {O:Nat->Value} {ds:List Deferred}
theorem Sv{t0:TypeId}{all:List (List Int)}{hB hc:GH}{J:List (List Int)->(Nat->Prop)->GH->Prop}{Stop:Code->GH->Prop}{Y0:Nat->Prop}{par:Tmp}{f:Operand}{assign body:Code}{Q:Post}
  (hrd:E.rd=none) (hpar:Nat.blt par E.N=true) (hJ:Gm hB J) (hB0:hB.Le hc) (j0:J [] Y0 hc)
  (hS:∀c (h h':GH) l lo,Stop c h->h l=some (true,.loop lo)->(∀b,b≠l->h' b=h b)->Stop c h')
  (src:∀(yv:Value)(I:List (List Int)->(Nat->Prop)->GH->Prop)(Sp:GH->Prop)(X:Nat->Prop)(h:GH),QF E.wk hB yv t0 I Sp all->hB.Le h->I [] X h->Bn E.wk (AQ O f) #[yv] h λ_ h'=>YEnd hB I Sp all X h h')
  (round:∀(l d:Nat)(lo:Loop)(pre:List (List Int))(p:List Int)(post:List (List Int))(Y:Nat->Prop)(h:GH)(v:Value),all=pre++p ::post->J pre Y h->hB.Le h->hB l=none->¬Y l->h l=some (true,.loop lo)->B5 h t0 v p->(∀b,CW v=some b->¬Y b/\hB b=none)->
   Tr ⟨E.wk,E.fn,some l,E.N⟩ assign (upd O par v) [] h λe σ' ds' h1=>e=.normal/\h1 l=some (true,.loop lo)/\∀h2,h2 l=some (true,.loop { lo with state:=.busy })->(∀b,b≠l->h2 b=h1 b)->
    Tr ⟨E.wk,E.fn,some l,E.N⟩ body σ' ds' h2 (VD hB J Stop (pre++[p]) (λb=>Y b\/CW v=some b) h l lo))
  (fin:∀(d l:Nat)(h':GH),hB.Le h'->hB d=none->hB l=none->hc d=none->h' d=some (true,.deferred (some []))->
   (∀Y,J all Y h'->(∀b,Y b->b≠d)->Q .normal O ({ target:=.collected d,args:=#[] } ::ds) h')/\
   (∀c,Stop c h'->match c with
    | .exit id=>Q (.exit id) O ({ target:=.collected d,args:=#[] } ::ds) h'
    | .ret=>Q .ret O ({ target:=.collected d,args:=#[] } ::ds) h'
    | _=>False)):Tr E (.rangeFunc f #[par] assign body) O ds hc Q:=by
 refine MQ hrd λt d l hs hd hl hne=>?_;have hl':hB l=none:=hB0.nothing hl;have hd':hB d=none:=hB0.nothing hd;let lo:Loop:={ state:=.ready,pending:=none,fn:=E.fn,tmps:=t,params:=#[par],assign,body,defers:=d };have nYl:¬Y0 l:=hJ.off j0 hl;have nYd:¬Y0 d:=hJ.off j0 hd;have hL1:((hc.set d true (.deferred (some []))).set l true (.loop lo)) l=some (true,.loop lo):=GH.set_same _ _ _ _;have hL2:((hc.set d true (.deferred (some []))).set l true (.loop lo)) d=some (true,.deferred (some [])):=by rw [GH.set_ne _ _ _ (Ne.symm hne)];exact GH.set_same _ _ _ _
 have hL3:∀b,b≠l->b≠d->((hc.set d true (.deferred (some []))).set l true (.loop lo)) b=hc b:=λb h1 h2=>by rw [GH.set_ne _ _ _ h1,GH.set_ne _ _ _ h2]
 have hLB:hB.Le ((hc.set d true (.deferred (some []))).set l true (.loop lo)):=(hB0.trans (GH.Le.new hd _ _)).trans (GH.Le.new (by rw [GH.set_ne _ _ _ hne];exact hl) _ _);have hI0:N9 J l d lo [] (λb=>Y0 b\/b=l\/b=d) ((hc.set d true (.deferred (some []))).set l true (.loop lo)):=by
  refine ⟨Y0,hJ.stable _ _ hc _ j0 (λb hb=>hL3 b (λe=>nYl (e▸hb)) (λe=>nYd (e▸hb))) hLB,λb=>Iff.rfl,nYl,nYd,hL1,hL2⟩
 have prom:Gm hB (N9 J l d lo):=by
  refine ⟨?_,?_⟩
  ·rintro pre X h b ⟨Y,j,hX,_,_,h1,h2⟩ hb;rcases (hX b).1 hb with h3 | rfl | rfl
   ·exact hJ.dom _ _ _ _ j h3
   ·exact ⟨_,_,h1,rfl⟩
   ·exact ⟨_,_,h2,rfl⟩
  ·rintro pre X h h' ⟨Y,j,hX,n1,n2,h1,h2⟩ same lB;refine ⟨Y,hJ.stable _ _ h h' j (λb hb=>same b ((hX b).2 (.inl hb))) lB,hX,n1,n2,?_,?_⟩
   ·rw [same l ((hX l).2 (.inr (.inl rfl)))];exact h1
   ·rw [same d ((hX d).2 (.inr (.inr rfl)))];exact h2
 have yk:QF E.wk hB (.func (.yield l) #[] #[]) t0 (N9 J l d lo) (SX Stop l d lo) all:=by
  refine ⟨prom,rfl,?_⟩;rintro pre p post X h v hall ⟨Y,j,hX,n1,n2,h1,h2⟩ lB hsv hvX;have nvl:CW v≠some l:=λe=>by obtain ⟨_,_,_,q⟩:=hsv.2 l e;rw [h1] at q;cases q
  have nvd:CW v≠some d:=λe=>by obtain ⟨_,_,_,q⟩:=hsv.2 d e;rw [h2] at q;cases q
  refine PT h1 rfl ?_;have ef:(lo.params.zip #[v]).foldl (λtmps x=>tmps.setIfInBounds x.1 x.2) lo.tmps=t.setIfInBounds par v:=by simp [lo]
  rw [ef];show BP E.wk l E.fn (t.setIfInBounds par v) assign body h _;have hs':=hs.put hpar v;refine N4 (N:=E.N) hs'.1 ?_;have e0:(λi=>(t.setIfInBounds par v).getD i undef)=upd O par v:=funext hs'.2;rw [e0];refine Kx ?_ (round l d lo pre p post Y h v hall j lB hl' n1 h1 hsv λb hb=>⟨λq=>(hvX b hb).1 ((hX b).2 (.inl q)),(hvX b hb).2⟩);rintro e σ' ds' ha ⟨rfl,ha1,hb⟩;refine ⟨rfl,lo,ha1,rfl,?_⟩;refine Kx ?_ (hb _ (GH.set_same _ _ _ _) λb hb=>GH.set_ne _ _ _ hb);rintro e σ2 ds2 h3 ⟨g1,Y',g2,g3,g4,g5⟩;have hd3:h3 d=some (true,.deferred (some [])):=g3.box h2 (λq=>q.elim (λq=>q.elim n2 nvd) (λe=>hne e.symm)) rfl;have nl:¬Y' l:=λq=>(g2 l q).elim (λq=>q.elim n1 nvl) λe=>by rw [h1] at e;cases e
  have nd:¬Y' d:=λq=>(g2 d q).elim (λq=>q.elim n2 nvd) λe=>by rw [h2] at e;cases e
  have key:∀(lo2:Loop)(ok:Bool),(if ok then J (pre++[p]) Y' (h3.set l true (.loop lo2))/\lo2=lo else SX Stop l d lo (h3.set l true (.loop lo2)))->E3 hB (N9 J l d lo) (SX Stop l d lo) pre (λb=>X b\/CW v=some b) h [p] (.bool ok) (h3.set l true (.loop lo2)):=by
   intro lo2 ok hok;refine ⟨ok,λb=>Y' b\/b=l\/b=d,rfl,?_,?_,?_,?_,?_⟩
   ·rintro b (hb | rfl | rfl)
    ·exact (g2 b hb).imp (λq=>q.imp (λq=>(hX b).2 (.inl q)) id) id
    ·exact .inl (.inl ((hX _).2 (.inr (.inl rfl))))
    ·exact .inl (.inl ((hX _).2 (.inr (.inr rfl))))
   ·intro b q o hb hn;have nb:b≠l:=λe=>hn (.inl ((hX b).2 (.inr (.inl e))));rw [GH.set_ne _ _ _ nb];exact g3 b q o hb λq=>q.elim (λz=>z.elim (λz=>hn (.inl ((hX b).2 (.inl z)))) λz=>hn (.inr z)) nb
   ·exact g4.upd hl' λb hb=>GH.set_ne _ _ _ hb
   ·rintro rfl;simp only [if_true] at hok;obtain ⟨hj,rfl⟩:=hok;exact ⟨Y',hj,λb=>Iff.rfl,nl,nd,GH.set_same _ _ _ _,by rw [GH.set_ne _ _ _ (Ne.symm hne)];exact hd3⟩
   ·rintro rfl;simpa using hok
  have js:∀(lo2:Loop),J (pre++[p]) Y' h3->J (pre++[p]) Y' (h3.set l true (.loop lo2)):=λlo2 hj=>hJ.store hj nl (λb hb=>GH.set_ne _ _ _ hb) (g4.upd hl' λb hb=>GH.set_ne _ _ _ hb);have ss:∀c (lo2:Loop),Stop c h3->Stop c (h3.set l true (.loop lo2)):=λc lo2 hc=>hS c h3 _ l _ hc g1 λb hb=>GH.set_ne _ _ _ hb;refine ⟨_,g1,?_⟩;cases e with
  | normal=>exact key _ true (by simp only [if_true];exact ⟨js _ g5,rfl⟩)
  | exit id=>exact key _ false (by simp only [Bool.false_eq_true,if_false];exact ⟨_,ss _ _ g5,GH.set_same _ _ _ _,by rw [GH.set_ne _ _ _ (Ne.symm hne)];exact hd3⟩)
  | ret=>exact key _ false (by simp only [Bool.false_eq_true,if_false];exact ⟨_,ss _ _ g5,GH.set_same _ _ _ _,by rw [GH.set_ne _ _ _ (Ne.symm hne)];exact hd3⟩)
  | goto _=>exact g5.elim
  | panic _=>exact g5.elim
  | outgrown=>exact g5.elim
 refine (src _ _ _ _ _ yk hLB hI0).mono ?_;rintro v h' ⟨X',hs',hk,hl2,hor⟩;rcases hor with ⟨Y,j,hX,n1,n2,h1,h2⟩ | ⟨c,hst,h1,h2⟩
 ·refine ⟨lo,h1,rfl,?_⟩;show Q .normal O _ _;have hB':=hl2.upd hl' (λb hb=>GH.set_ne h' true (.loop { lo with state:=.exhausted }) hb);refine (fin d l _ hB' hd' hl' hd (by rw [GH.set_ne _ _ _ (Ne.symm hne)];exact h2)).1 Y (hJ.store j n1 (λb hb=>GH.set_ne _ _ _ hb) hB') λb hb e=>n2 (e▸hb)
 ·refine ⟨_,h1,rfl,?_⟩;have hB':=hl2.upd hl' (λb hb=>GH.set_ne h' true (.loop { { lo with state:=.done,pending:=some c } with state:=.exhausted }) hb)
  have:=(fin d l _ hB' hd' hl' hd (by rw [GH.set_ne _ _ _ (Ne.symm hne)];exact h2)).2 c (hS c h' _ l _ hst h1 λb hb=>GH.set_ne _ _ _ hb)
  cases c with
  | exit id=>exact this
  | ret=>exact this
  | _=>exact this.elim
end
def I7(l:List Int)(k:Int):Bool:=l.any (λx=>decide (k=x))
def BR(jobs:List Int):Nat->List Int->List (List Int)
 | 0,l=>[l]
 | f+1,l=>l ::jobs.flatMap λk=>if I7 l k=true then [] else BR jobs f (l++[k])
def CK(jobs:List Int):Nat->List Int->Int->List (List Int)
 | 0,_,_=>[]
 | f+1,l,k=>if I7 l k=true then [] else BR jobs f (l++[k])
theorem HP(jobs:List Int)(f:Nat)(l:List Int):BR jobs f l=l ::jobs.flatMap (CK jobs f l):=by
 cases f with
 | zero=>simp [BR,CK]
 | succ f=>rfl
def DZ(jobs:List Int):List (List Int):=BR jobs jobs.length []
def L2(jobs l:List Int):Nat:=(jobs.filter λk=> !I7 l k).length
theorem hasI_app(l:List Int)(k j:Int):I7 (l++[k]) j=(I7 l j || decide (j=k)):=by simp [I7]
theorem ON{jobs l:List Int}{k:Int}(hk:k ∈ jobs)(h:I7 l k=false):L2 jobs (l++[k])<L2 jobs l:=by
 unfold L2;have key:∀js:List Int,(js.filter λj=> !I7 (l++[k]) j).length<=(js.filter λj=> !I7 l j).length/\(k ∈ js->(js.filter λj=> !I7 (l++[k]) j).length<(js.filter λj=> !I7 l j).length):=by
  intro js
  induction js with
  | nil=>exact ⟨Nat.le_refl _,λe=>by cases e⟩
  | cons j js ih=>
   obtain ⟨ih1,ih2⟩:=ih;rw [List.filter_cons,List.filter_cons,hasI_app];by_cases e:j=k
   ·subst e;simp only [h,Bool.false_or,decide_true,Bool.not_true,Bool.false_eq_true,if_false,Bool.not_false,if_true,List.length_cons];exact ⟨aA,λ_=>aA⟩
   ·rw [decide_eq_false e,Bool.or_false];split
    ·simp only [List.length_cons];exact ⟨aA,λq=>by have:=ih2 ((List.mem_cons.1 q).resolve_left λz=>e z.symm);omega⟩
    ·exact ⟨ih1,λq=>ih2 ((List.mem_cons.1 q).resolve_left λz=>e z.symm)⟩
 exact (key jobs).2 hk
theorem XJ{jobs:List Int}{i:Nat}{F:Int->List (List Int)}(hi:i<jobs.length):(jobs.take (i+1)).flatMap F=(jobs.take i).flatMap F++F (jobs.getD i 0):=by
 rw [Ey 0 hi,List.flatMap_append];simp
theorem CS.job{all pre:List (List Int)}{jobs:List Int}{f i:Nat}{l:List Int}(w:CS all pre (BR jobs f l))(hi:i<jobs.length):CS all (pre++[l]++(jobs.take i).flatMap (CK jobs f l)) (CK jobs f l (jobs.getD i 0)):=by
 rw [HP] at w;have w2:CS all pre ([l]++((jobs.take i).flatMap (CK jobs f l)++(CK jobs f l (jobs.getD i 0)++(jobs.drop (i+1)).flatMap (CK jobs f l)))):=by
  rw [<-List.append_assoc (List.flatMap _ _),<-XJ hi,<-List.flatMap_append,List.take_append_drop];exact w
 exact (w2.right.right).left
theorem CS.head{all pre:List (List Int)}{jobs:List Int}{f:Nat}{l:List Int}(w:CS all pre (BR jobs f l)):CS all pre [l]:=by
 rw [HP] at w;exact CS.left (a:=[l]) w
section
variable {jobs l:List Int} {f f' i:Nat} {k:Int} {all pre:List (List Int)}
theorem XK(hk:k ∈ jobs)(h:I7 l k=false)(hu:L2 jobs l<=f):∃f',f=f'+1:=⟨f-1,by have:=ON hk h;omega⟩
theorem Mg(hf:f=f'+1)(h:I7 l k=false):CK jobs f l k=BR jobs f' (l++[k]):=by
 subst hf;exact if_neg (by rw [h];simp)
theorem R0(h:I7 l k=true):CK jobs f l k=[]:=by
 cases f with
 | zero=>rfl
 | succ f=>exact if_pos h
theorem R1(hi:i<jobs.length)(h:I7 l (jobs.getD i 0)=true):pre++[l]++(jobs.take (i+1)).flatMap (CK jobs f l)=pre++[l]++(jobs.take i).flatMap (CK jobs f l):=by
 rw [XJ hi,R0 h,List.append_nil]
theorem UL(hi:i<jobs.length)(hf:f=f'+1)(h:I7 l (jobs.getD i 0)=false):pre++[l]++(jobs.take (i+1)).flatMap (CK jobs f l)=(pre++[l]++(jobs.take i).flatMap (CK jobs f l))++BR jobs f' (l++[jobs.getD i 0]):=by
 rw [XJ hi,Mg hf h,<-List.append_assoc]
theorem roundsEnd(hi:jobs.length<=i):pre++BR jobs f l=pre++[l]++(jobs.take i).flatMap (CK jobs f l):=by
 rw [List.take_of_length_le hi,HP];simp
theorem CS.go(w:CS all pre (BR jobs f l))(hi:i<jobs.length)(hf:f=f'+1)(h:I7 l (jobs.getD i 0)=false):CS all (pre++[l]++(jobs.take i).flatMap (CK jobs f l)) (BR jobs f' (l++[jobs.getD i 0])):=by
 have z:=w.job hi
 rwa [Mg hf h] at z
end
end Go.Ns
namespace Go.Ns
open Go.Conc
theorem Hr.mem{h:GH}{l:List Sl}(a:Hr h l){x:Sl}(hx:x ∈ l):AH h x.1 1 eI x.2:=by
 obtain ⟨i,hi,e⟩:=List.mem_iff_getElem.1 hx;have z:=a i;rw [List.getD_eq_getElem?_getD,List.getElem?_eq_getElem hi] at z;have z2:AH h l[i].1 1 eI l[i].2:=z;rw [<-e];exact z2
theorem Bb.all{h:GH}{t:TypeId}{l:List Sl}(a:Bb h t l):Hr h l:=λk=>(a k).1
theorem Bb.drop1{h:GH}{t:TypeId}{l:List Sl}(a:Bb h t l):Bb h t (l.drop 1):=λk=>by
 rw [List.getD_eq_getElem?_getD,List.getElem?_drop,<-List.getD_eq_getElem?_getD];exact a (1+k)
theorem XL{l:List Sl}{k:Nat}(h:k<l.length-1):(l.drop 1).getD k Sl.z ∈ l:=List.mem_of_mem_drop (Ba (by rw [List.length_drop];exact h))
section
variable (G:List Int->Int) (l:List (List Int))
def EH:Nat->List Int×Int
 | 0=>(l.getD 0 [],G (l.getD 0 []))
 | k+1=>if G ((l.drop 1).getD k [])<(EH k).2 then ((l.drop 1).getD k [],G ((l.drop 1).getD k [])) else EH k
def Dp:List Int:=(EH G l (l.length-1)).1
end
section
variable {G:List Int->Int} {l:List Sl} {k:Nat}
theorem XM(l:List Sl):(A4 l).length=l.length:=List.length_map _
theorem OO(hk:k<l.length-1):((A4 l).drop 1).getD k []=((l.drop 1).getD k Sl.z).2:=by
 have e:(A4 l).drop 1=A4 (l.drop 1):=by unfold A4;rw [List.map_drop]
 rw [e,GA (by rw [List.length_drop];exact hk)]
theorem Mh(hk:k<l.length-1)(h:G ((l.drop 1).getD k Sl.z).2<(EH G (A4 l) k).2):EH G (A4 l) (k+1)=(((l.drop 1).getD k Sl.z).2,G ((l.drop 1).getD k Sl.z).2):=by
 rw [EH,OO hk,if_pos h]
theorem Mi(hk:k<l.length-1)(h:¬G ((l.drop 1).getD k Sl.z).2<(EH G (A4 l) k).2):EH G (A4 l) (k+1)=EH G (A4 l) k:=by
 rw [EH,OO hk,if_neg h]
theorem Vb(hk:k=l.length-1):Dp G (A4 l)=(EH G (A4 l) k).1:=by unfold Dp;rw [XM,hk]
end
theorem QG:∀(n k:Nat),k<n->(Cv n).getD k 0=(k:Int)
 | 0,k,h=>absurd h (Nat.not_lt_zero _)
 | n+1,k,h=>by
  have hl:=DN n;rw [Cv,List.getD_eq_getElem?_getD];by_cases e:k<n
  ·rw [List.getElem?_append_left aA,<-List.getD_eq_getElem?_getD];exact QG n k e
  ·have e2:k=n:=aA
   subst e2;rw [List.getElem?_append_right aA,hl,Nat.sub_self];rfl
theorem QH{n:Nat}{x:Int}(h:x ∈ Cv n):0<=x/\x<n:=by
 obtain ⟨i,hi,e⟩:=List.mem_iff_getElem.1 h;have hl:=DN n
 have:=QG n i aA
 rw [List.getD_eq_getElem?_getD,List.getElem?_eq_getElem hi,Option.getD_some,e] at this;omega
theorem KX{jobs:List Int}:∀(f:Nat)(l:List Int),(∀x ∈ l,x ∈ jobs)->∀r ∈ BR jobs f l,(∀x ∈ r,x ∈ jobs)/\r.length<=l.length+f
 | 0,l,h,r,hr=>by
  rw [BR,List.mem_singleton] at hr;subst hr;exact ⟨h,Nat.le_refl _⟩
 | f+1,l,h,r,hr=>by
  rw [BR,List.mem_cons] at hr;rcases hr with rfl | hr
  ·exact ⟨h,aA⟩
  ·obtain ⟨k,hk,hr⟩:=List.mem_flatMap.1 hr;split at hr
   ·cases hr
   ·have:=KX f (l++[k]) (λx hx=>by
     rcases List.mem_append.1 hx with hx | hx
     ·exact h x hx
     ·rw [List.mem_singleton.1 hx];exact hk) r hr
    refine ⟨this.1,?_⟩;have e:=this.2;rw [List.length_append,List.length_singleton] at e;omega
theorem UM{jobs r:List Int}(h:r ∈ DZ jobs):(∀x ∈ r,x ∈ jobs)/\r.length<=jobs.length:=by
 have:=KX jobs.length [] (λx hx=>by cases hx) r h
 simpa using this
def UN(nj:Nat)(l:List Int):Prop:=(∀k,k<l.length->0<=l.getD k 0/\l.getD k 0<nj)/\l.length<=4
theorem KY{n:Nat}{jobs r:List Int}(hj:∀x ∈ jobs,0<=x/\x<(n:Int))(hl:jobs.length<=4)(h:r ∈ DZ jobs):UN n r:=by
 obtain ⟨h1,h2⟩:=UM h;exact ⟨λk hk=>hj _ (h1 _ (Ba hk)),aA⟩
theorem KZ{jobs:List Int}(hj:jobs.length<=4):∀(f:Nat)(l:List Int),f<=4->(BR jobs f l).length<=5 ^ f*1
 | 0,l,_=>Nat.le_refl _
 | f+1,l,hf=>by
  have key:∀js:List Int,(js.flatMap λk=>if I7 l k=true then [] else BR jobs f (l++[k])).length<=js.length*5 ^ f:=by
   intro js
   induction js with
   | nil=>simp
   | cons j js ih=>
    rw [List.flatMap_cons,List.length_append,List.length_cons,Nat.add_mul,Nat.one_mul,Nat.add_comm];refine Nat.add_le_add ih ?_;split
    ·exact Nat.zero_le _
    ·have:=KZ hj f (l++[j]) aA;omega
  rw [BR,List.length_cons];have h1:=key jobs;have h2:jobs.length*5 ^ f<=4*5 ^ f:=Nat.mul_le_mul_right _ hj;have h3:1<=5 ^ f:=Nat.one_le_pow _ _ aC;rw [Nat.pow_succ];omega
theorem H6{jobs:List Int}(hj:jobs.length<=4):(DZ jobs).length<=625:=by
 have h:=KZ hj jobs.length [] hj;have h2:5 ^ jobs.length<=5 ^ 4:=Nat.pow_le_pow_right aC hj;unfold DZ;omega
end Go.Ns
namespace Go.Ns
open Go.Conc
section
variable {P:Program} {M:Type} {F:NK P M} {i:Option (Cp M)} {O:Nat->Value} {ds:List Deferred} {h:GH} {Q:Pm M}
theorem trI_td{id:Nat}{l:List Oper}(n:Nat)(fl:Bool)(π:List Nat)(hm:P.follows .mixedOrders=true)
  (ok:Pa l (l.take n) 0 [] (λcls=>Pb P F.N l n cls fl (dK π))=true) (x:TD (F.env i) l n fl h ds (λ_ _ _=>True) (λσ' h'=>Gn F l.toArray (l.drop n) i σ' ds h' Q) (dK π) O h):Om F (.region id l.toArray true) i O ds h Q:=by
 obtain ⟨cls,h1⟩:=IN ok;intro b k cs L t hb hr hl hs hq;exact ZN (E:=F.env i) n cls fl (dK π) hm (λ_ _ _ _ _ y=>y) trivial h1 x hb hr hs λσ' h' f t' ht'=>f n b k cs L t' (λj=>aD) hb hr hl ht' hq
def Jm(P:Program):Frame:={ (default:Frame) with fn:=P.funcs.size,defers:=[],mode:=.panicking [goexitEntry] }
theorem quit_bot:QuitsIn P 1 (G (Jm P) []):=.inr ⟨rfl,{ G (Jm P) [] with status:=.finished },λw=>by
 show unwind P false (Jm P) [] none w=_;have hcat:(Jm P).catches P=false:=by
  unfold Frame.catches
  have:P.funcs[(Jm P).fn]? =none:=Array.getElem?_eq_none (Nat.le_refl _)
  rw [this];rfl
 have hd:(Jm P).defers=[]:=rfl;have hmd:(Jm P).mode=.panicking [goexitEntry]:=rfl;unfold unwind;simp only [hd,hmd,hcat]
 rfl,rfl⟩
theorem Vc{fn:Func}{f:FuncId}{args:Array Value}{t:Array Value}{ops:Array Oper}(hf:P.funcs[f]? =some fn)(hres:fn.results=#[]):QuitsIn P 4 (G (Ci (Frame.enter P f args .deferred) t [] [.inRegion ops []]) [Jm P]):=by
 refine .inr ⟨rfl,G (Ci (Frame.enter P f args .deferred) t [] []) [Jm P],λw=>by rw [A5];simp [stepG.exec,Ci,G],?_⟩;refine .inr ⟨rfl,G (E2 (Frame.enter P f args .deferred) t [] []) [Jm P],λw=>by rw [A5];simp [stepG.exec,Ci,E2,G,Frame.enter],?_⟩;refine .inr ⟨rfl,G (Jm P) [],λw=>?_,quit_bot⟩;show unwind P false (E2 (Frame.enter P f args .deferred) t [] []) [Jm P] none w=_;have hfn:(E2 (Frame.enter P f args .deferred) t [] []).fn=f:=rfl;have hk:(E2 (Frame.enter P f args .deferred) t [] []).kind=.deferred:=rfl;have hmd:(E2 (Frame.enter P f args .deferred) t [] []).mode=.returning:=rfl;have hd:(E2 (Frame.enter P f args .deferred) t [] []).defers=[]:=rfl;have r1:∀t,(results fn t).runT P w #[]=(.ok (.tuple #[]) w,#[]):=λt=>by
  unfold results;rw [hres];simp only [Array.mapM_empty];rfl
 unfold unwind;simp only [hd,hmd,hfn,hf,r1,GStep.after,doReturn,hk,seen_none];rfl
def Jn(F:NK P M)(R:Code)(args:Array Value)(i:Option (Cp M))(O:Nat->Value)(h:GH):Prop:=∀t,BX t F.N O->(F.wk i).K (G (Ci (Frame.enter P F.fn args .deferred) t [] [.code R]) [Jm P]) h
theorem NT{fn:Func}{c R:Code}{s:Cp M}{ars cap args:Array Value}(hm:F.main=false)(hrd:F.rd=none)(ha:ars++cap=args)(hf:P.funcs[F.fn]? =some fn)(hc:AK fn=true)(hb:fn.body=some (.seq c R))(hN:F.N=fn.ntmps)(hsz:args.size<=fn.ntmps)(hs:¬s.isDone)
  (x:Om F c (some s) (λi=>args.getD i undef) [] h λi e O ds h=>e=.normal/\ds=[]/\Jn F R args i O h):Fm P F.Rep F.W.K s false (born P { target:=.fn (.func F.fn) cap,args:=ars }) h:=by
 have hwk:∀s,(F.wk (some s)).K=Ee P false (Ix P F.Rep F.W.K s false):=λs=>by show Ee P F.main (Ix P F.Rep F.W.K s F.main)=_;rw [hm]
 rw [HT hs];refine MI _ _ _ _ rfl λw f=>⟨G (Frame.enter P F.fn args .deferred) [Jm P],w,#[],h,?_,Bl.refl f,?_⟩
 ·subst ha;have hi:(invoke (.fn (.func F.fn) cap) ars).runT P w #[]=(.ok (.enter F.fn (ars++cap)) w,#[]):=UC hf hc w;show callDeferred P (Jm P) [] none { target:=.fn (.func F.fn) cap,args:=ars } w=_;unfold callDeferred;rw [if_neg aD];simp only [hi,seen_none];rfl
 have e0:Frame.enter P F.fn args .deferred=Ci (Frame.enter P F.fn args .deferred) (args++Array.replicate (fn.ntmps-args.size) undef) [] [.code (.seq c R)]:=by simp [Frame.enter,Ci,hf,hb]
 rw [e0,<-hwk s];refine Wk.go (Ci (Frame.enter P F.fn args .deferred) (args++Array.replicate (fn.ntmps-args.size) undef) [] (.code c ::.code R ::[])) (λw=>by rw [A5];simp [stepG.exec,Ci,G]) ?_;refine x (Frame.enter P F.fn args .deferred) [.code R] [Jm P] (λ_ _ _ _ _=>False) _ rfl hrd.symm (λi=>⟨λ_ _ _ q=>q.elim,λ_ _ _ _ q=>q.elim,λ_ _ _ _ _ _ q=>q.elim⟩) ⟨by rw [hN];simp;omega,λi=>?_⟩ ?_
 ·by_cases hi:i<args.size
  ·simp [Array.getD_eq_getD_getElem?,Array.getElem?_append_left hi]
  ·simp only [Array.getD_eq_getD_getElem?];rw [Array.getElem?_append_right aA,Array.getElem?_eq_none (show args.size<=i by omega),Array.getElem?_replicate];split <;> rfl
 ·rintro i e O ds h' ⟨rfl,rfl,z⟩ t' ht';exact z t' ht'
theorem last_send{fn:Func}{id:Nat}{o1 o2:Oper}{args:Array Value}{c:Nat}{m:M}{v z:Value}{hm:GH}{h1:GH}(hmn:F.main=false)(hrd:F.rd=none)(hf:P.funcs[F.fn]? =some fn)(hres:fn.results=#[])
  (hg1:o1.guard=none) (hd1:C3 o1.dst F.N=true) (hg2:o2.guard=none) (hdf1:C6 o1.op=false) (hdf:C6 o2.op=false) (hd2:C3 o2.dst F.N=true)
  (x:BQ (F.env (some (.send c m .done))) o1 O [] h λσ' ds' h'=>ds'=[]/\(∀w,(execOp (AQ σ') o2).runT P w #[]=(.ok (.comm #[scase c v z] true .send) w,#[]))/\GH.Split h' h1 hm/\F.Rep c m v hm) :
  Jn F (.region id [o1,o2].toArray false) args (some (.send c m .done)) O h:=by
 intro t hs;refine Wk.go (Ci (Frame.enter P F.fn args .deferred) t [] (.inRegion [o1,o2].toArray [0,1] ::[])) (λw=>by rw [A5];simp [stepG.exec,Ci,G,List.range_eq_range',Array.range];rfl) ?_;refine Ky (E:=F.env (some (.send c m .done))) (o:=o1) (rest:=[1]) rfl (by simp [Region.wanted,hg1]) (.inr hdf1) hd1 hs x ?_;rintro σ' ds' h' ⟨rfl,hr,hsp,hrep⟩ t' ht';refine Ee.stop ⟨_,[Jm P],v,z,hm,h1,rfl,⟨λw fw=>?_,hsp,hrep,4,?_⟩⟩
 ·rw [hmn];exact UA ht' rfl (by simp [Region.wanted,hg2]) (.inr hdf) (hr w)
 ·rw [C7 (ops:=[o1,o2].toArray) (i:=1) (o:=o2) rfl];exact Vc hf hres
theorem run_close{dst:Option Nat}{x:Operand}{tys:Array TypeId}{ty:TypeId}{pos:String}{af:Array Edge}{gd:Option (Nat×Bool)}{ch s r:Nat}{w:World}(hx:AQ O x=.chan (some ch))(hw:w.heap[ch]? =some (.chan 0 #[] false s r false)) :
  (execOp (AQ O) ⟨dst,.call ⟨.builtin .close,#[x],tys⟩,ty,pos,af,gd⟩).runT P w #[]=(.ok (.value (.tuple #[])) { w with heap:=w.heap.setIfInBounds ch (.chan 0 #[] true s r false) },#[⟨.obj ch,false,true⟩,⟨.obj ch,true,true⟩]):=by
 have q:execOp (AQ O) ⟨dst,.call ⟨.builtin .close,#[x],tys⟩,ty,pos,af,gd⟩=builtin .close tys ty (#[x].map fun | .const _=>true | _=>false) (#[x].map (AQ O)):=by
  show (resolve (AQ O) _ ty).bind _=_;unfold resolve;rfl
 have e:(#[x].map (AQ O))=#[Value.chan (some ch)]:=by simp [hx]
 rw [q,e];show Sem.runT P (.getObj ch λo=>_) w #[]=_;unfold Sem.runT;rw [hw];show Sem.runT P (.setObj ch (.chan 0 #[] true s r false) _) w _=_;unfold Sem.runT;rw [hw];rfl
theorem QI{fn:Func}{id:Nat}{o1:Oper}{dst:Option Nat}{xo:Operand}{tys:Array TypeId}{ty:TypeId}{pos:String}{af:Array Edge}{args:Array Value}{c:Nat}(hmn:F.main=false)(hf:P.funcs[F.fn]? =some fn)(hres:fn.results=#[])
  (hg1:o1.guard=none) (hd1:C3 o1.dst F.N=true) (hdf1:C6 o1.op=false)
  (x:BQ (F.env (some (.close c .done))) o1 O [] h λσ' ds' _=>ds'=[]/\AQ σ' xo=.chan (some c)) :
  Jn F (.region id [o1,⟨dst,.call ⟨.builtin .close,#[xo],tys⟩,ty,pos,af,none⟩].toArray false) args (some (.close c .done)) O h:=by
 intro t hs;refine Wk.go (Ci (Frame.enter P F.fn args .deferred) t [] (.inRegion [o1,⟨dst,.call ⟨.builtin .close,#[xo],tys⟩,ty,pos,af,none⟩].toArray [0,1] ::[])) (λw=>by rw [A5];simp [stepG.exec,Ci,G,List.range_eq_range',Array.range];rfl) ?_;refine Ky (E:=F.env (some (.close c .done))) (o:=o1) (rest:=[1]) rfl (by simp [Region.wanted,hg1]) (.inr hdf1) hd1 hs x ?_;rintro σ' ds' h' ⟨rfl,hx⟩ t' ht';refine Ee.stop ⟨_,[Jm P],Ci (Frame.enter P F.fn args .deferred) (Wf t' dst (.tuple #[])) [] [.inRegion [o1,⟨dst,.call ⟨.builtin .close,#[xo],tys⟩,ty,pos,af,none⟩].toArray []],[Jm P],rfl,⟨λw s r fw hw=>?_,rfl,4,Vc hf hres⟩⟩;rw [hmn,Pn ht' (ops:=[o1,⟨dst,.call ⟨.builtin .close,#[xo],tys⟩,ty,pos,af,none⟩].toArray) (n:=1) (o:=⟨dst,.call ⟨.builtin .close,#[xo],tys⟩,ty,pos,af,none⟩) rfl (by simp [Region.wanted]) (.inr rfl)];simp only [stepG.apply,run_close hx hw,if_true];have hk:((Ci (Frame.enter P F.fn args .deferred) t' [] [.inRegion [o1,⟨dst,.call ⟨.builtin .close,#[xo],tys⟩,ty,pos,af,none⟩].toArray [1]]).kind==CallKind.early)=false:=rfl;rw [C7 (ops:=[o1,⟨dst,.call ⟨.builtin .close,#[xo],tys⟩,ty,pos,af,none⟩].toArray) (i:=1) rfl];simp only [hk,Bool.false_eq_true,if_false];show GStep.go _ _ (seen P _ _++ #[])=_;rw [W1];rfl
end
end Go.Ns
namespace Go.Ns
open Go.Conc
theorem Bb.at{h:GH}{t:TypeId}{l:List Sl}(a:Bb h t l){x:Sl}(hx:x ∈ l):B5 h t x.1 x.2:=by
 obtain ⟨i,hi,e⟩:=List.mem_iff_getElem.1 hx;have z:=a i;rw [List.getD_eq_getElem?_getD,List.getElem?_eq_getElem hi] at z;have z2:B5 h t l[i].1 l[i].2:=z;rw [<-e];exact z2
theorem Bb.of{h:GH}{t:TypeId}{l:List Sl}(a:∀x ∈ l,B5 h t x.1 x.2):Bb h t l:=λk=>by
 by_cases hk:k<l.length
 ·exact a _ (Ba hk)
 ·rw [Be aA];exact B5.nil _ _
theorem Bb.grown{V:Type}{h h' h0:GH}{v v':Value}{t t':TypeId}{n:Nat}{enc:V->Array Value}{ys:List V}(g:Gr h h' v v')(o:AO h0 h v t' n enc ys)(ne:t'≠t){l:List Sl}(x:Bb h t l):Bb h' t l:=λk=>(x k).grown g o ne
theorem Bb.store{h h':GH}{t t':TypeId}{l:List Sl}{r:Nat}{p:Bool}{c:Array Value}{f:Nat×Nat}(x:Bb h t l)(hr:h r=some (p,.cells c t' f))(ne:t'≠t)(ho:∀b,b≠r->h' b=h b):Bb h' t l:=λk=>(x k).store hr ne ho
theorem B5.storeL{h h':GH}{t:TypeId}{w:Value}{xs:List Int}{r:Nat}{p:Bool}{lo:Loop}(x:B5 h t w xs)(hr:h r=some (p,.loop lo))(ho:∀b,b≠r->h' b=h b):B5 h' t w xs:=
 x.same λb hb=>ho b λe=>by
  obtain ⟨p2,c2,f2,q⟩:=x.2 b hb;rw [e,hr] at q;cases q
def Sw(hB:GH)(r:Nat)(T t t0:TypeId)(F:List Int->Bool)(pre:List (List Int))(Y:Nat->Prop)(h:GH):Prop:=
 ∃w l',h r=some (true,.cells #[w] T (0,0))/\AO hB h w t 1 H2 l'/\Ay w r/\hB r=none/\A4 l'=pre.filter F/\Bb h t0 l'/\∀b,Y b↔b=r\/CW w=some b\/∃x ∈ l',CW x.1=some b
section
variable {hB h h' ha hb:GH} {r:Nat} {T t t0:TypeId} {F:List Int->Bool} {pre:List (List Int)} {p:List Int} {w w' v:Value} {Y:Nat->Prop} {l':List Sl}
theorem QJ(hB:GH)(r:Nat)(T t t0:TypeId)(F:List Int->Bool):Gm hB (Sw hB r T t t0 F):=by
 refine ⟨?_,?_⟩
 ·rintro pre Y h b ⟨w,l',h1,h2,h3,h0,h5,h6,h4⟩ hb;rcases (h4 b).1 hb with rfl | h7 | ⟨x,hx,h7⟩
  ·exact ⟨_,_,h1,rfl⟩
  ·obtain ⟨c,hc⟩:=h2.cellsAt b h7;exact ⟨_,_,hc,rfl⟩
  ·obtain ⟨q,c,f,hc⟩:=(h6.at hx).2 b h7;exact ⟨_,_,hc,rfl⟩
 ·rintro pre Y h h' ⟨w,l',h1,h2,h3,h0,h5,h6,h4⟩ same lB;refine ⟨w,l',by rw [same r ((h4 r).2 (.inl rfl))];exact h1,h2.keep λb o hb ho=>by rw [same b ((h4 b).2 (.inr (.inl hb)))];exact ho,h3,h0,h5,.of λx hx=>(h6.at hx).same λb hb=>same b ((h4 b).2 (.inr (.inr ⟨x,hx,hb⟩))),h4⟩
theorem OP(x:h r=some (true,.cells #[.slice none 0 0] T (0,0)))(h0:hB r=none):Sw hB r T t t0 F [] (λb=>b=r) h:=
 ⟨_,[],x,AO.nil _ _ _ _ _,Ay.nil,h0,rfl,Bb.nil _ _,λ_=>⟨.inl,λq=>q.elim id λe=>e.elim (λe=>by cases e) λ⟨_,e,_⟩=>by cases e⟩⟩
theorem Sx(hY:∀b,Y b↔b=r\/CW w=some b\/∃x ∈ l',CW x.1=some b)(g:Gr ha hb w w')(hn:∀q,ha q=none->h q=none)(x:h' r=some (true,.cells #[w'] T (0,0)))(o:AO hB h' w' t 1 H2 (l'++[(v,p)]))(f:Ay w' r)(h0:hB r=none)
  (hl:A4 l'=pre.filter F) (hp:F p=true) (ta:Bb h' t0 (l'++[(v,p)])):∃Y',(∀b,Y' b->(Y b\/CW v=some b)\/h b=none)/\Sw hB r T t t0 F (pre++[p]) Y' h':=by
 refine ⟨λb=>b=r\/CW w'=some b\/∃x ∈ l'++[(v,p)],CW x.1=some b,?_,w',_,x,o,f,h0,?_,ta,λ_=>Iff.rfl⟩
 ·rintro b (rfl | hb | ⟨y,hy,hb⟩)
  ·exact .inl (.inl ((hY _).2 (.inl rfl)))
  ·rcases g.2 with e | ⟨⟨q,e1,e2⟩,_⟩
   ·exact .inl (.inl ((hY _).2 (.inr (.inl (by rw [<-e];exact hb)))))
   ·rw [e1] at hb;cases hb;exact .inr (hn _ e2)
  ·rcases List.mem_append.1 hy with hy | hy
   ·exact .inl (.inl ((hY _).2 (.inr (.inr ⟨y,hy,hb⟩))))
   ·rw [List.mem_singleton.1 hy] at hb;exact .inl (.inr hb)
 ·rw [NS,hl,List.filter_append];simp [A4,hp]
theorem XN(hY:∀b,Y b↔b=r\/CW w=some b\/∃x ∈ l',CW x.1=some b)(x:h' r=some (true,.cells #[w] T (0,0)))(o:AO hB h' w t 1 H2 l')(f:Ay w r)(h0:hB r=none)(hl:A4 l'=pre.filter F)(hp:F p=false)(ta:Bb h' t0 l') :
  ∃Y',(∀b,Y' b->(Y b\/CW v=some b)\/h b=none)/\Sw hB r T t t0 F (pre++[p]) Y' h':=
 ⟨Y,λ_ q=>.inl (.inl q),w,l',x,o,f,h0,by rw [hl,List.filter_append];simp [hp],ta,hY⟩
end
def tVal:Dv->Value
 | .job i=>.int .i64 i
 | .res i b=>.agg #[.int .i64 i,.bool b]
 | .tick=>.bool true
def tOK(n:Nat):Dv->Prop
 | .job i=>i<n
 | .res i _=>i<n
 | .tick=>True
def On(n:Nat):Nat->Dv->Value->GH->Prop:=λ_ m v hm=>v=tVal m/\tOK n m/\hm=λ_=>none
theorem GH.split_none(h:GH):GH.Split h h (λ_=>none) where
 left:=λb p o hb=>⟨p,hb,id⟩
 right:=λb p o hb=>by cases hb
 one:=λ_ _ _ _ hb=>by cases hb
 two:=λ_ _ _ hb _=>by cases hb
section
variable {cj co cd n k:Nat} {ok:Nat->Bool}
theorem feed_some(h:k<n):some (Hs cj (n-k) k)=some (.send cj (.job k) (Hs cj (n-(k+1)) (k+1))):=by
 rw [show n-k=(n-(k+1))+1 by omega];rfl
theorem feed_end(h:n<=k):some (Hs cj (n-k) k)=some (.close cj .done):=by rw [show n-k=0 by omega];rfl
theorem Vd:∀m k,¬(Hs cj m k).isDone
 | 0,_=>id
 | _+1,_=>id
theorem Ve:∀m,¬(Ft cj co cd ok m).isDone
 | 0=>id
 | _+1=>id
theorem workF_not{m:Nat}:∀o,¬(VM co cd ok (Ft cj co cd ok m) o).isDone
 | none=>id
 | some (.job _)=>id
 | some (.res _ _)=>id
 | some .tick=>id
theorem Sy:∀t,¬(EW co cd t).isDone
 | 0=>id
 | _+1=>id
theorem XO{t:Nat}:∀o,¬(NL (EW co cd t) o).isDone
 | none=>id
 | some (.job _)=>id
 | some (.res _ _)=>id
 | some .tick=>Sy t
theorem Vf:∀m R,¬(Fu co ok m R).isDone
 | 0,_=>id
 | _+1,_=>id
theorem Zb{c:Prop}[Decidable c]{a b:Cp Dv}(ha:¬a.isDone)(hb:¬b.isDone):¬(if c then a else b).isDone:=by split <;> assumption
theorem mainF_not{m:Nat}{R:List Nat}:∀o,¬(Im ok R (Fu co ok m) o).isDone
 | none=>Zb id id
 | some (.job _)=>id
 | some .tick=>id
 | some (.res _ _)=>Zb (Vf _ _) id
theorem Vg:∀m,¬(IU cj co cd n ok m).isDone
 | 0=>id
 | _+1=>id
theorem XP(h:k<3):some (EW co cd (3-k))=some (.recv cd (NL (EW co cd (3-(k+1))))):=by
 rw [show 3-k=(3-(k+1))+1 by omega];rfl
theorem close_end(h:3<=k):some (EW co cd (3-k))=some (.close co .done):=by rw [show 3-k=0 by omega];rfl
theorem crew_some(h:k<3):some (IU cj co cd n ok (3-k))=some (.spawn (Ft cj co cd ok (n+1)) (IU cj co cd n ok (3-(k+1)))):=by
 rw [show 3-k=(3-(k+1))+1 by omega];rfl
theorem crew_end(h:3<=k):some (IU cj co cd n ok (3-k))=some (.spawn (EW co cd 3) (Fu co ok (n+1) (List.range n))):=by rw [show 3-k=0 by omega];rfl
end
def UO(n:Nat)(ok:Nat->Bool)(R:List Nat):List Bool:=(List.range n).map λi=>if i ∈ R then false else ok i
theorem Zc(n:Nat)(ok:Nat->Bool)(R:List Nat):(UO n ok R).length=n:=by unfold UO;rw [List.length_map,List.length_range]
theorem isL_start(n:Nat)(ok:Nat->Bool):UO n ok (List.range n)=List.replicate n false:=by
 unfold UO;refine List.ext_getElem aD λi h1 h2=>?_
 have:i<n:=by simpa using h1
 simp [this]
theorem isL_put{n i:Nat}{ok:Nat->Bool}{R:List Nat}(hR:R.Nodup):(UO n ok R).set i (ok i)=UO n ok (R.erase i):=by
 unfold UO;refine List.ext_getElem aD λj h1 h2=>?_;rw [List.getElem_set];simp only [List.getElem_map,List.getElem_range,List.Nodup.mem_erase_iff hR];by_cases e:i=j
 ·subst e;simp
 ·rw [if_neg e]
  have:j≠i:=λq=>e q.symm
  simp [this]
theorem Zd{n:Nat}{ok:Nat->Bool}{k:Nat}(hk:k<n):(UO n ok []).getD k false=ok k:=by
 unfold UO;rw [List.getD_eq_getElem?_getD,List.getElem?_map,List.getElem?_range hk];simp
def Jo(fl:List Sl)(ok:Nat->Bool):Nat->List Sl
 | 0=>[]
 | k+1=>if ok k=true then Jo fl ok k++[fl.getD k Sl.z] else Jo fl ok k
theorem selS_t{fl:List Sl}{ok:Nat->Bool}{k:Nat}(h:ok k=true):Jo fl ok (k+1)=Jo fl ok k++[fl.getD k Sl.z]:=if_pos h
theorem selS_f{fl:List Sl}{ok:Nat->Bool}{k:Nat}(h:ok k=false):Jo fl ok (k+1)=Jo fl ok k:=if_neg (by rw [h];simp)
theorem Vh(fl:List Sl)(ok:Nat->Bool):∀k,(Jo fl ok k).length<=k
 | 0=>Nat.le_refl _
 | k+1=>by
  have:=Vh fl ok k
  unfold Jo;split
  ·rw [List.length_append,List.length_singleton];omega
  ·omega
theorem QK{fl:List Sl}{G:List Int->Bool}:∀k,k<=fl.length->A4 (Jo fl (λi=>G (fl.getD i Sl.z).2) k)=((A4 fl).take k).filter G
 | 0,_=>rfl
 | k+1,h=>by
  have ih:=QK (fl:=fl) (G:=G) k aA;have e:(A4 fl).take (k+1)=(A4 fl).take k++[(fl.getD k Sl.z).2]:=by rw [Ey [] (by rw [CA];omega),GA (l:=fl) aA]
  unfold Jo;rw [e,List.filter_append];by_cases q:G (fl.getD k Sl.z).2=true
  ·rw [if_pos q,NS,ih,List.filter_cons_of_pos q];rfl
  ·rw [if_neg q,ih,List.filter_cons_of_neg q,List.filter_nil,List.append_nil]
end Go.Ns
namespace Go.Ns
open Go.Conc
section
variable {P:Program} {M:Type} {F:NK P M} {i i':Option (Cp M)} {O:Nat->Value} {ds:List Deferred} {h:GH} {Q:Pm M}
theorem trI_ix{c:Code}(e:i=i')(x:Om F c i' O ds h Q):Om F c i O ds h Q:=e▸x
theorem Jp{ops:Array Oper}{l:List Oper}(e:i=i')(x:Gn F ops l i' O ds h Q):Gn F ops l i O ds h Q:=e▸x
theorem tr_of_trI{c:Code}{Q:Post}(x:Om F c none O ds h λi e O ds h=>i=none/\Q e O ds h):Tr ⟨F.W,F.fn,F.rd,F.N⟩ c O ds h Q:=by
 intro b k cs L t hb hr hl hs hc;refine x b k cs (λi=>match i with | none=>L | some _=>λ_ _ _ _=>False) t hb hr (λi=>?_) hs λi e σ' ds' h' q t' ht'=>?_
 ·cases i with
  | none=>exact hl
  | some s=>exact ⟨λ_ _ _ x=>x.elim,λ_ _ _ _ x=>x.elim,λ_ _ _ _ _ _ x=>x.elim⟩
 ·obtain ⟨rfl,q⟩:=q;exact hc e σ' ds' h' q t' ht'
theorem trI_end{c:Code}{Q:Post}(x:Tr (F.env none) c O ds h Q):Om F c none O ds h λi e O ds h=>i=none/\Q e O ds h:=
 JJ (Kx (λ_ _ _ _ q=>⟨rfl,q⟩) x)
variable {dst:Option Nat} {ty:TypeId} {pos:String} {af:Array Edge} {gd:Option (Nat×Bool)}
theorem QL{a x:Operand}{c:Nat}{v:Value}(ha:AQ O a=.chan (some c))(hx:AQ O x=v)(w:World):(execOp (AQ O) ⟨dst,.send a x,ty,pos,af,gd⟩).runT P w #[]=(.ok (.comm #[scase c v (.tuple #[])] true .send) w,#[]):=by
 subst hx;show (Result.ok (Next.comm #[{ chan:=AQ O a,send:=some (AQ O x),zero:=.tuple #[] }] true .send) w,#[])=_;rw [ha];rfl
theorem run_recv{a:Operand}{c:Nat}{t e:TypeId}{d:ChanDir}{ok:Bool}{z:Value}{inf:TypeInfo}(ht:P.underlying t=some (.chan d e))(hi:P.info? e=some inf)(hz:inf.zero=some z)(ha:AQ O a=.chan (some c))(w:World) :
  (execOp (AQ O) ⟨dst,.recv t a ok,ty,pos,af,gd⟩).runT P w #[]=(.ok (.comm #[rcase c z] true (.recv ok)) w,#[]):=by
 have h1:(zeroValue e).run P w=.ok z w:=by
  unfold zeroValue typeInfo;simp only [Sem.run_bind,program,hi];simp [Sem.run,hi,hz]
 have h2:(underlying t).run P w=.ok (.chan d e) w:=run_underlying ht w;rw [Sem.runT_eq];unfold execOp;simp [h1,h2,ha,rcase]
theorem NU{a:Operand}{c:Nat}{t e:TypeId}{d:ChanDir}{ok:Bool}{z:Value}(ht:P.underlying t=some (.chan d e))(hz:(P.info? e).map (·.zero)=some (some z))(ha:AQ O a=.chan (some c))(w:World) :
  (execOp (AQ O) ⟨dst,.recv t a ok,ty,pos,af,gd⟩).runT P w #[]=(.ok (.comm #[rcase c z] true (.recv ok)) w,#[]):=by
 obtain ⟨inf,hi,h2⟩:=Option.map_eq_some_iff.1 hz;exact run_recv ht hi h2 ha w
theorem XQ{x:Operand}{f:Fn}{cap:Array Value}{tys:Array TypeId}(hx:AQ O x=.func f #[] cap)(w:World):(execOp (AQ O) ⟨dst,.go ⟨.value x,#[],tys⟩,ty,pos,af,gd⟩).runT P w #[]=(.ok (.spawn { target:=.fn f cap,args:=#[] }) w,#[]):=by
 have e:resolve (AQ O) ⟨.value x,#[],tys⟩ ty=(pure { target:=.fn f cap,args:=#[] }:Sem Deferred):=by
  unfold resolve;simp only [hx,Deferred.ofValue];simp
 unfold execOp;simp only [e];rfl
variable {E:Gq P} {T:(Nat->Value)->List Deferred->GH->Prop}
theorem Ka{t e:TypeId}{d:ChanDir}{n:Operand}(ht:P.underlying t=some (.chan d e))(hi0:(P.info? e).isSome=true)(hn:AQ O n=.int .i64 0)
  (k:∀r h',h r=none->h.Le h'->h' r=some (true,.chan 0 #[] false 0 0 false)->(∀b,b≠r->h' b=h b)->T (putS O dst (.chan (some r))) ds h'):BQ E ⟨dst,.makeChan t n,ty,pos,af,gd⟩ O ds h T:=by
 unfold BQ execOp;refine F7 ?_;unfold Instr.makeChan;rw [hn];refine AD _ _ (Ar ?_);refine AD _ _ (Al ht ?_);simp only [];obtain ⟨inf,hi⟩:=Option.isSome_iff_exists.1 hi0;refine AD _ _ (Cl hi ?_);rw [if_neg (by simp [IntKind.max];decide)];refine AD _ _ ?_;exact λr hr=>k r _ hr (GH.Le.new hr _ _) (GH.set_same _ _ _ _) λb hb=>GH.set_ne _ _ _ hb
end
section
variable {P:Program} {F:NK P Dv} {i i':Option (Cp Dv)} {O:Nat->Value} {ds:List Deferred} {h:GH} {Q:Pm Dv} {ops:Array Oper} {o:Oper} {l:List Oper} {n:Nat} {cj co cd c m k:Nat} {ok:Nat->Bool} {R:List Nat} {z:Value}
theorem Jn.ix{X:Code}{args:Array Value}(e:i=i')(x:Jn F X args i' O h):Jn F X args i O h:=e▸x
theorem H7:Gn F ops l (some .never) O ds h Q:=λ_ _ _ _ _ _ _ _ _ _ _ _=>Ee.stop rfl
theorem GH.join_none(h:GH):h.join (λ_=>none)=h:=by
 funext b;unfold GH.join;cases h b <;> rfl
theorem Vi{s:Dv}{nx:Cp Dv}(hR:F.Rep=On n)(hg:o.guard=none)(hdf:C6 o.op=false)(hd:C3 o.dst F.N=true)(hr:∀w,(execOp (AQ O) o).runT P w #[]=(.ok (.comm #[scase c (tVal s) z] true .send) w,#[]))(hs:tOK n s)(hnx:¬nx.isDone)
  (x:Gn F ops l (some nx) (putS O o.dst undef) ds h Q):Gn F ops (o ::l) (some (.send c s nx)) O ds h Q:=
 Z7 hg hdf hd hr (GH.split_none h) (by rw [hR];exact ⟨rfl,hs,rfl⟩) hnx x
theorem NV{f:Option Dv->Cp Dv}{r:Bool}(hR:F.Rep=On n)(hg:o.guard=none)(hdf:C6 o.op=false)(hd:C3 o.dst F.N=true)(hr:∀w,(execOp (AQ O) o).runT P w #[]=(.ok (.comm #[rcase c z] true (.recv r)) w,#[]))(hnx:∀o,¬(f o).isDone)
  (x:∀s,tOK n s->Gn F ops l (some (f (some s))) (putS O o.dst (recvd r (tVal s) true)) ds h Q) (y:Gn F ops l (some (f none)) (putS O o.dst (recvd r z false)) ds h Q):Gn F ops (o ::l) (some (.recv c f)) O ds h Q:=
 Z8 hg hdf hd hr hnx (λs v hm hrep _=>by
  rw [hR] at hrep;obtain ⟨rfl,h2,rfl⟩:=hrep;rw [GH.join_none];exact x s h2) y
theorem Vj(hR:F.Rep=On n)(hg:o.guard=none)(hdf:C6 o.op=false)(hd:C3 o.dst F.N=true)(hr:∀w,(execOp (AQ O) o).runT P w #[]=(.ok (.comm #[rcase cj z] true (.recv true)) w,#[]))
  (x:∀i,i<n->Gn F ops l (some (.send co (.res i (ok i)) (Ft cj co cd ok m))) (putS O o.dst (.tuple #[.int .i64 i,.bool true])) ds h Q) (y:Gn F ops l (some (.send cd .tick .done)) (putS O o.dst (.tuple #[z,.bool false])) ds h Q) :
  Gn F ops (o ::l) (some (Ft cj co cd ok (m+1))) O ds h Q:=
 NV (f:=VM co cd ok (Ft cj co cd ok m)) hR hg hdf hd hr workF_not (λs hs=>by
  cases s with
  | job i=>exact x i hs
  | res i b=>exact H7
  | tick=>exact H7) y
theorem Vk(hR:F.Rep=On n)(hg:o.guard=none)(hdf:C6 o.op=false)(hd:C3 o.dst F.N=true)(hr:∀w,(execOp (AQ O) o).runT P w #[]=(.ok (.comm #[rcase cd z] true (.recv false)) w,#[]))(hk:k<3)
  (x:Gn F ops l (some (EW co cd (3-(k+1)))) (putS O o.dst (.bool true)) ds h Q):Gn F ops (o ::l) (some (EW co cd (3-k))) O ds h Q:=
 Jp (XP hk) (NV (f:=NL (EW co cd (3-(k+1)))) hR hg hdf hd hr XO (λs _=>by
  cases s with
  | job i=>exact H7
  | res i b=>exact H7
  | tick=>exact x) H7)
theorem trLI_main(hR:F.Rep=On n)(hg:o.guard=none)(hdf:C6 o.op=false)(hd:C3 o.dst F.N=true)(hr:∀w,(execOp (AQ O) o).runT P w #[]=(.ok (.comm #[rcase co z] true (.recv true)) w,#[]))
  (x:∀i,i<n->i ∈ R->Gn F ops l (some (Fu co ok m (R.erase i))) (putS O o.dst (.tuple #[.agg #[.int .i64 i,.bool (ok i)],.bool true])) ds h Q) (y:R=[]->Gn F ops l (some .stop) (putS O o.dst (.tuple #[z,.bool false])) ds h Q) :
  Gn F ops (o ::l) (some (Fu co ok (m+1) R)) O ds h Q:=
 NV (f:=Im ok R (Fu co ok m)) hR hg hdf hd hr mainF_not (λs hs=>by
  cases s with
  | job i=>exact H7
  | tick=>exact H7
  | res i b=>
   by_cases e:i ∈ R/\b=ok i
   ·obtain ⟨e1,rfl⟩:=e;exact Jp (show some (Im ok R (Fu co ok m) (some (.res i (ok i))))=some (Fu co ok m (R.erase i)) by unfold Im;simp [e1]) (x i hs e1)
   ·exact Jp (show some (Im ok R (Fu co ok m) (some (.res i b)))=some .never by show some (if i ∈ R/\b=ok i then _ else _)=_;rw [if_neg e]) H7) (by
  by_cases e:R=[]
  ·exact Jp (show some (Im ok R (Fu co ok m) none)=some .stop by unfold Im;rw [if_pos e]) (y e)
  ·exact Jp (show some (Im ok R (Fu co ok m) none)=some .never by unfold Im;rw [if_neg e]) H7)
end
theorem Bc.flags{h h':GH}{js:List AL}(s:h.Same h')(x:Bc h js):Bc h' js:=λk=>(x k).flags s
theorem Av.flags{h h':GH}{ns:List AM}(s:h.Same h')(x:Av h ns):Av h' ns:=λk=>(x k).flags s
theorem Hr.flags{h h':GH}{l:List Sl}(s:h.Same h')(a:Hr h l):Hr h' l:=λk=>(a k).flags s
theorem EX.flags{h h':GH}{r np:Nat}{ws:List AJ}{pq:List AF}(s:h.Same h')(x:EX h r np ws pq):EX h' r np ws pq:=by
 obtain ⟨pm,M,⟨es,clk,hb,hl⟩,hM⟩:=x;obtain ⟨p',hb'⟩:=s _ _ _ hb;exact ⟨p',M,⟨es,clk,hb',hl⟩,hM⟩
theorem tr_lays5{P:Program}{E:Gq P}{id:Nat}{a0 a1 a2 a3 a4:Oper}{rest:List Oper}{d0 d1 d2 d3:Nat}{O:Nat->Value}{ds:List Deferred}{h:GH}{Q:Post}(o0 o1 o2 o3:Obj)(o4:Nat->Obj)(v0 v1 v2 v3:Nat->Value)(hm:P.follows .mixedOrders=true)
  (ok:GV E.N (a0 ::a1 ::a2 ::a3 ::a4 ::rest) 5 [[],[],[],[],[0,2,3]]=true)
  (g0:a0.guard=none) (g1:a1.guard=none) (g2:a2.guard=none) (g3:a3.guard=none) (g4:a4.guard=none) (e0:a0.dst=some d0) (e1:a1.dst=some d1) (e2:a2.dst=some d2) (e3:a3.dst=some d3)
  (l0:∀σ' h',BQ E a0 σ' ds h' λσ'' ds'' h''=>ds''=ds/\∃r,σ''=putS σ' a0.dst (v0 r)/\h' r=none/\h'.Le h''/\h'' r=some (true,o0)) (l1:∀σ' h',BQ E a1 σ' ds h' λσ'' ds'' h''=>ds''=ds/\∃r,σ''=putS σ' a1.dst (v1 r)/\h' r=none/\h'.Le h''/\h'' r=some (true,o1))
  (l2:∀σ' h',BQ E a2 σ' ds h' λσ'' ds'' h''=>ds''=ds/\∃r,σ''=putS σ' a2.dst (v2 r)/\h' r=none/\h'.Le h''/\h'' r=some (true,o2)) (l3:∀σ' h',BQ E a3 σ' ds h' λσ'' ds'' h''=>ds''=ds/\∃r,σ''=putS σ' a3.dst (v3 r)/\h' r=none/\h'.Le h''/\h'' r=some (true,o3))
  (l4:∀r0 r2 σ' h',σ' d0=v0 r0->σ' d2=v2 r2->h' r2=some (true,o2)->BQ E a4 σ' ds h' λσ'' ds'' h''=>ds''=ds/\σ''=σ'/\h'' r2=some (true,o4 r0)/\∀b,b≠r2->h'' b=h' b)
  (fin:∀(r0 r1 r2 r3:Nat) σ' h',h.Le h'->(h r0=none/\h' r0=some (true,o0)/\σ' d0=v0 r0)->(h r1=none/\h' r1=some (true,o1)/\σ' d1=v1 r1)->(h r2=none/\h' r2=some (true,o4 r0)/\σ' d2=v2 r2)->(h r3=none/\h' r3=some (true,o3)/\σ' d3=v3 r3)->
   (r0≠r1/\r0≠r2/\r0≠r3/\r1≠r2/\r1≠r3/\r2≠r3)->(∀t,(Df (a0 ::a1 ::a2 ::a3 ::a4 ::rest) 5).contains t=false->σ' t=O t)->DL E (a0 ::a1 ::a2 ::a3 ::a4 ::rest).toArray rest σ' ds h' Q):Tr E (.region id (a0 ::a1 ::a2 ::a3 ::a4 ::rest).toArray true) O ds h Q:=by
 let l:=a0 ::a1 ::a2 ::a3 ::a4 ::rest;let obj:Nat->Obj:=λi=>match i with | 0=>o0 | 1=>o1 | 2=>o2 | _=>o3
 let val:Nat->Nat->Value:=λi=>match i with | 0=>v0 | 1=>v1 | 2=>v2 | _=>v3
 have lay:∀i o,i<4->l[i]? =some o->∀σ' h',BQ E o σ' ds h' λσ'' ds'' h''=>ds''=ds/\∃r,σ''=putS σ' o.dst (val i r)/\h' r=none/\h'.Le h''/\h'' r=some (true,obj i):=by
  intro i o hi ho σ' h';rcases i with _ | _ | _ | _ | i
  ·cases ho;exact l0 σ' h'
  ·cases ho;exact l1 σ' h'
  ·cases ho;exact l2 σ' h'
  ·cases ho;exact l3 σ' h'
  ·omega
 have nd:(Df l 5).Nodup:=by
  have:=ok
  unfold GV at this;simp only [Bool.and_eq_true] at this;exact of_decide_eq_true this.1.2
 refine U3 5 [[],[],[],[],[0,2,3]] (λD σ' h'=>h.Le h'/\(D 4=true->D 0=true/\D 2=true)/\∃rs:Nat->Nat,(∀i,i<4->D i=true->h (rs i)=none/\h' (rs i)=some (true,if i=2/\D 4=true then o4 (rs 0) else obj i)/\∀o d,l[i]? =some o->o.dst=some d->σ' d=val i (rs i))/\
  (∀i j,i<4->j<4->D i=true->D j=true->i≠j->rs i≠rs j)/\∀t,(Df l 5).contains t=false->σ' t=O t) hm ok ⟨GH.Le.refl _,(λe=>by cases e),λ_=>0,(λ_ _ q=>by cases q),(λ_ _ _ _ q=>by cases q),λ_ _=>rfl⟩ ?_ ?_
 ·rintro D σ' h' i o ⟨l1',hD4,rs,h1,h2,h3⟩ hi hD ho hcl _;have hgd:o.guard=none:=by
   rcases i with _ | _ | _ | _ | _ | i
   ·cases ho;exact g0
   ·cases ho;exact g1
   ·cases ho;exact g2
   ·cases ho;exact g3
   ·cases ho;exact g4
   ·omega
  refine ⟨λ_=>?_,λq=>absurd (by unfold DR;rw [hgd];trivial) q⟩;by_cases hi4:i=4
  ·subst hi4;have c0:D 0=true:=hcl 0 aD;have c2:D 2=true:=hcl 2 aD;cases ho;obtain ⟨q1,q2,q3⟩:=h1 0 aC c0;obtain ⟨p1,p2,p3⟩:=h1 2 aC c2;rw [if_neg (λe=>by rw [hD] at e;cases e.2)] at p2;refine (l4 (rs 0) (rs 2) σ' h' (q3 a0 d0 rfl e0) (p3 a2 d2 rfl e2) p2).mono λσ'' ds'' h'' q=>?_;obtain ⟨rfl,rfl,k1,k2⟩:=q;refine ⟨rfl,λb p x hb=>?_,λ_=>⟨by rw [Bi aC];exact c0,by rw [Bi aC];exact c2⟩,rs,λj hj hDj=>?_,λa b ha hb hDa hDb hab=>?_,h3⟩
   ·rw [k2 b λe=>by subst e;rw [p1] at hb;cases hb];exact l1' b p x hb
   ·rw [Bi aA] at hDj;obtain ⟨u1,u2,u3⟩:=h1 j hj hDj;refine ⟨u1,?_,u3⟩;by_cases ej:j=2
    ·subst ej;rw [if_pos ⟨rfl,if_pos rfl⟩];exact k1
    ·rw [if_neg (λe=>ej e.1),k2 _ (h2 j 2 hj aC hDj c2 ej)];rw [if_neg (λe=>ej e.1)] at u2;exact u2
   ·rw [Bi aA] at hDa hDb;exact h2 a b ha hb hDa hDb hab
  ·have hi':i<4:=aA
   refine (lay i o hi' ho σ' h').mono λσ'' ds'' h'' q=>?_;obtain ⟨rfl,r,rfl,hr,l2',hr2⟩:=q;have h4e:Hm D i 4=D 4:=Bi (λe=>hi4 e.symm);have hne:∀j,j<4->D j=true->rs j≠r:=λj hj hDj e=>by
    have:=(h1 j hj hDj).2.1
    rw [e,hr] at this;cases this
   refine ⟨rfl,l1'.trans l2',λe=>?_,λj=>if j=i then r else rs j,λj hj hDj=>?_,λa b ha hb hDa hDb hab=>?_,λt ht=>?_⟩
   ·rw [h4e] at e;obtain ⟨c0,c2⟩:=hD4 e;exact ⟨by rw [Bi (λq=>by subst q;rw [hD] at c0;cases c0)];exact c0,by rw [Bi (λq=>by subst q;rw [hD] at c2;cases c2)];exact c2⟩
   ·by_cases e:j=i
    ·subst e;dsimp only;rw [if_pos rfl];refine ⟨l1'.nothing hr,?_,λo' d ho' hd=>?_⟩
     ·rw [if_neg (λe=>by have e2:=e.2;rw [h4e] at e2;have e3:=(hD4 e2).2;rw [<-e.1,hD] at e3;cases e3)];exact hr2
     ·obtain rfl:o'=o:=Option.some.inj (ho'.symm.trans ho);rw [hd];exact upd_same _ _ _
    ·dsimp only;rw [if_neg e];rw [Bi e] at hDj;obtain ⟨q1,q2,q3⟩:=h1 j hj hDj;refine ⟨q1,?_,λo' d ho' hd=>by rw [Cx λd' hd'=>EK nd hi (aA:j<5) (λq=>e q.symm) ho ho' hd' hd];exact q3 o' d ho' hd⟩;rw [h4e];by_cases hc:j=2/\D 4=true
     ·rw [if_pos hc] at q2 ⊢;rw [if_neg (λq=>by have c0:=(hD4 hc.2).1;rw [q,hD] at c0;cases c0)];exact l2'.keep q2 rfl
     ·rw [if_neg hc] at q2 ⊢;exact l2'.keep q2 rfl
   ·show (if a=i then r else rs a)≠(if b=i then r else rs b);by_cases ea:a=i
    ·by_cases eb:b=i
     ·exact absurd (ea.trans eb.symm) hab
     ·rw [if_pos ea,if_neg eb];rw [Bi eb] at hDb;exact (hne b hb hDb).symm
    ·rw [Bi ea] at hDa;by_cases eb:b=i
     ·rw [if_neg ea,if_pos eb];exact hne a ha hDa
     ·rw [if_neg ea,if_neg eb];rw [Bi eb] at hDb;exact h2 a b ha hb hDa hDb hab
   ·rw [Cx (Hz hi ho ht)];exact h3 t ht
 ·rintro D σ' h' ⟨l1',hD4,rs,h1,h2,h3⟩ hall;have A:∀i,i<5->D i=true:=hall;have f0:=h1 0 aC (A 0 aC);have f1:=h1 1 aC (A 1 aC);have f2:=h1 2 aC (A 2 aC);have f3:=h1 3 aC (A 3 aC);rw [if_neg (λe=>by have:=e.1;omega)] at f0;rw [if_neg (λe=>by have:=e.1;omega)] at f1;rw [if_pos ⟨rfl,A 4 aC⟩] at f2;rw [if_neg (λe=>by have:=e.1;omega)] at f3;have ne:=λi j (hi:i<4) (hj:j<4)=>h2 i j hi hj (A i aA) (A j aA);exact fin (rs 0) (rs 1) (rs 2) (rs 3) σ' h' l1' ⟨f0.1,f0.2.1,f0.2.2 a0 d0 rfl e0⟩ ⟨f1.1,f1.2.1,f1.2.2 a1 d1 rfl e1⟩ ⟨f2.1,f2.2.1,f2.2.2 a2 d2 rfl e2⟩ ⟨f3.1,f3.2.1,f3.2.2 a3 d3 rfl e3⟩
   ⟨ne 0 1 aC aC aC,ne 0 2 aC aC aC,ne 0 3 aC aC aC,ne 1 2 aC aC aC,ne 1 3 aC aC aC,ne 2 3 aC aC aC⟩ h3
section
variable {h h' h0:GH} {r:Nat}
theorem GH.cut_ne{b:Nat}(e:b≠r):h.cut r b=h b:=if_neg e
theorem GH.Le.cut(l:h0.Le h)(n:h0 r=none):h0.Le (h.cut r):=λb p o hb=>by
 rw [GH.cut_ne λe=>by subst e;rw [n] at hb;cases hb];exact l b p o hb
theorem AO.cut{V:Type}{v:Value}{t:TypeId}{n:Nat}{enc:V->Array Value}{xs:List V}(x:AO h0 h v t n enc xs)(f:Ay v r):AO h0 (h.cut r) v t n enc xs:=
 x.keep λb o hb ho=>by rw [GH.cut_ne λe=>by subst e;exact f hb];exact ho
theorem AO.del'{V:Type}{v:Value}{t:TypeId}{n:Nat}{enc:V->Array Value}{xs:List V}(x:AO h0 h v t n enc xs)(f:Ay v r):AO h0 (h.del r) v t n enc xs:=
 x.keep λb o hb ho=>by rw [GH.del_ne λe=>by subst e;exact f hb];exact ho
theorem B5.keep3{X:Nat->Prop}{t0 T t:TypeId}{n l:Nat}{w v:Value}{p q:Bool}{c:Array Value}{f:Nat×Nat}{lo:Loop}{ys:List Sl}{hB:GH}{ys':List Int}(x:B5 h t0 v ys')(k:Bs X h h')(hX:∀b,X b->(b=r\/CW w=some b)\/b=l)(hr:h r=some (p,.cells c T f))(ow:AO hB h w t n H2 ys)(hl:h l=some (q,.loop lo))(n1:T≠t0)(n2:t≠t0):B5 h' t0 v ys':=
 x.keepX k λb hb q2=>by
  obtain ⟨p2,c2,f2,e⟩:=x.2 b hb;rcases hX b q2 with (rfl | q3) | rfl
  ·rw [hr] at e;cases e;exact n1 rfl
  ·rcases ow with ⟨rfl,_⟩ | ⟨b1,cap,c1,rfl,_,h2,_⟩
   ·cases q3
   ·simp only [CW,Option.some.injEq] at q3;subst q3;rw [h2] at e;cases e;exact n2 rfl
  ·rw [hl] at e;cases e
theorem Bs.mono{X Y:Nat->Prop}(k:Bs X h h')(s:∀b,X b->Y b):Bs Y h h':=λb p o hb hn=>k b p o hb λx=>hn (s b x)
end
theorem rounds_ok{n:Nat}{fl:List Sl}(h:A4 fl=DZ (Cv n))(hn:n<=4)(i:Nat):UN n (fl.getD i Sl.z).2:=by
 by_cases hi:i<fl.length
 ·refine KY (λx hx=>QH hx) (by rw [DN];exact hn) (r:=(fl.getD i Sl.z).2) ?_;rw [<-h,<-GA hi];exact Ba (by rw [CA];exact hi)
 ·rw [Be aA];exact ⟨λk hk=>absurd hk (Nat.not_lt_zero _),Nat.zero_le _⟩
theorem B5.storeD{h h':GH}{t:TypeId}{v:Value}{xs:List Int}{r:Nat}{p:Bool}{q:Option (List Deferred)}(x:B5 h t v xs)(hr:h r=some (p,.deferred q))(ho:∀b,b≠r->h' b=h b):B5 h' t v xs:=
 x.same λb hb=>ho b λe=>by
  obtain ⟨p2,c2,f2,z⟩:=x.2 b hb;rw [e,hr] at z;cases z
theorem Bb.storeD{h h':GH}{t:TypeId}{l:List Sl}{r:Nat}{p:Bool}{q:Option (List Deferred)}(x:Bb h t l)(hr:h r=some (p,.deferred q))(ho:∀b,b≠r->h' b=h b):Bb h' t l:=λk=>
 (x k).same λb hb=>ho b λe=>by
  obtain ⟨p2,c2,f2,z⟩:=(x k).2 b hb;rw [e,hr] at z;cases z
theorem selS_all{fl:List Sl}{G:List Int->Bool}{all:List (List Int)}{k:Nat}(h:A4 fl=all)(h1:k<=fl.length)(h2:fl.length<=k):A4 (Jo fl (λi=>G (fl.getD i Sl.z).2) k)=all.filter G:=by
 rw [QK k h1,List.take_of_length_le (by rw [CA];exact h2),h]
theorem Bb.sel{h:GH}{t:TypeId}{fl:List Sl}{ok:Nat->Bool}{k:Nat}(a:Bb h t fl):Bb h t (Jo fl ok k):=by
 induction k with
 | zero=>exact Bb.nil h t
 | succ k ih=>
  unfold Jo;split
  ·exact Bb.app ih (Bb.one (a k))
  ·exact ih
end Go.Ns
namespace Go.Ns
theorem UP{P:Program}{O:Nat->Value}{h:GH}{fn:Func}{R:Value->GH->Prop}{a u s:Tmp}{t:TypeId}{b off:Nat}{v v' v2:Value}(hr:fn.results=#[.tmp u,.cell a t,.tmp s])(hv:O u=v)(ha:O a=.pointer (some ⟨b,off,none⟩))(hv':Rd P h t b off v')(hv2:O s=v2)(x:R (.tuple #[v,v',v2]) h):GU P fn O R [] h:=by
 unfold GU;rw [hr];subst hv;subst hv2;exact ⟨b,off,v',ha,hv',x⟩
section
variable (np:Nat) (ws:List AJ) (js:List AL) (pq:List AF) (bag kinds:Int)
def IZ:List (List Int):=(DZ (Cv js.length)).filter (λq=>CG np ws js pq q bag kinds)
end
def O8(g:List (List Int))(x:List Int):List (List Int):=if 0<g.length/\(g.getD 0 []).length<x.length then [] else g
def O9(g:List (List Int))(x:List Int):List (List Int):=if g.length=0\/x.length=(g.getD 0 []).length then g++[x] else g
def Vl(g:List (List Int))(x:List Int):List (List Int):=O9 (O8 g x) x
def UQ(l:List (List Int)):Nat->List (List Int)
 | 0=>[]
 | k+1=>Vl (UQ l k) (l.getD k [])
def Hc(g:List Sl)(x:Sl):List Sl:=if 0<g.length/\(g.getD 0 Sl.z).2.length<x.2.length then [] else g
def Ia(g:List Sl)(x:Sl):List Sl:=if g.length=0\/x.2.length=(g.getD 0 Sl.z).2.length then g++[x] else g
def DC(g:List Sl)(x:Sl):List Sl:=Ia (Hc g x) x
def BH(l:List Sl):Nat->List Sl
 | 0=>[]
 | k+1=>DC (BH l k) (l.getD k Sl.z)
section
variable {l g:List Sl} {x:Sl} {k:Nat}
theorem QM(h0:0<g.length)(h1:(g.getD 0 Sl.z).2.length<x.2.length):DC g x=[x]:=by
 unfold DC Hc;rw [if_pos ⟨h0,h1⟩];rfl
theorem QN(h0:0<g.length)(h1:x.2.length=(g.getD 0 Sl.z).2.length):DC g x=g++[x]:=by
 unfold DC Hc;rw [if_neg (λe=>by have:=e.2;omega)];unfold Ia;rw [if_pos (.inr h1)]
theorem QO(h0:0<g.length)(h1:x.2.length<(g.getD 0 Sl.z).2.length):DC g x=g:=by
 unfold DC Hc;rw [if_neg (λe=>by have:=e.2;omega)];unfold Ia;rw [if_neg];rintro (e | e) <;> omega
theorem QP(h0:g.length=0):DC g x=g++[x]:=by
 unfold DC Hc;rw [if_neg (λe=>by have:=e.1;omega)];unfold Ia;rw [if_pos (.inl h0)]
theorem goodS_a(h0:0<(BH l k).length)(h1:((BH l k).getD 0 Sl.z).2.length<(l.getD k Sl.z).2.length):BH l (k+1)=[l.getD k Sl.z]:=QM h0 h1
theorem goodS_b(h0:0<(BH l k).length)(h1:(l.getD k Sl.z).2.length=((BH l k).getD 0 Sl.z).2.length):BH l (k+1)=BH l k++[l.getD k Sl.z]:=QN h0 h1
theorem goodS_c(h0:0<(BH l k).length)(h1:¬((BH l k).getD 0 Sl.z).2.length<(l.getD k Sl.z).2.length)(h2:¬(l.getD k Sl.z).2.length=((BH l k).getD 0 Sl.z).2.length):BH l (k+1)=BH l k:=QO h0 aA
theorem goodS_d(h0:(BH l k).length=0):BH l (k+1)=BH l k++[l.getD k Sl.z]:=QP h0
theorem goodS_t(h1:¬(0<(BH l k).length/\((BH l k).getD 0 Sl.z).2.length<(l.getD k Sl.z).2.length))(h2:(BH l k).length=0\/(l.getD k Sl.z).2.length=((BH l k).getD 0 Sl.z).2.length):BH l (k+1)=BH l k++[l.getD k Sl.z]:=by
 by_cases h0:(BH l k).length=0
 ·exact goodS_d h0
 ·exact goodS_b aA aA
theorem goodS_f(h1:¬(0<(BH l k).length/\((BH l k).getD 0 Sl.z).2.length<(l.getD k Sl.z).2.length))(h2:¬((BH l k).length=0\/(l.getD k Sl.z).2.length=((BH l k).getD 0 Sl.z).2.length)):BH l (k+1)=BH l k:=goodS_c aA aA aA
theorem Ib(g:List Sl)(x:Sl):DC g x=[x]\/DC g x=g++[x]\/(DC g x=g/\0<g.length):=by
 by_cases h0:g.length=0
 ·exact .inr (.inl (QP h0))
 ·by_cases h1:(g.getD 0 Sl.z).2.length<x.2.length
  ·exact .inl (QM aA h1)
  ·by_cases h2:x.2.length=(g.getD 0 Sl.z).2.length
   ·exact .inr (.inl (QN aA h2))
   ·exact .inr (.inr ⟨QO aA aA,aA⟩)
theorem goodS_pos:∀k,0<k->0<(BH l k).length
 | k+1,_=>by
  show 0<(DC (BH l k) (l.getD k Sl.z)).length;rcases Ib (BH l k) (l.getD k Sl.z) with e | e | ⟨e,h⟩ <;> rw [e]
  ·exact Nat.zero_lt_one
  ·rw [List.length_append];exact Nat.succ_pos _
  ·exact h
theorem S0:∀k,(BH l k).length<=k
 | 0=>Nat.le_refl _
 | k+1=>by
  have ih:=S0 k;show (DC (BH l k) (l.getD k Sl.z)).length<=_;rcases Ib (BH l k) (l.getD k Sl.z) with e | e | ⟨e,_⟩ <;> rw [e]
  ·simp
  ·rw [List.length_append,List.length_singleton];omega
  ·omega
theorem NW:∀k,k<=l.length->∀y ∈ BH l k,y ∈ l
 | 0,_,y,hy=>by cases hy
 | k+1,hk,y,hy=>by
  have ih:=NW k aA;have hx:l.getD k Sl.z ∈ l:=Ba aA;change y ∈ DC (BH l k) (l.getD k Sl.z) at hy;rcases Ib (BH l k) (l.getD k Sl.z) with e | e | ⟨e,_⟩ <;> rw [e] at hy
  ·rw [List.mem_singleton.1 hy];exact hx
  ·rcases List.mem_append.1 hy with hy | hy
   ·exact ih y hy
   ·rw [List.mem_singleton.1 hy];exact hx
  ·exact ih y hy
theorem OQ:∀k,k<=l.length->A4 (BH l k)=UQ (A4 l) k
 | 0,_=>rfl
 | k+1,hk=>by
  have ih:=OQ k aA;have hg:∀g:List Sl,(g.getD 0 Sl.z).2=(A4 g).getD 0 []:=λg=>by cases g <;> rfl
  show A4 (DC (BH l k) (l.getD k Sl.z))=Vl (UQ (A4 l) k) ((A4 l).getD k []);rw [<-ih,GA aA];have hc:A4 (Hc (BH l k) (l.getD k Sl.z))=O8 (A4 (BH l k)) (l.getD k Sl.z).2:=by
   unfold Hc O8;rw [hg,CA];split <;> rfl
  have ha:∀g:List Sl,A4 (Ia g (l.getD k Sl.z))=O9 (A4 g) (l.getD k Sl.z).2:=λg=>by
   unfold Ia O9;rw [hg,CA];split
   ·rw [NS];rfl
   ·rfl
  show A4 (Ia (Hc (BH l k) (l.getD k Sl.z)) (l.getD k Sl.z))=O9 (O8 (A4 (BH l k)) _) _;rw [ha,hc]
end
theorem Bb.good{h:GH}{t:TypeId}{l:List Sl}{k:Nat}(a:Bb h t l)(hk:k<=l.length):Bb h t (BH l k):=.of λx hx=>a.at (NW k hk x hx)
section
variable {np:Nat} {ws:List AJ} {js:List AL} {pq:List AF} {bag kinds:Int} {fs:List Sl}
theorem Ze(h:A4 fs=IZ np ws js pq bag kinds)(hn:js.length<=4):∀x ∈ fs,UN js.length x.2:=λx hx=>by
 have:x.2 ∈ A4 fs:=List.mem_map_of_mem hx
 rw [h] at this;exact KY (λy hy=>QH hy) (by rw [DN];exact hn) (List.mem_filter.1 this).1
theorem Vm(h:A4 fs=IZ np ws js pq bag kinds)(hn:js.length<=4)(i:Nat):UN js.length (fs.getD i Sl.z).2:=by
 by_cases hi:i<fs.length
 ·exact Ze h hn _ (Ba hi)
 ·rw [Be aA];exact ⟨λk hk=>absurd hk (Nat.not_lt_zero _),Nat.zero_le _⟩
theorem safe_nil(hb:0<=bag):CG np ws js pq [] bag kinds=true:=by
 unfold CG;have e:(Cb kinds js []).sum=0:=by
  show (List.replicate kinds.toNat (0:Int)).sum=0;generalize kinds.toNat=n
  induction n with
  | zero=>rfl
  | succ n ih=>rw [List.replicate_succ,List.sum_cons,ih];rfl
 rw [e,decide_eq_true hb];rfl
theorem XR(hb:0<=bag):0<(IZ np ws js pq bag kinds).length:=by
 refine List.length_pos_of_mem (a:=[]) (List.mem_filter.2 ⟨?_,safe_nil hb⟩);unfold DZ;rw [HP];exact List.mem_cons_self
theorem QQ(hn:js.length<=4):(IZ np ws js pq bag kinds).length<=625:=
 Nat.le_trans (List.length_filter_le _ _) (H6 (by rw [DN];exact hn))
theorem S1{G:List Int->Int}:∀(l:List (List Int)),0<l.length->∀k,k<=l.length-1->(EH G l k).1 ∈ l
 | l,h,0,_=>Ba h
 | l,h,k+1,hk=>by
  unfold EH;split
  ·exact List.mem_of_mem_drop (Ba (by rw [List.length_drop];omega))
  ·exact S1 l h k aA
theorem Mj{n:Nat}{G:List Int->Int}{l:List Sl}(h:∀x ∈ l,UN n x.2)(hl:0<l.length):UN n (Dp G (A4 l)):=by
 have:=S1 (G:=G) (A4 l) (by rw [CA];exact hl) ((A4 l).length-1) (Nat.le_refl _)
 obtain ⟨x,hx,e⟩:=List.mem_map.1 this;unfold Dp;rw [<-e];exact h x hx
end
section
variable (bag kinds:Int) (ps:List ByteArray) (ws:List AJ) (js:List AL) (ns:List AM)
def XS:List Int:=Dp (λl=>CX (λx=>A3 ps.length ws js x l) (AG ws js ns)) (UQ (IZ ps.length ws js (AG ws js ns) bag kinds) (IZ ps.length ws js (AG ws js ns) bag kinds).length)
def Lb:List Int:=if¬Ag bag kinds ps ws js ns 0=0 then [] else XS bag kinds ps ws js ns
end
section
variable {bag kinds:Int} {ps:List ByteArray} {ws:List AJ} {js:List AL} {ns:List AM} {fs:List Sl} {k:Nat}
theorem best_end(h:A4 fs=IZ ps.length ws js (AG ws js ns) bag kinds)(h1:k<=fs.length)(h2:fs.length<=k):XS bag kinds ps ws js ns=Dp (λl=>CX (λx=>A3 ps.length ws js x l) (AG ws js ns)) (A4 (BH fs k)):=by
 unfold XS;rw [OQ k h1,h,<-h,CA,show fs.length=k by omega]
theorem Vn(h0:¬¬Ag bag kinds ps ws js ns 0=0)(h:A4 fs=IZ ps.length ws js (AG ws js ns) bag kinds)(h1:k<=fs.length)(h2:fs.length<=k):Lb bag kinds ps ws js ns=Dp (λl=>CX (λx=>A3 ps.length ws js x l) (AG ws js ns)) (A4 (BH fs k)):=(if_neg h0).trans (best_end h h1 h2)
end
def UR(c:IF)(l:List Int):Nat->IF
 | 0=>c
 | i+1=>(UR c l i).set (l.getD i 0).toNat true
def G6(ls:List (List Int)):Nat->IF
 | 0=>IF.none
 | k+1=>UR (G6 ls k) (ls.getD k []) (ls.getD k []).length
def FG(c:IF):Nat->List Int
 | 0=>[]
 | q+1=>if c q=true then FG c q else FG c q++[(q:Int)]
theorem neverL_t{c:IF}{q:Nat}(h:c q=true):FG c (q+1)=FG c q:=if_pos h
theorem neverL_f{c:IF}{q:Nat}(h:c q=false):FG c (q+1)=FG c q++[(q:Int)]:=if_neg (by rw [h];simp)
theorem QR(c:IF):∀q,(FG c q).length<=q
 | 0=>Nat.le_refl _
 | q+1=>by
  have:=QR c q
  unfold FG;split
  ·omega
  ·rw [List.length_append,List.length_singleton];omega
section
variable (bag kinds:Int) (ps:List ByteArray) (ws:List AJ) (js:List AL) (ns:List AM)
def NX:List Int:=if¬Ag bag kinds ps ws js ns 0=0 then [] else FG (G6 (IZ ps.length ws js (AG ws js ns) bag kinds) (IZ ps.length ws js (AG ws js ns) bag kinds).length) js.length
end
section
variable {bag kinds:Int} {ps:List ByteArray} {ws:List AJ} {js:List AL} {ns:List AM} {fs:List Sl} {k q:Nat}
theorem inTo_next{i:Nat}(hk:k<fs.length)(h1:i<=(fs.getD k Sl.z).2.length)(h2:(fs.getD k Sl.z).2.length<=i):G6 (A4 fs) (k+1)=UR (G6 (A4 fs) k) (fs.getD k Sl.z).2 i:=by
 unfold G6;rw [GA hk,show (fs.getD k Sl.z).2.length=i by omega];cases k <;> rfl
theorem neverR_ok(h0:¬¬Ag bag kinds ps ws js ns 0=0)(h:A4 fs=IZ ps.length ws js (AG ws js ns) bag kinds)(h1:k<=fs.length)(h2:fs.length<=k)(h3:q<=js.length)(h4:js.length<=q):NX bag kinds ps ws js ns=FG (G6 (A4 fs) k) q:=
 (if_neg h0).trans (by rw [<-h,CA,show fs.length=k by omega,show js.length=q by omega])
end
end Go.Ns
namespace Go.Ns
theorem Vo{nj:Nat}{l:List Int}(h:Ah nj l=0):l.Nodup:=by
 rw [List.nodup_iff_pairwise_ne];rw [List.pairwise_iff_getElem];intro i j hi hj hij e;have h1:=Cy h j (Nat.zero_le _) aA;unfold H4 at h1;split at h1
 ·rename_i a;exact a h1
 ·split at h1
  ·cases h1
  ·rename_i a
   refine a (List.any_eq_true.2 ⟨l[i],List.mem_take_iff_getElem.2 ⟨i,aA,rfl⟩,?_⟩);rw [List.getD_eq_getElem?_getD,List.getElem?_eq_getElem hj];exact decide_eq_true e.symm
theorem OR{jobs:List Int}(nd:jobs.Nodup):∀(rest done:List Int),jobs=done++rest->jobs ∈ BR jobs rest.length done
 | [],done,e=>by rw [e,List.append_nil];exact List.mem_singleton.2 rfl
 | k ::rest,done,e=>by
  have ih:=OR nd rest (done++[k]) (by rw [e];simp);show jobs ∈ done ::jobs.flatMap _;refine List.mem_cons_of_mem _ (List.mem_flatMap.2 ⟨k,by rw [e];simp,?_⟩);have hn:I7 done k=false:=by
   cases hh:I7 done k with
   | false=>rfl
   | true=>
    exfalso;obtain ⟨x,hx,hk⟩:=List.any_eq_true.1 hh;have hk':k=x:=of_decide_eq_true hk;rw [e,List.nodup_append] at nd;exact nd.2.2 x hx k List.mem_cons_self hk'.symm
  rw [if_neg (by rw [hn];simp)];exact ih
def Zf(jobs:List Int)(n:Nat):List (List Int):=(DZ jobs).filter λq=>decide (q.length=n)
theorem fullR_pos{l:List Int}(nd:l.Nodup):0<(Zf (DK l) l.length).length:=by
 have hs:(DK l).Nodup:=by rw [MV];exact (List.mergeSort_perm l _).nodup_iff.2 nd
 have:=OR hs (DK l) [] rfl
 exact List.length_pos_of_mem (List.mem_filter.2 ⟨this,decide_eq_true (EF l)⟩)
section
variable (bag kinds:Int) (ps:List ByteArray) (ws:List AJ) (js:List AL) (ns:List AM) (l:List Int)
def swiftL:List Int:=Dp (λl=>CX (λx=>A3 ps.length ws js x l) (AG ws js ns)) (Zf (DK l) l.length)
def Jq:List Int:=if¬Ag bag kinds ps ws js ns (Ah js.length l)=0 then [] else swiftL ps ws js ns l
end
section
variable {bag kinds:Int} {ps:List ByteArray} {ws:List AJ} {js:List AL} {ns:List AM} {l:List Int} {fl:List Sl} {nj:Nat}
theorem S3(h0:¬¬Ag bag kinds ps ws js ns (Ah js.length l)=0)(h:A4 fl=Zf (DK l) l.length):Jq bag kinds ps ws js ns l=Dp (λl=>CX (λx=>A3 ps.length ws js x l) (AG ws js ns)) (A4 fl):=(if_neg h0).trans (by unfold swiftL;rw [h])
theorem full_ok(h:A4 fl=Zf (DK l) l.length)(hr:∀k,k<l.length->0<=l.getD k 0/\l.getD k 0<nj)(h4:l.length<=4):∀x ∈ fl,UN nj x.2:=λx hx=>by
 have:x.2 ∈ A4 fl:=List.mem_map_of_mem hx
 rw [h] at this;refine KY (λy hy=>?_) (by rw [EF];exact h4) (List.mem_filter.1 this).1;rw [MV,List.mem_mergeSort] at hy;obtain ⟨i,hi,e⟩:=List.mem_iff_getElem.1 hy
 have:=hr i hi
 rw [List.getD_eq_getElem?_getD,List.getElem?_eq_getElem hi,Option.getD_some,e] at this;exact this
end
end Go.Ns
namespace Go.Ns
def PV(h:GH)(t:TypeId)(f:Nat->Value)(L:Nat->List Int)(k:Nat):Prop:=∀i,i<k->B5 h t (f i) (L i)
section
variable {h h' h0:GH} {t t':TypeId} {f:Nat->Value} {L:Nat->List Int} {k r:Nat} {w v v':Value} {p:Bool} {c:Array Value} {g:Nat×Nat}
theorem PV.zero:PV h t f L 0:=λ_ hi=>absurd hi (Nat.not_lt_zero _)
theorem PV.le(x:PV h t f L k)(l:h.Le h'):PV h' t f L k:=λi hi=>(x i hi).le l
theorem PV.store(x:PV h t f L k)(hr:h r=some (p,.cells c t' g))(ne:t'≠t)(ho:∀b,b≠r->h' b=h b):PV h' t f L k:=λi hi=>(x i hi).store hr ne ho
theorem PV.next(x:PV h t f L k)(y:B5 h t w (L k)):PV h t (λi=>if i=k then w else f i) L (k+1):=λi hi=>by
 show B5 h t (if i=k then w else f i) (L i);by_cases e:i=k
 ·rw [if_pos e,e];exact y
 ·rw [if_neg e];exact x i aA
end
def AL.re(j:AL)(v:Value):AL:={ j with pv:=v }
def AM.re(j:AM)(v:Value):AM:={ j with wv:=v }
def EY(js:List AL)(f:Nat->Value)(k:Nat):List AL:=(List.range js.length).map λi=>if i<k then (js.getD i AL.z).re (f i) else js.getD i AL.z
def Eo(ns:List AM)(f:Nat->Value)(k:Nat):List AM:=(List.range ns.length).map λi=>if i<k then (ns.getD i AM.z).re (f i) else ns.getD i AM.z
section
variable {V:Type} {z:V} {l:List V} {F:Nat->V->V} {k:Nat}
def reL(z:V)(l:List V)(F:Nat->V->V)(k:Nat):List V:=(List.range l.length).map λi=>if i<k then F i (l.getD i z) else l.getD i z
theorem LA:(reL z l F k).length=l.length:=by unfold reL;rw [List.length_map,List.length_range]
theorem HQ{i:Nat}(hi:i<l.length):(reL z l F k).getD i z=if i<k then F i (l.getD i z) else l.getD i z:=by
 unfold reL;rw [List.getD_eq_getElem?_getD,List.getElem?_map,List.getElem?_range hi];rfl
theorem US{i:Nat}(hi:i<(reL z l F k).length):(reL z l F k)[i]=if i<k then F i (l.getD i z) else l.getD i z:=by
 have e:=HQ (z:=z) (F:=F) (k:=k) (show i<l.length by rw [<-LA (z:=z) (F:=F) (k:=k)];exact hi);rw [List.getD_eq_getElem?_getD,List.getElem?_eq_getElem hi] at e;exact e
theorem reL_0:reL z l F 0=l:=by
 refine List.ext_getElem LA λi h1 h2=>?_;rw [US,if_neg (Nat.not_lt_zero _),List.getD_eq_getElem?_getD,List.getElem?_eq_getElem h2];rfl
theorem Zg{G:Nat->V->V}(hk:k<l.length)(hG:∀i,i<k->∀x,G i x=F i x):(reL z l F k).set k (G k ((reL z l F k).getD k z))=reL z l G (k+1):=by
 rw [HQ hk,if_neg (Nat.lt_irrefl _)];refine List.ext_getElem (by rw [List.length_set,LA,LA]) λi h1 h2=>?_;rw [List.getElem_set,US];by_cases e:k=i
 ·subst e;rw [if_pos rfl,US,if_pos aA]
 ·rw [if_neg e,US];by_cases e2:i<k
  ·rw [if_pos e2,if_pos aA,hG i e2]
  ·rw [if_neg e2,if_neg aA]
end
section
variable {h:GH} {t:TypeId} {f:Nat->Value} {js:List AL} {ns:List AM} {k:Nat} {w:Value}
theorem NY:EY js f k=reL AL.z js (λi j=>j.re (f i)) k:=rfl
theorem NZ:Eo ns f k=reL AM.z ns (λi j=>j.re (f i)) k:=rfl
theorem Io(js:List AL)(f:Nat->Value)(k:Nat):(EY js f k).length=js.length:=by rw [NY];exact LA
theorem Jr(ns:List AM)(f:Nat->Value)(k:Nat):(Eo ns f k).length=ns.length:=by rw [NZ];exact LA
theorem reJ_0:EY js f 0=js:=by rw [NY];exact reL_0
theorem reN_0:Eo ns f 0=ns:=by rw [NZ];exact reL_0
theorem reJ_put(hk:k<js.length):(EY js f k).set k (((EY js f k).getD k AL.z).re w)=EY js (λi=>if i=k then w else f i) (k+1):=by
 have:=Zg (z:=AL.z) (l:=js) (F:=λi j=>j.re (f i)) (G:=λi j=>j.re (if i=k then w else f i)) hk (λi hi x=>by rw [if_neg aA])
 rw [if_pos rfl] at this;exact this
theorem reN_put(hk:k<ns.length):(Eo ns f k).set k (((Eo ns f k).getD k AM.z).re w)=Eo ns (λi=>if i=k then w else f i) (k+1):=by
 have:=Zg (z:=AM.z) (l:=ns) (F:=λi j=>j.re (f i)) (G:=λi j=>j.re (if i=k then w else f i)) hk (λi hi x=>by rw [if_neg aA])
 rw [if_pos rfl] at this;exact this
theorem S4(js:List AL)(f:Nat->Value)(k i:Nat):((EY js f k).getD i AL.z).parts=(js.getD i AL.z).parts:=by
 by_cases hi:i<js.length
 ·rw [NY,HQ hi];split <;> rfl
 ·rw [Be (by rw [Io];omega),Be aA]
theorem Vp(ns:List AM)(f:Nat->Value)(k i:Nat):((Eo ns f k).getD i AM.z).ways=(ns.getD i AM.z).ways:=by
 by_cases hi:i<ns.length
 ·rw [NZ,HQ hi];split <;> rfl
 ·rw [Be (by rw [Jr];omega),Be aA]
theorem Bc.re(x:Bc h js)(y:PV h t f (λi=>(js.getD i AL.z).parts) k):Bc h (EY js f k):=λi=>by
 by_cases hi:i<js.length
 ·rw [NY,HQ hi];by_cases e:i<k
  ·rw [if_pos e];exact (y i e).1
  ·rw [if_neg e];exact x i
 ·rw [Be (by rw [Io];omega)];exact AH.nil _ _ _
theorem Av.re(x:Av h ns)(y:PV h t f (λi=>(ns.getD i AM.z).ways) k):Av h (Eo ns f k):=λi=>by
 by_cases hi:i<ns.length
 ·rw [NZ,HQ hi];by_cases e:i<k
  ·rw [if_pos e];exact (y i e).1
  ·rw [if_neg e];exact x i
 ·rw [Be (by rw [Jr];omega)];exact AH.nil _ _ _
def Cn(h:GH)(t:TypeId)(js:List AL):Prop:=∀k,B5 h t (js.getD k AL.z).pv (js.getD k AL.z).parts
def Dh(h:GH)(t:TypeId)(ns:List AM):Prop:=∀k,B5 h t (ns.getD k AM.z).wv (ns.getD k AM.z).ways
theorem Cn.jobs(x:Cn h t js):Bc h js:=λk=>(x k).1
theorem Dh.notes(x:Dh h t ns):Av h ns:=λk=>(x k).1
theorem Cn.le{h':GH}(x:Cn h t js)(l:h.Le h'):Cn h' t js:=λk=>(x k).le l
theorem Dh.le{h':GH}(x:Dh h t ns)(l:h.Le h'):Dh h' t ns:=λk=>(x k).le l
theorem Cn.store{h':GH}{t':TypeId}{r:Nat}{p:Bool}{c:Array Value}{g:Nat×Nat}(x:Cn h t js)(hr:h r=some (p,.cells c t' g))(ne:t'≠t)(ho:∀b,b≠r->h' b=h b):Cn h' t js:=λk=>(x k).store hr ne ho
theorem Dh.store{h':GH}{t':TypeId}{r:Nat}{p:Bool}{c:Array Value}{g:Nat×Nat}(x:Dh h t ns)(hr:h r=some (p,.cells c t' g))(ne:t'≠t)(ho:∀b,b≠r->h' b=h b):Dh h' t ns:=λk=>(x k).store hr ne ho
theorem Cn.of(y:PV h t f (λi=>(js.getD i AL.z).parts) k)(hk:js.length<=k):Cn h t (EY js f k):=λi=>by
 by_cases hi:i<js.length
 ·rw [NY,HQ hi,if_pos aA];exact y i aA
 ·rw [Be (by rw [Io];omega)];exact B5.nil _ _
theorem Dh.of(y:PV h t f (λi=>(ns.getD i AM.z).ways) k)(hk:ns.length<=k):Dh h t (Eo ns f k):=λi=>by
 by_cases hi:i<ns.length
 ·rw [NZ,HQ hi,if_pos aA];exact y i aA
 ·rw [Be (by rw [Jr];omega)];exact B5.nil _ _
theorem Bc.fine1(x:Bc h js)(k:Nat):(Cd (js.getD k AL.z)).toList.all (·.oneCell')=true:=by
 show (true && (true && (true && (true && (((js.getD k AL.z).pv.oneCell') && true)))))=true;rw [(AH.one (x k)).2];rfl
theorem Bc.fine(x:Bc h js):∀y ∈ js,(Cd y).toList.all (·.oneCell')=true:=λy hy=>by
 obtain ⟨i,hi,e⟩:=List.mem_iff_getElem.1 hy
 have:=x.fine1 i
 rw [List.getD_eq_getElem?_getD,List.getElem?_eq_getElem hi] at this;rw [<-e];exact this
theorem Av.snoc{x:AM}(a:Av h ns)(b:AH h x.wv 1 eI x.ways):Av h (ns++[x]):=λk=>by
 rw [Gf];split
 ·exact a k
 ·cases hk:k-ns.length with
  | zero=>exact b
  | succ n=>rw [Be aD];exact AH.nil _ _ _
end
theorem BO.copy{bag kinds:Int}{ps:List ByteArray}{ws:List AJ}{js:List AL}{ns:List AM}(b:BO bag kinds ps ws js ns):(∀i,(js.getD i AL.z).parts.length<=1000)/\∀i,(ns.getD i AM.z).ways.length<=1000:=by
 refine ⟨λi=>?_,λi=>Nat.le_trans (P2 b.note i).1 aC⟩;by_cases hi:i<js.length
 ·have:=(Pw (b.job i hi)).len
  have:=b.hkin
  omega
 ·rw [Be aA];exact Nat.zero_le _
end Go.Ns
namespace Go.Ns
section
variable {P:Program} {E:Gq P} {O:Nat->Value} {ds:List Deferred} {h:GH} {T:(Nat->Value)->List Deferred->GH->Prop} {dst:Option Nat} {ty:TypeId} {pos:String} {af:Array Edge} {gd:Option (Nat×Bool)}
theorem XT{s:ByteArray}{i:Nat}(h:i<s.size):((s[i]'h).toNat:Int)=(bytesOf s).getD i 0:=by
 have h2:i<(bytesOf s).length:=by rw [Cr];exact h
 rw [EE 0 h2];exact (List.getElem_map (l:=s.data.toList) (f:=λb=>(b.toNat:Int)) (h:=h2)).symm
theorem QS{t:TypeId}{x ix:Operand}{s:ByteArray}{kd:IntKind}{i:Int}(ht:PK P t=true)(hx:AQ O x=.string s)(hi:AQ O ix=.int kd i)(h0:0<=i)(h1:i<s.size)(k:T (putS O dst (.int .u8 ((bytesOf s).getD i.toNat 0))) ds h) :
  BQ E ⟨dst,.index t x ix,ty,pos,af,gd⟩ O ds h T:=SR ht hx hi h0 h1 (by rw [XT];exact k)
end
theorem Vq{s:ByteArray}(h:¬(1<=(s.size:Int)/\(s.size:Int)<=10)):Dm s=false:=by unfold Dm;rw [decide_eq_false h,Bool.and_false]
theorem Vr{a b:List UInt8}{v:Bool}(h:(a==b)=v):(b==a)=v:=by rw [<-h];exact BEq.comm
def I8(l:List Int)(k:Nat)(p q:Int):List Int:=if p=l.getD k 0/\¬q ∈ l then l++[q] else l
def DD(l:List Int)(k:Nat)(x:AJ):List Int:=I8 (I8 l k x.a x.b) k x.b x.a
def Ai(ws:List AJ)(l:List Int)(k:Nat):Nat->List Int
 | 0=>l
 | j+1=>DD (Ai ws l k j) k (ws.getD j AJ.z)
def Ax(ws:List AJ):Nat->List Int
 | 0=>[0]
 | k+1=>if k<(Ax ws k).length then Ai ws (Ax ws k) k ws.length else Ax ws k
def Hq(ws:List AJ):List Int:=Ax ws 4
def Ic(np:Nat)(l:List Int):Prop:=l.Nodup/\(∀x ∈ l,0<=x/\x<np)/\0<l.length
def QT(np:Nat)(ws:List AJ):Prop:=∀k,k<ws.length->(0<=(ws.getD k AJ.z).a/\(ws.getD k AJ.z).a<np)/\0<=(ws.getD k AJ.z).b/\(ws.getD k AJ.z).b<np
section
variable {np:Nat} {l:List Int} {ws:List AJ} {k j:Nat} {x:Int} {w:AJ}
theorem Ic.len(h:Ic np l):l.length<=np:=by
 refine XH np l.length (λk=>(l.getD k 0).toNat) (λi hi=>?_) λi j hij hj=>?_
 ·have:=h.2.1 _ (Ba (d:=(0:Int)) hi)
  show (l.getD i 0).toNat<np;omega
 ·have h1:=h.2.1 _ (Ba (d:=(0:Int)) hj);have h2:=h.2.1 _ (Ba (d:=(0:Int)) (show i<l.length by omega));show (l.getD i 0).toNat≠(l.getD j 0).toNat;intro e;have e2:l.getD i 0=l.getD j 0:=aA
  rw [List.getD_eq_getElem?_getD,List.getD_eq_getElem?_getD,List.getElem?_eq_getElem aA,List.getElem?_eq_getElem hj,Option.getD_some,Option.getD_some] at e2
  have:=(List.pairwise_iff_getElem.1 (List.nodup_iff_pairwise_ne.1 h.1)) i j aA hj hij
  exact this e2
theorem Ic.snoc(h:Ic np l)(hx:0<=x/\x<np)(n:¬x ∈ l):Ic np (l++[x]):=
 ⟨List.nodup_append.2 ⟨h.1,aD,λa ha b hb e=>by rw [List.mem_singleton.1 hb] at e;exact n (e▸ha)⟩,λy hy=>by
  rcases List.mem_append.1 hy with hy | hy
  ·exact h.2.1 y hy
  ·rw [List.mem_singleton.1 hy];exact hx,aD⟩
theorem Ml{p q:Int}(h1:p=l.getD k 0)(h2:¬q ∈ l):I8 l k p q=l++[q]:=if_pos ⟨h1,h2⟩
theorem Mm{p q:Int}(h:¬(p=l.getD k 0/\¬q ∈ l)):I8 l k p q=l:=if_neg h
theorem rs_tt(h1:w.a=l.getD k 0/\¬w.b ∈ l)(h2:w.b=(l++[w.b]).getD k 0/\¬w.a ∈ l++[w.b]):DD l k w=l++[w.b]++[w.a]:=by unfold DD;rw [Ml h1.1 h1.2,Ml h2.1 h2.2]
theorem rs_tf(h1:w.a=l.getD k 0/\¬w.b ∈ l)(h2:¬(w.b=(l++[w.b]).getD k 0/\¬w.a ∈ l++[w.b])):DD l k w=l++[w.b]:=by unfold DD;rw [Ml h1.1 h1.2,Mm h2]
theorem rs_ft(h1:¬(w.a=l.getD k 0/\¬w.b ∈ l))(h2:w.b=l.getD k 0/\¬w.a ∈ l):DD l k w=l++[w.a]:=by unfold DD;rw [Mm h1,Ml h2.1 h2.2]
theorem rs_ff(h1:¬(w.a=l.getD k 0/\¬w.b ∈ l))(h2:¬(w.b=l.getD k 0/\¬w.a ∈ l)):DD l k w=l:=by unfold DD;rw [Mm h1,Mm h2]
theorem S5{p q:Int}(h:Ic np l)(hq:0<=q/\q<np):Ic np (I8 l k p q):=by
 unfold I8;split
 ·rename_i c;exact h.snoc hq c.2
 ·exact h
theorem L3(l:List Int)(k:Nat)(p q:Int):l<+:I8 l k p q:=by
 unfold I8;split
 ·exact List.prefix_append _ _
 ·exact List.prefix_refl _
theorem UT(h:Ic np l)(ha:0<=w.a/\w.a<np)(hb:0<=w.b/\w.b<np):Ic np (DD l k w):=S5 (S5 h hb) ha
theorem R2(l:List Int)(k:Nat)(w:AJ):l<+:DD l k w:=(L3 _ _ _ _).trans (L3 _ _ _ _)
theorem Js(h:Ic np l)(hw:QT np ws):∀j,j<=ws.length->Ic np (Ai ws l k j)
 | 0,_=>h
 | j+1,hj=>UT (Js h hw j aA) (hw j aA).1 (hw j aA).2
theorem I9:∀j,l<+:Ai ws l k j
 | 0=>List.prefix_refl _
 | j+1=>(I9 j).trans (R2 _ _ _)
theorem LB(hn:0<np)(hw:QT np ws):∀k,Ic np (Ax ws k)
 | 0=>⟨by simp [Ax],λx hx=>by rw [List.mem_singleton.1 hx];omega,Nat.zero_lt_one⟩
 | k+1=>by
  unfold Ax;split
  ·exact Js (LB hn hw k) hw _ (Nat.le_refl _)
  ·exact LB hn hw k
theorem OS(hk:k<(Ax ws k).length):Ax ws (k+1)=Ai ws (Ax ws k) k ws.length:=if_pos hk
theorem OT(hk:(Ax ws k).length<=k):∀m,k<=m->Ax ws m=Ax ws k
 | 0,h=>by rw [show k=0 by omega]
 | m+1,h=>by
  by_cases e:m+1=k
  ·rw [e]
  ·have ih:=OT hk m aA
   have:Ax ws (m+1)=Ax ws m:=by
    conv=>lhs;unfold Ax
    rw [if_neg (by rw [ih];omega)]
   rw [this,ih]
theorem reach_end(hk:(Ax ws k).length<=k)(hk4:k<=4):Hq ws=Ax ws k:=OT hk 4 hk4
end
def Fw(np:Nat)(ws:List AJ):Int:=if (5:Int)<ws.length then 2 else if¬C2 (DP np ws) 0 ws.length=0 then C2 (DP np ws) 0 ws.length else if (Hq ws).length<np then 8 else 0
def D7(bag kinds:Int)(ps:List ByteArray)(ws:List AJ)(js:List AL)(ns:List AM):Int:=
 if¬HK bag kinds=0 then HK bag kinds else if¬BM ps=0 then BM ps else if¬Fw ps.length ws=0 then Fw ps.length ws else if¬Br ps.length kinds js=0 then Br ps.length kinds js else Ce ws.length ns
section
variable {V:Type} {p:V->Bool} {l:List V} {d:V} {k j:Nat}
theorem L4(hk:k<l.length)(e:p (l.getD k d)=true):l.any p=true:=List.any_eq_true.2 ⟨_,Ba hk,e⟩
theorem Jt(h:(l.take k).any p=false)(hk:l.length<=k):l.any p=false:=by rwa [List.take_of_length_le hk] at h
theorem any_take(hj:j<k)(hk:k<=l.length)(e:p (l.getD j d)=true):(l.take k).any p=true:=by
 refine L4 (k:=j) (d:=d) (by rw [List.length_take];omega) ?_;rw [List.getD_eq_getElem?_getD,List.getElem?_take,if_pos hj,<-List.getD_eq_getElem?_getD];exact e
end
section
variable {np nw:Nat} {ws:List AJ} {js:List AL} {ns:List AM} {k:Nat} {kinds:Int}
theorem Mn{a b:Int}(ha:0<=a/\a<=(np:Int)-1)(hb:0<=b/\b<=(np:Int)-1):Bw np [a,b]=0:=by
 have h0:Ek np [a,b] 0=0:=if_neg (λe=>e ha);have h1:Ek np [a,b] 1=0:=if_neg (λe=>e hb);show C2 (Ek np [a,b]) 0 2=0;simp [C2,h0,h1]
theorem miss_no{a b:Int}(h:¬(0<=a/\a<=(np:Int)-1)\/¬(0<=b/\b<=(np:Int)-1)):Bw np [a,b]=6:=by
 show C2 (Ek np [a,b]) 0 2=6;by_cases ha:0<=a/\a<=(np:Int)-1
 ·have h0:Ek np [a,b] 0=0:=if_neg (λe=>e ha);have h1:Ek np [a,b] 1=6:=if_pos (h.resolve_left λe=>e ha);simp [C2,h0,h1]
 ·have h0:Ek np [a,b] 0=6:=if_pos ha;simp [C2,h0]
theorem QU{a:Int}(ha:0<=a/\a<=(np:Int)-1):Bw np [a]=0:=by
 have h0:Ek np [a] 0=0:=if_neg (λe=>e ha);show C2 (Ek np [a]) 0 1=0;simp [C2,h0]
theorem miss_no1{a:Int}(ha:¬(0<=a/\a<=(np:Int)-1)):Bw np [a]=6:=by
 have h0:Ek np [a] 0=6:=if_pos ha;show C2 (Ek np [a]) 0 1=6;simp [C2,h0]
variable (ws k) in
def waP(np:Nat):Prop:=(0<=(ws.getD k AJ.z).a/\(ws.getD k AJ.z).a<=(np:Int)-1)/\(0<=(ws.getD k AJ.z).b/\(ws.getD k AJ.z).b<=(np:Int)-1)
theorem wy6(h:¬(0<=(ws.getD k AJ.z).a/\(ws.getD k AJ.z).a<=(np:Int)-1)\/¬(0<=(ws.getD k AJ.z).b/\(ws.getD k AJ.z).b<=(np:Int)-1)):DP np ws k=6:=by
 unfold DP;rw [miss_no h,if_pos aC]
theorem wyP(h:¬(¬(0<=(ws.getD k AJ.z).a/\(ws.getD k AJ.z).a<=(np:Int)-1)\/¬(0<=(ws.getD k AJ.z).b/\(ws.getD k AJ.z).b<=(np:Int)-1))):waP ws k np:=⟨Decidable.byContradiction λe=>h (.inl e),Decidable.byContradiction λe=>h (.inr e)⟩
theorem wy7(h:waP ws k np)(h2:(ws.getD k AJ.z).b<=(ws.getD k AJ.z).a):DP np ws k=7:=by
 unfold DP;rw [Mn h.1 h.2,if_neg aD,if_pos h2]
theorem wy5(h:waP ws k np)(h2:¬(ws.getD k AJ.z).b<=(ws.getD k AJ.z).a)(h3:(ws.take k).any (λy=>decide (y.a=(ws.getD k AJ.z).a/\y.b=(ws.getD k AJ.z).b))=true):DP np ws k=5:=by
 unfold DP;rw [Mn h.1 h.2,if_neg aD,if_neg h2,if_pos h3]
theorem wy1(h:waP ws k np)(h2:¬(ws.getD k AJ.z).b<=(ws.getD k AJ.z).a)(h3:(ws.take k).any (λy=>decide (y.a=(ws.getD k AJ.z).a/\y.b=(ws.getD k AJ.z).b))=false)(h4:¬(((0<=(ws.getD k AJ.z).low/\(ws.getD k AJ.z).low<=(ws.getD k AJ.z).high)/\(ws.getD k AJ.z).high<=30)/\(ws.getD k AJ.z).high-(ws.getD k AJ.z).low<2)):DP np ws k=1:=by
 unfold DP;rw [Mn h.1 h.2,if_neg aD,if_neg h2,if_neg (by rw [h3];simp)];exact if_pos h4
theorem wy0(h:waP ws k np)(h2:¬(ws.getD k AJ.z).b<=(ws.getD k AJ.z).a)(h3:(ws.take k).any (λy=>decide (y.a=(ws.getD k AJ.z).a/\y.b=(ws.getD k AJ.z).b))=false)(h4:(((0<=(ws.getD k AJ.z).low/\(ws.getD k AJ.z).low<=(ws.getD k AJ.z).high)/\(ws.getD k AJ.z).high<=30)/\(ws.getD k AJ.z).high-(ws.getD k AJ.z).low<2)):DP np ws k=0:=by
 unfold DP;rw [Mn h.1 h.2,if_neg aD,if_neg h2,if_neg (by rw [h3];simp)];exact if_neg (λe=>e h4)
theorem waysOK(h:∀k,k<ws.length->DP np ws k=0):QT np ws:=λk hk=>by
 have:=h k hk
 unfold DP at this;split at this
 ·rename_i a;exact absurd this a
 ·rename_i a
  have q:=Fv (Decidable.not_not.1 a);have q1:=q _ List.mem_cons_self;have q2:=q _ (List.mem_cons_of_mem _ List.mem_cons_self);omega
theorem rw2(h:(5:Int)<ws.length):Fw np ws=2:=if_pos h
theorem UU{c:Int}(h5:¬(5:Int)<ws.length)(hs:∀j,j<k->DP np ws j=0)(hk:k<ws.length)(e:DP np ws k=c)(hc:c≠0):Fw np ws=c:=by
 have h1:=BL hs hk e hc;rw [Fw,if_neg h5,h1,if_pos hc]
theorem rw8(h5:¬(5:Int)<ws.length)(hs:∀j,j<k->DP np ws j=0)(hk:ws.length<=k)(h:((Hq ws).length:Int)<np):Fw np ws=8:=by
 rw [Fw,if_neg h5,BS hs hk,if_neg aD,if_pos aA]
theorem rw0(h5:¬(5:Int)<ws.length)(hs:∀j,j<k->DP np ws j=0)(hk:ws.length<=k)(h:¬((Hq ws).length:Int)<np):Fw np ws=0:=by
 rw [Fw,if_neg h5,BS hs hk,if_neg aD,if_neg aA]
theorem jb6(h:¬(0<=(js.getD k AL.z).place/\(js.getD k AL.z).place<=(np:Int)-1)):FB np kinds js k=6:=by
 unfold FB;rw [miss_no1 h,if_pos aC]
theorem jb1(h:0<=(js.getD k AL.z).place/\(js.getD k AL.z).place<=(np:Int)-1)(h2:¬(((0<=(js.getD k AL.z).low/\(js.getD k AL.z).low<=(js.getD k AL.z).high)/\(js.getD k AL.z).high<=30)/\(js.getD k AL.z).high-(js.getD k AL.z).low<2)\/¬(0<=(js.getD k AL.z).due/\(js.getD k AL.z).due<=200)):FB np kinds js k=1:=by
 unfold FB;rw [QU h,if_neg aD];exact if_pos h2
theorem jb2(h:0<=(js.getD k AL.z).place/\(js.getD k AL.z).place<=(np:Int)-1)(h2:¬(¬(((0<=(js.getD k AL.z).low/\(js.getD k AL.z).low<=(js.getD k AL.z).high)/\(js.getD k AL.z).high<=30)/\(js.getD k AL.z).high-(js.getD k AL.z).low<2)\/¬(0<=(js.getD k AL.z).due/\(js.getD k AL.z).due<=200)))(h3:¬((js.getD k AL.z).parts.length:Int)=kinds):FB np kinds js k=2:=by
 unfold FB;rw [QU h,if_neg aD];exact (if_neg h2).trans (if_pos h3)
theorem jb3(h:0<=(js.getD k AL.z).place/\(js.getD k AL.z).place<=(np:Int)-1)(h2:¬(¬(((0<=(js.getD k AL.z).low/\(js.getD k AL.z).low<=(js.getD k AL.z).high)/\(js.getD k AL.z).high<=30)/\(js.getD k AL.z).high-(js.getD k AL.z).low<2)\/¬(0<=(js.getD k AL.z).due/\(js.getD k AL.z).due<=200)))(h3:((js.getD k AL.z).parts.length:Int)=kinds):FB np kinds js k=if (js.getD k AL.z).parts.any (λn=>decide (¬(0<=n/\n<=5))) then 1 else 0:=by
 unfold FB;rw [QU h,if_neg aD];exact (if_neg h2).trans (if_neg (λe=>e h3))
theorem nt2(h:(5:Int)<(ns.getD k AM.z).ways.length):D6 nw ns k=2:=if_pos h
theorem nt6(h:¬(5:Int)<(ns.getD k AM.z).ways.length)(h2:(ns.getD k AM.z).ways.any (λn=>decide (¬(0<=n/\n<=(nw:Int)-1)))=true):D6 nw ns k=6:=by
 unfold D6;rw [if_neg h,if_pos h2]
theorem nt1(h:¬(5:Int)<(ns.getD k AM.z).ways.length)(h2:(ns.getD k AM.z).ways.any (λn=>decide (¬(0<=n/\n<=(nw:Int)-1)))=false)(h3:¬((0<=(ns.getD k AM.z).low/\(ns.getD k AM.z).low<=(ns.getD k AM.z).high)/\(ns.getD k AM.z).high<=200)):D6 nw ns k=1:=by
 unfold D6;rw [if_neg h,if_neg (by rw [h2];simp),if_pos (λe=>h3 e.1)]
theorem nt0(h:¬(5:Int)<(ns.getD k AM.z).ways.length)(h2:(ns.getD k AM.z).ways.any (λn=>decide (¬(0<=n/\n<=(nw:Int)-1)))=false)(h3:(0<=(ns.getD k AM.z).low/\(ns.getD k AM.z).low<=(ns.getD k AM.z).high)/\(ns.getD k AM.z).high<=200):D6 nw ns k=0:=by
 unfold D6;rw [if_neg h,if_neg (by rw [h2];simp),if_neg (λe=>e ⟨h3,aA⟩)]
end
section
variable {ps:List ByteArray} {k:Nat} {a b:List (Int×Int)}
theorem pa4(h:Dm (ps.getD k (⟨#[]⟩:ByteArray))=false):FZ ps k=4:=by unfold FZ;rw [if_pos h]
theorem pa5(h:Dm (ps.getD k (⟨#[]⟩:ByteArray))=true)(h2:0<=idxOf (λx=>(ps.getD k (⟨#[]⟩:ByteArray)).toList==x.toList) (ps.take k)):FZ ps k=5:=by
 unfold FZ;rw [if_neg (by rw [h];simp),if_pos ((EV _ _).1 h2)]
theorem pa0(h:Dm (ps.getD k (⟨#[]⟩:ByteArray))=true)(h2:¬0<=idxOf (λx=>(ps.getD k (⟨#[]⟩:ByteArray)).toList==x.toList) (ps.take k)):FZ ps k=0:=by
 unfold FZ;rw [if_neg (by rw [h];simp),if_neg λe=>h2 ((EV _ _).2 e)]
theorem R3(hs:a.take k=b.take k)(hk:k<=a.length)(h:¬(k:Int)<a.length)(hl:(a.length:Int)=b.length):a=b:=by
 rw [List.take_of_length_le aA,List.take_of_length_le aA] at hs;exact hs
theorem eq_getDP{k:Nat}(h:((a.getD k (0,0)).1==(b.getD k (0,0)).1 && ((a.getD k (0,0)).2==(b.getD k (0,0)).2 && true))=true):a.getD k (0,0)=b.getD k (0,0):=by
 simp only [Bool.and_true,Bool.and_eq_true,beq_iff_eq] at h;exact Prod.ext h.1 h.2
theorem ne_getDP{k:Nat}(h:(!((a.getD k (0,0)).1==(b.getD k (0,0)).1 && ((a.getD k (0,0)).2==(b.getD k (0,0)).2 && true)))=true):¬a=b:=λe=>by rw [e] at h;simp at h
end
section
variable (bag kinds:Int) (ps:List ByteArray) (ws:List AJ) (js:List AL) (ns:List AM)
def EZ:Bool:=decide ((((20:Int)<ps.length\/(20:Int)<ws.length)\/(20:Int)<js.length)\/(20:Int)<ns.length) || ps.any (λs=>decide ((100:Int)<s.size)) || js.any (λj=>decide ((20:Int)<j.parts.length)) || ns.any λn=>decide ((20:Int)<n.ways.length)
def fit9:Bool:= !EZ ps ws js ns && decide (D7 bag kinds ps ws js ns=0)
end
section
variable {ps:List ByteArray} {ws:List AJ} {js:List AL} {ns:List AM} {k:Nat}
theorem Mp(h:EZ ps ws js ns=false)(k:Nat):(ps.getD k (⟨#[]⟩:ByteArray)).size<=1000:=by
 unfold EZ at h;simp only [Bool.or_eq_false_iff] at h;by_cases hk:k<ps.length
 ·have:=List.any_eq_false.1 h.1.1.2 _ (Ba (d:=(⟨#[]⟩:ByteArray)) hk)
  have:=of_decide_eq_false (Bool.eq_false_iff.2 this)
  omega
 ·rw [Be aA];decide
end
section
variable {bag kinds:Int} {ps:List ByteArray} {ws:List AJ} {js:List AL} {ns:List AM}
theorem Kb(h:BM ps=0):0<ps.length/\ps.length<=4:=by
 unfold BM at h;split at h
 ·cases h
 ·omega
theorem rc1(h:¬(0<=bag/\bag<=9)\/¬(0<=kinds/\kinds<=3)):D7 bag kinds ps ws js ns=1:=by
 have e:HK bag kinds=1:=if_pos h;unfold D7;rw [e,if_pos aC]
theorem tb0(h:¬(¬(0<=bag/\bag<=9)\/¬(0<=kinds/\kinds<=3))):HK bag kinds=0:=if_neg h
theorem rc2(h0:¬(¬(0<=bag/\bag<=9)\/¬(0<=kinds/\kinds<=3)))(h:¬BM ps=0):D7 bag kinds ps ws js ns=BM ps:=by unfold D7;rw [tb0 h0,if_neg aD,if_pos h]
theorem rc3(h0:¬(¬(0<=bag/\bag<=9)\/¬(0<=kinds/\kinds<=3)))(h1:¬¬BM ps=0)(h:¬Fw ps.length ws=0):D7 bag kinds ps ws js ns=Fw ps.length ws:=by unfold D7;rw [tb0 h0,if_neg aD,if_neg h1,if_pos h]
theorem rc4(h0:¬(¬(0<=bag/\bag<=9)\/¬(0<=kinds/\kinds<=3)))(h1:¬¬BM ps=0)(h2:¬¬Fw ps.length ws=0)(h:¬Br ps.length kinds js=0):D7 bag kinds ps ws js ns=Br ps.length kinds js:=by unfold D7;rw [tb0 h0,if_neg aD,if_neg h1,if_neg h2,if_pos h]
theorem rc5(h0:¬(¬(0<=bag/\bag<=9)\/¬(0<=kinds/\kinds<=3)))(h1:¬¬BM ps=0)(h2:¬¬Fw ps.length ws=0)(h:¬¬Br ps.length kinds js=0):D7 bag kinds ps ws js ns=Ce ws.length ns:=by unfold D7;rw [tb0 h0,if_neg aD,if_neg h1,if_neg h2,if_neg h]
theorem gr_len(h:(((20:Int)<ps.length\/(20:Int)<ws.length)\/(20:Int)<js.length)\/(20:Int)<ns.length):EZ ps ws js ns=true:=by unfold EZ;rw [decide_eq_true h];rfl
theorem gr_p(h:ps.any (λs=>decide ((100:Int)<s.size))=true):EZ ps ws js ns=true:=by unfold EZ;rw [h];simp
theorem gr_j(h:js.any (λj=>decide ((20:Int)<j.parts.length))=true):EZ ps ws js ns=true:=by unfold EZ;rw [h];simp
theorem gr_n(h:ns.any (λn=>decide ((20:Int)<n.ways.length))=true):EZ ps ws js ns=true:=by unfold EZ;rw [h];simp
theorem gr_0(h:¬((((20:Int)<ps.length\/(20:Int)<ws.length)\/(20:Int)<js.length)\/(20:Int)<ns.length))(h1:ps.any (λs=>decide ((100:Int)<s.size))=false)(h2:js.any (λj=>decide ((20:Int)<j.parts.length))=false)(h3:ns.any (λn=>decide ((20:Int)<n.ways.length))=false):EZ ps ws js ns=false:=by
 unfold EZ;rw [decide_eq_false h,h1,h2,h3];rfl
end
end Go.Ns
namespace Go.Ns
def C4:List ByteArray:=[⟨#[119,111,114,107,115]⟩,⟨#[97,121,114]⟩,⟨#[98,117,116,101]⟩]
theorem DE:∀k,(C4.getD k (⟨#[]⟩:ByteArray)).size<=1000
 | 0=>aC
 | 1=>aC
 | 2=>aC
 | k+3=>by rw [Be (by simp [C4])];decide
def Cz:List AJ:=[⟨0,1,2,3⟩,⟨1,2,4,4⟩,⟨0,2,5,5⟩]
def CV(a b c:Value):List AL:=[⟨1,1,1,5,a,[2]⟩,⟨2,1,2,12,b,[1]⟩,⟨0,1,1,20,c,[1]⟩]
theorem Cn.ex{h:GH}{t:TypeId}{a b c:Value}(x:B5 h t a [2])(y:B5 h t b [1])(z:B5 h t c [1]):Cn h t (CV a b c):=λk=>by
 match k with
 | 0=>exact x
 | 1=>exact y
 | 2=>exact z
 | k+3=>rw [Be (by show 3<=_;omega)];exact B5.nil _ _
theorem AH.isSl{V:Type}{h:GH}{v:Value}{n:Nat}{enc:V->Array Value}{xs:List V}(x:AH h v n enc xs):∀k i,v≠.int k i:=by
 obtain ⟨a,cap,rfl,_⟩:=x;intro k i e;cases e
theorem AH.across9{h h':GH}{v:Value}{xs:List Int}{r:Nat}{a b c d:Value}{T:TypeId}(x:AH h v 1 eI xs)(hb:h r=some (true,.cells #[.int .i64 3,.int .i64 1,a,b,c,d] T (0,0)))(ho:∀y,y≠r->h' y=h y)
  (ha:∀k i,a≠.int k i) (hb':∀k i,b≠.int k i) (hc:∀k i,c≠.int k i) (hd:∀k i,d≠.int k i) (hx:∀o,o<6->∃i:Fin xs.length,(o+i.val=0->xs[i.val]≠3)/\(o+i.val=1->xs[i.val]≠1)):AH h' v 1 eI xs:=by
 obtain ⟨ad,cap,hv,hcap,hm,he⟩:=x;refine ⟨ad,cap,hv,hcap,hm,λi hi=>?_⟩;obtain ⟨y,off,h1,h2⟩:=he i hi;refine ⟨y,off,h1,h2.same (ho y ?_)⟩;rintro rfl;have key:∀j (hj:j<xs.length),off+j<6/\(#[Value.int .i64 3,.int .i64 1,a,b,c,d]:Array Value).extract (off+j) (off+j+1)=eI xs[j]:=λj hj=>by
  obtain ⟨y2,off2,h3,h4⟩:=he j hj;rw [h1] at h3;simp only [Option.some.injEq,Addr.mk.injEq,and_true] at h3;obtain ⟨rfl,rfl⟩:=h3;obtain ⟨p,cc,t,f,q1,q2,q3⟩:=h4;rw [hb] at q1;simp only [Option.some.injEq,Prod.mk.injEq,Obj.cells.injEq] at q1;obtain ⟨_,rfl,_⟩:=q1;rw [Nat.mul_one] at q2 q3;exact ⟨by simp at q2;omega,q3⟩
 obtain ⟨⟨j,hj⟩,e0,e1⟩:=hx off (by have:=(key i hi).1;omega);obtain ⟨k1,k2⟩:=key j hj;simp only at e0 e1;generalize off+j=o at k1 k2 e0 e1;generalize xs[j]=z at k2 e0 e1
 have:o=0\/o=1\/o=2\/o=3\/o=4\/o=5:=aA
 rcases this with rfl | rfl | rfl | rfl | rfl | rfl
 ·have k3:(#[.int .i64 3]:Array Value)=#[.int .i64 z]:=k2;simp at k3;exact e0 rfl k3.symm
 ·have k3:(#[.int .i64 1]:Array Value)=#[.int .i64 z]:=k2;simp at k3;exact e1 rfl k3.symm
 ·have k3:(#[a]:Array Value)=#[.int .i64 z]:=k2;simp at k3;exact ha _ _ k3
 ·have k3:(#[b]:Array Value)=#[.int .i64 z]:=k2;simp at k3;exact hb' _ _ k3
 ·have k3:(#[c]:Array Value)=#[.int .i64 z]:=k2;simp at k3;exact hc _ _ k3
 ·have k3:(#[d]:Array Value)=#[.int .i64 z]:=k2;simp at k3;exact hd _ _ k3
end Go.Ns
namespace Go.Ns
section
variable {m:Fo} {b np i k n:Nat}
end
section
variable {p:AF} {ws:List AJ} {np:Nat}
end
end Go.Ns
namespace Go.Ns
section
variable {ws:List AJ} {c:IF} {x:AJ} {i n k np:Nat}
theorem Kc(h:c i=true):IW c x i=true:=by
 unfold IW IF.set;by_cases e:i=x.b.toNat
 ·rw [if_pos e];by_cases e2:x.b.toNat=x.a.toNat
  ·rw [if_pos e2];rw [e,e2] at h;rw [h];simp
  ·rw [if_neg e2,<-e,h];simp
 ·rw [if_neg e];by_cases e2:i=x.a.toNat
  ·rw [if_pos e2,<-e2,h];simp
  ·rw [if_neg e2];exact h
theorem Vs(h:c x.a.toNat=true\/c x.b.toNat=true):IW c x x.a.toNat=true/\IW c x x.b.toNat=true:=by
 unfold IW IF.set;rcases h with h | h
 ·constructor
  ·by_cases e:x.a.toNat=x.b.toNat
   ·rw [if_pos e];simp [h]
   ·rw [if_neg e];simp [h]
  ·rw [if_pos rfl];simp [h]
 ·constructor
  ·by_cases e:x.a.toNat=x.b.toNat
   ·rw [if_pos e];simp [h]
   ·rw [if_neg e];simp [h]
  ·rw [if_pos rfl];simp [h]
theorem H8:∀(l:List AJ)(c:IF),c i=true->l.foldl IW c i=true
 | [],_,h=>h
 | x ::l,c,h=>H8 l _ (Kc h)
theorem Ju:∀(l:List AJ)(c:IF),x ∈ l->(c x.a.toNat=true\/c x.b.toNat=true)->l.foldl IW c x.a.toNat=true/\l.foldl IW c x.b.toNat=true
 | y ::l,c,hx,h=>by
  rcases List.mem_cons.1 hx with e | hx
  ·subst e;have b:=Vs h;exact ⟨H8 l _ b.1,H8 l _ b.2⟩
  ·exact Ju l _ hx (h.imp Kc Kc)
theorem Ke:∀n (c:IF),E9 ws (n+1) c=HY ws (E9 ws n c)
 | 0,_=>rfl
 | n+1,c=>Ke n (HY ws c)
theorem Na{m:Nat}(h:E9 ws n c i=true):∀d,m=n+d->E9 ws m c i=true
 | 0,e=>by rw [e];exact h
 | d+1,e=>by
  rw [e,show n+(d+1)=(n+d)+1 by omega,Ke];exact H8 ws _ (Na h d rfl)
def c0:IF:=IF.none.set 0 true
def JL(ws:List AJ)(l:List Int):Prop:=∀i,i<l.length->E9 ws i c0 (l.getD i 0).toNat=true
theorem JL.snoc{l:List Int}{q:Int}(h:JL ws l)(hq:E9 ws l.length c0 q.toNat=true):JL ws (l++[q]):=λi hi=>by
 rw [List.length_append,List.length_singleton] at hi;rw [Gf];by_cases e:i<l.length
 ·rw [if_pos e];exact h i e
 ·rw [if_neg e,show i=l.length by omega,Nat.sub_self];exact hq
theorem JL.step{l:List Int}(h:JL ws l)(hk:k<l.length)(hx:x ∈ ws):JL ws (DD l k x):=by
 have one:∀{l:List Int}{p q:Int},JL ws l->k<l.length->(x.a=p/\x.b=q\/x.b=p/\x.a=q)->JL ws (I8 l k p q):=by
  intro l p q h hk hpq;unfold I8;split
  ·rename_i e
   have f:=h k hk;rw [<-e.1] at f;have g:E9 ws (k+1) c0 q.toNat=true:=by
    rw [Ke];rcases hpq with ⟨rfl,rfl⟩ | ⟨rfl,rfl⟩
    ·exact (Ju ws _ hx (.inl f)).2
    ·exact (Ju ws _ hx (.inr f)).1
   exact h.snoc (Na g (l.length-(k+1)) aA)
  ·exact h
 have h1:=one h hk (.inl ⟨rfl,rfl⟩);have hl:=(L3 l k x.a x.b).length_le;exact one h1 aA (.inr ⟨rfl,rfl⟩)
theorem JL.ways{l:List Int}(h:JL ws l)(hk:k<l.length):∀j,j<=ws.length->JL ws (Ai ws l k j)
 | 0,_=>h
 | j+1,hj=>(JL.ways h hk j aA).step (Nat.lt_of_lt_of_le hk (I9 j).length_le) (Ba aA)
theorem Nc:∀k,JL ws (Ax ws k)
 | 0=>λi hi=>by
  have:i=0:=by
   have:i<1:=hi
   omega
  subst this;rfl
 | k+1=>by
  unfold Ax;split
  ·rename_i e;exact (Nc k).ways e _ (Nat.le_refl _)
  ·exact Nc k
theorem UV(hn:0<np)(hw:QT np ws)(h:¬(Hq ws).length<np):HL np ws=0:=by
 have ok:Ic np (Hq ws):=LB hn hw 4;have hl:=ok.len;have all:∀y,y<np->E9 ws np c0 y=true:=λy hy=>by
  have mem:(y:Int) ∈ Hq ws:=Decidable.byContradiction λe=>by
   have:=(ok.snoc (x:=(y:Int)) ⟨aA,aA⟩ e).len
   rw [List.length_append,List.length_singleton] at this;omega
  obtain ⟨i,hi,e⟩:=List.mem_iff_getElem.1 mem;have f:E9 ws i c0 ((Hq ws).getD i 0).toNat=true:=Nc (ws:=ws) 4 i hi;have e2:(Hq ws).getD i 0=(y:Int):=by
   rw [List.getD_eq_getElem?_getD,List.getElem?_eq_getElem hi];exact e
  rw [e2] at f;exact Na f (np-i) (by have hi':i<(Hq ws).length:=hi;omega)
 unfold HL;rw [if_neg];intro e;obtain ⟨b,hb,hf⟩:=List.any_eq_true.1 e;unfold Pu at hb;obtain ⟨y,hy,rfl⟩:=List.mem_map.1 hb
 have:E9 ws np (IF.none.set 0 true) y=true:=all y (List.mem_range.1 hy)
 rw [this] at hf;cases hf
end
section
variable {bag kinds:Int} {ps:List ByteArray} {ws:List AJ} {js:List AL} {ns:List AM}
theorem XU(hn:0<ps.length)(h:Fw ps.length ws=0):FA ps.length ws=0:=by
 unfold Fw at h;split at h
 ·cases h
 ·rename_i a
  split at h
  ·rename_i b;exact absurd h b
  ·rename_i b
   split at h
   ·cases h
   ·rename_i c
    unfold FA;rw [if_neg a,if_neg b];have z:=Cy (Decidable.not_not.1 b);exact UV hn (waysOK λk hk=>z k (Nat.zero_le _) aA) c
theorem Vt(h:D7 bag kinds ps ws js ns=0):BD bag kinds ps ws js ns=0:=by
 unfold D7 at h;split at h
 ·rename_i a;exact absurd h a
 ·rename_i a
  split at h
  ·rename_i b;exact absurd h b
  ·rename_i b
   split at h
   ·rename_i c;exact absurd h c
   ·rename_i c
    split at h
    ·rename_i d;exact absurd h d
    ·rename_i d
     have h1:=Decidable.not_not.1 a;have h2:=Decidable.not_not.1 b;have h3:=XU (Kb h2).1 (Decidable.not_not.1 c);have h4:=Decidable.not_not.1 d;unfold BD;refine BS (k:=5) (λj hj=>?_) (Nat.le_refl _)
     match j with
     | 0=>exact h1
     | 1=>exact h2
     | 2=>exact h3
     | 3=>exact h4
     | 4=>exact h
     | j+5=>omega
theorem fit9_ok(h:fit9 bag kinds ps ws js ns=true):BD bag kinds ps ws js ns=0/\∀k,(ps.getD k (⟨#[]⟩:ByteArray)).size<=1000:=by
 unfold fit9 at h;rw [Bool.and_eq_true] at h;exact ⟨Vt (of_decide_eq_true h.2),Mp (by simpa using h.1)⟩
end
end Go.Ns
namespace Go.Ns
open Go.Conc
section
variable {P:Program} {E:Gq P} {O:Nat->Value} {ds:List Deferred} {h:GH} {T:(Nat->Value)->List Deferred->GH->Prop} {dst:Option Nat} {ty:TypeId} {pos:String} {af:Array Edge} {gd:Option (Nat×Bool)}
end
section
variable {F G:AF->Int} {l:List AF} {x:AF}
end
section
variable {bag kinds:Int} {ps:List ByteArray} {ws:List AJ} {js:List AL} {ns:List AM} {a b c:Int}
end
section
variable {bag kinds:Int} {ps:List ByteArray} {ws:List AJ} {js:List AL} {ns:List AM} {a b c s:Int}
end
end Go.Ns
namespace Go.Ns
open Go.Conc
section
variable {P:Program} {Post:Value->World->Prop}
def Zh(P:Program)(Post:Value->World->Prop):Wk P:=⟨true,EJ P Post,LS⟩
theorem UW:Lu (Zh P Post):=⟨Post,rfl⟩
theorem top_of_tr{f:FuncId}{fn:Func}{c:Code}{args:Array Value}{h:GH}{R:Value->GH->Prop}(hf:P.funcs[f]? =some fn)(hb:fn.body=some c)(hsz:args.size<=fn.ntmps)(hin:P.inits.idxOf? f=none)(hpost:∀v h',R v h'->∀w,EO w h'->Post v w)
  (x:Tr ⟨Zh P Post,f,none,fn.ntmps⟩ c (λi=>args.getD i undef) [] h (λe O ds h'=>(e=.normal\/e=.ret)/\GU P fn O R ds h')):EJ P Post (G (Frame.enter P f args .normal) []) h:=by
 have e0:Frame.enter P f args .normal=Ci (Frame.enter P f args .normal) (args++Array.replicate (fn.ntmps-args.size) undef) [] [.code c]:=by
  simp [Frame.enter,Ci,hf,hb]
 rw [e0];let L:Lv:=λj t ds h'=>(j=none\/j=some .ret)/\∃O,BX t fn.ntmps O/\GU P fn O R ds h';have fin:∀O ds h' t k,BX t fn.ntmps O->GU P fn O R ds h'->(Zh P Post).K (G (E2 (Frame.enter P f args .normal) t ds k) []) h':=by
  intro O ds h' t k hs ho;refine Nz (W:=Zh P Post) (R:=R) hf (b:=Frame.enter P f args .normal) rfl (λt k v h h' hr hrun=>?_) ds h' t k hs ho;refine Wg rfl λw fw=>?_;obtain ⟨w',es,r1,r2⟩:=hrun w fw;refine ⟨v,w',seen P f es++ #[],h',?_,r2.sub (es':=seen P f es++ #[]) λe he=>?_,hpost v h' hr w' r2.fits⟩
  ·rw [Li];unfold unwind;have hfn:(E2 (Frame.enter P f args .normal) t [] k).fn=f:=rfl;have hk:(E2 (Frame.enter P f args .normal) t [] k).kind=.normal:=rfl;have hm:(E2 (Frame.enter P f args .normal) t [] k).mode=.returning:=rfl;have hd:(E2 (Frame.enter P f args .normal) t [] k).defers=[]:=rfl;have ht:(E2 (Frame.enter P f args .normal) t [] k).tmps=t:=rfl;simp only [hd,hm,hfn,hf,ht,r1,GStep.after,doReturn,hk,hin];rfl
  ·rw [Array.append_empty] at he;exact mem_seen he
 refine x (Frame.enter P f args .normal) [] [] L _ rfl rfl ⟨?_,?_,?_⟩ ⟨by simp;omega,λi=>?_⟩ ?_
 ·rintro t ds h' ⟨_,O,hs,ho⟩;exact Wk.go (E2 (Frame.enter P f args .normal) t ds []) (λw=>by rw [A5];simp [stepG.exec,Ci,E2,G,Frame.enter]) (fin O ds h' t [] hs ho)
 ·rintro t ds h' k ⟨_,O,hs,ho⟩;exact Wk.go (E2 (Frame.enter P f args .normal) t ds (.code .ret ::k)) (λw=>by rw [A5];simp [stepG.exec,Ci,E2,G,Frame.enter]) (fin O ds h' t _ hs ho)
 ·rintro id t ds h' k _ ⟨h1 | h1,_⟩ <;> cases h1
 ·by_cases hi:i<args.size
  ·simp [Array.getD_eq_getD_getElem?,Array.getElem?_append_left hi]
  ·simp only [Array.getD_eq_getD_getElem?];rw [Array.getElem?_append_right aA,Array.getElem?_eq_none (show args.size<=i by omega),Array.getElem?_replicate];split <;> rfl
 ·rintro e O ds h' ⟨he,ho⟩ t' ht';rcases he with rfl | rfl
  ·exact Wk.go (E2 (Frame.enter P f args .normal) t' ds []) (λw=>by rw [A5];simp [stepG.exec,Ci,E2,G,Frame.enter]) (fin O ds h' t' [] ht' ho)
  ·exact ⟨.inr rfl,O,ht',ho⟩
def GH.of(W:World):GH:=λb=>(W.heap[b]?).map λo=>(false,o)
theorem GH.of_some{W:World}{b:Nat}{o:Obj}(h:W.heap[b]? =some o):GH.of W b=some (false,o):=by unfold GH.of;rw [h];rfl
theorem fits_of(W:World):EO W (GH.of W):=λb p o h=>by
 unfold GH.of at h;cases e:W.heap[b]? with
 | none=>rw [e] at h;cases h
 | some x=>rw [e] at h;cases h;rfl
theorem kept_of{W w:World}{h:GH}(l:(GH.of W).Le h)(f:EO w h){b:Nat}{o:Obj}(hb:W.heap[b]? =some o):w.heap[b]? =some o:=f b _ _ (l.keep (GH.of_some hb) rfl)
theorem XV{g:Goroutine}{W:World}(hg:EJ P Post g (GH.of W)):Bp P (JS Post W.os W.output) (solo g W) #[]:=by
 have hno:∀k a,touchAt (#[]:Trace) k=some a->False:=λk a h=>by
  obtain ⟨op,h1,_⟩:=touch_of h;simp at h1
 refine hg #[g] W none (λ_=>0) #[] ⟨rfl,?_,fits_of W,?_,?_,λk a b hk=>(hno k a hk).elim,?_,λk a hk=>(hno k a hk).elim,λb p o k a _ _ hk=>(hno k a hk).elim⟩
 ·intro j x hj hx;rw [Array.getElem?_eq_none (by simp;omega)] at hx;cases hx
 ·intro op hop;simp at hop
 ·rintro said ⟨i,j,hij,⟨a,b,ha,_⟩,_⟩;exact hno i a ha
 ·intro op hop;simp at hop
end
end Go.Ns
namespace Go.Ns
open Go.Conc Go.ChangeShapes Go.WideShapes Go.ChangeAt Go.RowKit
section
variable {P:Program} {W:World}
theorem XW{b off n:Nat}{cs:List Value}(h:W.cells? 0 ⟨b,off,none⟩ n=some cs)(hn:0<n):AT (GH.of W) b off n cs.toArray:=by
 obtain ⟨_,hl,hc⟩:=World.cells?_some h;have hcell:∀i,i<n->W.cell? ⟨b,off+i,none⟩=cs[i]? :=λi hi=>by
  have:=hc i hi
  unfold Addr.add at this;split at this
  ·rename_i e;subst e;exact this
  ·exact this
 have h0:=hcell 0 hn;unfold World.cell? at h0;cases hb:W.heap[b]? with
 | none=>simp [hb,List.getElem?_eq_getElem (show 0<cs.length by omega)] at h0
 | some o=>
  cases o with
  | cells c t f=>
   have hall:∀i,i<n->c[off+i]? =cs[i]? :=λi hi=>by
    have:=hcell i hi
    unfold World.cell? at this;simpa [hb] using this
   have hlast:=hall (n-1) aA;rw [List.getElem?_eq_getElem (show n-1<cs.length by omega)] at hlast;have hsz:=(Array.getElem?_eq_some_iff.1 hlast).1;refine ⟨false,c,t,f,GH.of_some hb,aA,?_⟩;apply Array.ext
   ·simp;omega
   ·intro i h1 h2;have hi:i<n:=by simp at h2;omega
    have:=hall i hi
    rw [Array.getElem?_eq_getElem aA,List.getElem?_eq_getElem aA] at this;simpa using this
  | _=>simp [hb,List.getElem?_eq_getElem (show 0<cs.length by omega)] at h0
def Jv(P:Program)(W:World)(e:TypeId){V:Type}(enc:V->Array Value)(good:V->Prop):Prop:=
 ∀{H:Type}(en:TypeId×Value->H)(sp:Nat->Bool)(held:Bool)(fuel:Nat)(cs:List Value)(x:DataW H×List MemPlace),DataW.trod en P W 0 sp held fuel e cs=some x->(∀y ∈ x.1.weights P e,y<=reachBytes)->∃a:V,cs=(enc a).toList/\good a
theorem Kf{H:Type}{e:TypeId}{d:DataW H}{y:Nat}:∀{l:List (DataW H)},d ∈ l->y ∈ d.weights P e->y ∈ DataW.weightsAll P e l
 | c ::l,hd,hy=>by
  unfold DataW.weightsAll;rcases List.mem_cons.1 hd with rfl | hd
  ·exact List.mem_append_left _ hy
  ·exact List.mem_append_right _ (Kf hd hy)
theorem FH{H:Type}{en:TypeId×Value->H}{sp:Nat->Bool}{held:Bool}{fuel:Nat}{t e:TypeId}{n:Nat}{V:Type}{enc:V->Array Value}{good:V->Prop}{v:Value}{d:DataW H}{ps:List MemPlace}(ht:P.underlying t=some (.slice e))(hc:P.cellsOf e=n)(hn:0<n)
  (hb:1<=P.bytesOf e) (ho:Jv P W e enc good) (h:DataW.trod en P W 0 sp held fuel t [v]=some (d,ps)) (hw:∀y ∈ d.weights P t,y<=reachBytes):∃xs:List V,AH (GH.of W) v n enc xs/\∀x ∈ xs,good x:=by
 rcases DataW.trod_slice ht h with ⟨h1,_⟩ | ⟨a,len,cap,elems,rest,m,rfl,h1,h2,_,hl,_,hlen,hel,_,_⟩
 ·simp at h1;subst h1;exact ⟨[],AH.nil _ _ _,λx hx=>by cases hx⟩
 ·simp only [List.cons.injEq,and_true] at h1;subst h1;simp only [Prod.mk.injEq] at h2;have hd:d=.slice (elems.map (·.1)) (rest.map (·.1)):=h2.1;have hlim:len<=140737488355328:=by
   have:=hw ((elems.map (·.1)).length+(rest.map (·.1)).length |>.mul (P.bytesOf e)) (by rw [hd];unfold DataW.weights;rw [ht];exact List.mem_cons_self ..)
   have h3:(elems.map (·.1)).length+(rest.map (·.1)).length<=((elems.map (·.1)).length+(rest.map (·.1)).length)*P.bytesOf e:=Nat.le_mul_of_pos_right _ hb;have h4:((elems.map (·.1)).length+(rest.map (·.1)).length)*P.bytesOf e<=reachBytes:=this;rw [List.length_map] at h3 h4;unfold reachBytes at h4;omega
  have each:∀i,i<len->∃x:V,∃b off,a=⟨b,off,none⟩/\AT (GH.of W) b (off+i*n) n (enc x)/\good x:=λi hi=>by
   have:=hel i hi
   rw [List.getElem?_eq_getElem aA,hc] at this;simp only [Option.bind_eq_some_iff] at this;obtain ⟨cs,hcs,hx⟩:=this;obtain ⟨x,e1,e2⟩:=ho _ _ _ _ _ _ hx λy hy=>hw y (by rw [hd];unfold DataW.weights;rw [ht];exact List.mem_cons_of_mem _ (List.mem_append_left _ (Kf (List.mem_map.2 ⟨_,List.getElem_mem (show i<elems.length by omega),rfl⟩) hy)));have hc0:=(World.cells?_some hcs).2.2 0 hn;have hlen2:=(World.cells?_some hcs).2.1;rw [List.getElem?_eq_getElem (show 0<cs.length by omega)] at hc0;have hsp:=World.cell?_spot hc0;obtain ⟨b,off,spot⟩:=a;have hspot:spot=none\/i≠0:=by
    by_cases e0:i=0
    ·subst e0;left;simpa [Addr.add] using hsp
    ·exact .inr e0
   have hfirst:spot=none:=by
    rcases hspot with e | e
    ·exact e
    ·have h00:=hel 0 aA;rw [List.getElem?_eq_getElem aA,hc] at h00;simp only [Option.bind_eq_some_iff] at h00;obtain ⟨c0,hc00,_⟩:=h00;have z:=(World.cells?_some hc00).2.2 0 hn;have zl:=(World.cells?_some hc00).2.1;rw [List.getElem?_eq_getElem (show 0<c0.length by omega)] at z
     have:=World.cell?_spot z
     simpa [Addr.add] using this
   subst hfirst;refine ⟨x,b,off,rfl,?_,e2⟩;have ea:(Addr.add ⟨b,off,none⟩ (i*n))=⟨b,off+i*n,none⟩:=by
    unfold Addr.add;split
    ·rename_i e;rw [e];rfl
    ·rfl
   rw [ea] at hcs
   have:=XW hcs hn
   rw [e1] at this;simpa using this
  by_cases hz:len=0
  ·subst hz;exact ⟨[],⟨some a,cap,rfl,Nat.zero_le _,Nat.zero_le _,λi hi=>by simp at hi⟩,λx hx=>by cases hx⟩
  ·have hch:∀i:Fin len,∃x:V,∃b off,a=⟨b,off,none⟩/\AT (GH.of W) b (off+i.val*n) n (enc x)/\good x:=λi=>each i.val i.isLt;refine ⟨List.ofFn λi=>Classical.choose (hch i),⟨some a,cap,by rw [List.length_ofFn],by rw [List.length_ofFn];exact hl,by rw [List.length_ofFn];exact hlim,λi hi=>?_⟩,λx hx=>?_⟩
   ·rw [List.length_ofFn] at hi;obtain ⟨b,off,e1,e2,_⟩:=Classical.choose_spec (hch ⟨i,hi⟩);refine ⟨b,off,by rw [e1],?_⟩;rw [List.getElem_ofFn];exact e2
   ·obtain ⟨i,rfl⟩:=List.mem_ofFn.1 hx;obtain ⟨_,_,_,_,e3⟩:=Classical.choose_spec (hch i);exact e3
theorem LC{H:Type}{en:TypeId×Value->H}{t:TypeId}(hl:laidOutB P=true)(hr:P.readableRec t=true)(hrow:t<P.types.size){W':World}{v:Value}{d:DataW H}{ps:List MemPlace}(h:DataW.Trod en P W 0 (λ_=>true) true t v d ps)
  (hk:∀(b:Nat)(o:Obj),W.heap[b]? =some o->W'.heap[b]? =some o) (hlt:∀x ∈ ps,x.block<W.heap.size):DataW.Trod en P W' 0 (λb=>decide (b<W.heap.size)) true t v d ps:=by
 let W2:World:={ W' with os:=W.os,tape:=W.tape,output:=W.output };have hsz:W.heap.size<=W'.heap.size:=by
  rcases Nat.lt_or_ge W'.heap.size W.heap.size with x | x
  ·have:=hk W'.heap.size _ (Array.getElem?_eq_getElem x)
   rw [Array.getElem?_eq_none (Nat.le_refl _)] at this;cases this
  ·exact x
 have hb:Below W.heap.size W W2:=⟨rfl,rfl,rfl,hsz,λk hk'=>by
  show W'.heap[k]? =_;rw [Array.getElem?_eq_getElem hk'];exact hk k _ (Array.getElem?_eq_getElem hk')⟩
 exact DataW.Trod.of_heap (w:=W2) (w':=W') rfl (Below.trod hl hr hrow h hb hlt)
theorem kept_but{W':World}(hk:∀(b:Nat)(o:Obj),W.heap[b]? =some o->W'.heap[b]? =some o)(ho:W'.os=W.os)(hp:W'.output=W.output)(may:MemPlace->Prop):W.keptBut W' may:=by
 refine ⟨ho,hp,λi hi=>?_⟩;rw [hk i _ (Array.getElem?_eq_getElem hi),Array.getElem?_eq_getElem hi];split <;> simp_all
end
end Go.Ns
namespace Go.Ns
open Go.Conc
theorem GD{P:Program}{E:Gq P}{O:Nat->Value}{ds:List Deferred}{h:GH}{T:(Nat->Value)->List Deferred->GH->Prop}{dst:Option Nat}{ty:TypeId}{pos:String}{af:Array Edge}{gd:Option (Nat×Bool)}{V:Type}
  {s x:TypeId} {o1 o2:Operand} {h0:GH} {w:Value} {r e n bytes:Nat} {enc:V->Array Value} {ys:List V} (ht:JG P s x=some (e,n,bytes)) (h1:AQ O o1=.slice (some ⟨r,0,none⟩) 0 0) (h2:AQ O o2=w)
  (hv:AO h0 h (.slice (some ⟨r,0,none⟩) 0 0) e n enc ([]:List V)) (hw:AH h w n enc ys) (l0:∀q,h q=none->h0 q=none) (hb:(2*(([]:List V).length+ys.length)+512)*bytes<=2 ^ 48) (hfine:∀y ∈ ys,(enc y).toList.all (·.oneCell')=true)
  (k:∀v' h',AO h0 h' v' e n enc ys->Gr h h' (.slice (some ⟨r,0,none⟩) 0 0) v'->h.Le h'->T (putS O dst v') ds h'):BQ E ⟨dst,.call ⟨.builtin .append,#[o1,o2],#[s,x]⟩,ty,pos,af,gd⟩ O ds h T:=
 PO ht h1 h2 hv hw l0 hb hfine λv' h' o g1 g2 g3=>k v' h' o ⟨g1,g2⟩ (.of λb y hb=>by
  by_cases e:b=r
  ·subst e;rcases hv with ⟨q,_⟩ | ⟨b1,cap,c,q,_,q2,q3,_⟩
   ·cases q
   ·simp only [Value.slice.injEq,Option.some.injEq,Addr.mk.injEq,and_true] at q;obtain ⟨rfl,_,rfl⟩:=q;obtain ⟨c',q5,q6⟩:=g3 b c rfl q2;rw [q2] at hb;cases hb;rw [q5,Array.eq_empty_of_size_eq_zero (show c.size=0 by omega),Array.eq_empty_of_size_eq_zero (show c'.size=0 by omega)]
  ·exact g1 b y hb λq=>e (by simpa [CW] using q.symm))
def JA(n:Nat)(l:List Int):Prop:=l.Nodup/\∀x ∈ l,0<=x/\x<n
section
variable {n i:Nat} {l kn rest:List Int}
theorem JA.at(h:JA n l)(k:Nat)(hk:k<l.length):0<=l.getD k 0/\l.getD k 0<n:=h.2 _ (Ba hk)
theorem JA.bell(h:JA n l):Ah n l=0:=BS (k:=l.length) (λj hj=>by
 have r:=h.at j hj;have e:Fc n (l.getD j 0)=0:=by unfold Fc;rw [if_neg aA]
 unfold H4;rw [if_neg (λq=>q e),if_neg];intro q;obtain ⟨x,hx,e2⟩:=List.any_eq_true.1 q;have e3:l.getD j 0=x:=of_decide_eq_true e2;obtain ⟨t,ht,e4⟩:=List.mem_iff_getElem.1 hx;rw [List.length_take] at ht;rw [List.getElem_take] at e4
 have:=(List.pairwise_iff_getElem.1 (List.nodup_iff_pairwise_ne.1 h.1)) t j aA hj aA
 rw [EE 0 hj] at e3;exact this (e4.trans e3.symm)) (Nat.le_refl _)
theorem JA.len(h:JA n l):l.length<=n:=IG h.bell
theorem JA.erase(h:JA n l)(i:Nat):JA n (l.eraseIdx i):=⟨h.1.sublist (List.eraseIdx_sublist ..),λx hx=>h.2 x ((List.eraseIdx_sublist ..).subset hx)⟩
theorem JA.left(h:JA n (kn++rest)):JA n kn:=⟨(List.nodup_append.1 h.1).1,λx hx=>h.2 x (List.mem_append_left _ hx)⟩
theorem perm_out{l:List Int}:∀{i:Nat}(hi:i<l.length),([l[i]]++l.eraseIdx i).Perm l:=by
 induction l with
 | nil=>intro i hi;cases hi
 | cons x l ih=>
  intro i hi;cases i with
  | zero=>exact List.Perm.refl _
  | succ i=>exact (List.Perm.swap _ _ _).trans ((ih (Nat.lt_of_succ_lt_succ hi)).cons x)
theorem JA.next(h:JA n (kn++rest))(hi:i<rest.length):JA n (kn++[rest.getD i 0]++rest.eraseIdx i):=by
 have p:(kn++[rest.getD i 0]++rest.eraseIdx i).Perm (kn++rest):=by
  rw [List.append_assoc];refine List.Perm.append_left kn ?_;rw [EE 0 hi];exact perm_out hi
 exact ⟨p.nodup_iff.2 h.1,λx hx=>h.2 x (p.mem_iff.1 hx)⟩
theorem JA.first(n:Nat):JA n (Cv n):=by
 induction n with
 | zero=>exact ⟨List.nodup_nil,λx hx=>by cases hx⟩
 | succ n ih=>
  have m:∀x ∈ Cv n,0<=x/\x<(n:Int):=ih.2;refine ⟨List.nodup_append.2 ⟨ih.1,aD,λa ha b hb e=>?_⟩,λx hx=>?_⟩
  ·rw [List.mem_singleton.1 hb] at e
   have:=m a ha
   omega
  ·rcases List.mem_append.1 hx with hx | hx
   ·have:=m x hx
    omega
   ·rw [List.mem_singleton.1 hx];omega
end
def Ff:Nat->Nat
 | 0=>1
 | n+1=>1+(n+1)*Ff n
theorem QV:∀n,n<=4->Ff n<=65
 | 0,_=>aC
 | 1,_=>aC
 | 2,_=>aC
 | 3,_=>aC
 | 4,_=>aC
 | n+5,h=>aA
theorem XX{n i:Nat}(hn:n<=4)(hi:i<=n):1+i*Ff (n-1)<=65:=by
 rcases Nat.eq_zero_or_pos n with e | e
 ·subst e
  have:i=0:=aA
  subst this;decide
 ·have h:=QV n hn;have e2:Ff n=1+n*Ff (n-1):=by
   cases n with
   | zero=>omega
   | succ n=>rfl
  have:=Nat.mul_le_mul_right (Ff (n-1)) hi
  omega
theorem Vu{n i:Nat}(hi:i=n){m:Nat}(h:m<=1+i*Ff (n-1)):m<=Ff n:=by
 subst hi;cases i with
 | zero=>simp at h;exact h
 | succ i=>exact h
def Hv(n:Nat)(xl:List Sl):Prop:=∀x ∈ xl,JA n x.2
section
variable {n:Nat} {a b:List Sl}
theorem Hv.app(ha:Hv n a)(hb:Hv n b):Hv n (a++b):=λx hx=>(List.mem_append.1 hx).elim (ha x) (hb x)
theorem Hv.one{v:Value}{l:List Int}(h:JA n l):Hv n [(v,l)]:=λx hx=>by rw [List.mem_singleton.1 hx];exact h
theorem Hv.at(h:Hv n a){k:Nat}(hk:k<a.length):JA n (a.getD k Sl.z).2:=h _ (Ba hk)
end
section
variable {l:List Int} {i q:Nat}
theorem erase_lt(hq:q<i):(l.eraseIdx i).getD q 0=l.getD q 0:=by
 rw [List.getD_eq_getElem?_getD,List.getElem?_eraseIdx,if_pos hq,<-List.getD_eq_getElem?_getD]
theorem erase_ge(hq:i<=q):(l.eraseIdx i).getD q 0=l.getD (q+1) 0:=by
 rw [List.getD_eq_getElem?_getD,List.getElem?_eraseIdx,if_neg aA,<-List.getD_eq_getElem?_getD]
end
section
variable {bag kinds:Int} {ps:List ByteArray} {ws:List AJ} {js:List AL} {ns:List AM} {l:List Int} {p:AF} {i:Nat}
theorem addP_all(out ps:List Int)(hl:ps.length=out.length)(j:Nat):(Gp out ps ps.length).getD j 0=out.getD j 0+ps.getD j 0:=by
 rw [Mf out ps hl _ (Nat.le_refl _) j];split
 ·rfl
 ·rw [show ps.getD j 0=0 from Be aA];omega
theorem Ip(bk:BO bag kinds ps ws js ns){l:List Int}{q:Nat}(hq:0<=l.getD q 0/\l.getD q 0<js.length)(j:Nat):(Bt kinds js l (q+1)).getD j 0=(Bt kinds js l q).getD j 0+(js.getD (l.getD q 0).toNat AL.z).parts.getD j 0:=by
 have x:=(NP bk hq).len;exact addP_all _ _ (by rw [IY bk q];omega) j
theorem S6:∀q,q<=i->Bt kinds js (l.eraseIdx i) q=Bt kinds js l q
 | 0,_=>rfl
 | q+1,h=>by unfold Bt;rw [S6 q aA,erase_lt (show q<i by omega)]
theorem loadTo_ge(bk:BO bag kinds ps ws js ns)(hr:JA js.length l)(j:Nat):∀q,i<=q->q+1<=l.length->(Bt kinds js l (q+1)).getD j 0=(Bt kinds js (l.eraseIdx i) q).getD j 0+(js.getD (l.getD i 0).toNat AL.z).parts.getD j 0:=by
 intro q
 induction q with
 | zero=>
  intro h1 h2;have e0:i=0:=aA
  subst e0;rw [Ip bk (hr.at 0 aA) j];rfl
 | succ q ih=>
  intro h1 h2;rcases Nat.lt_or_ge q i with c | c
  ·have e:q+1=i:=aA
   rw [Ip bk (hr.at (q+1) aA) j,S6 (q+1) aA,e]
  ·have g:=erase_ge (l:=l) c;rw [Ip bk (hr.at (q+1) aA) j,ih c aA,Ip bk (by rw [g];exact hr.at (q+1) aA) j,g];omega
theorem load_less(bk:BO bag kinds ps ws js ns)(hr:JA js.length l)(hi:i<l.length)(j:Nat):(Cb kinds js l).getD j 0=(Cb kinds js (l.eraseIdx i)).getD j 0+(js.getD (l.getD i 0).toNat AL.z).parts.getD j 0:=by
 have e:(l.eraseIdx i).length=l.length-1:=List.length_eraseIdx_of_lt hi
 have:=loadTo_ge bk hr j (l.length-1) (i:=i) aA aA
 unfold Cb;rw [e]
 rwa [show l.length-1+1=l.length by omega] at this
end
section
variable {F G:AF->Int} {l:List AF}
end
section
variable {bag kinds:Int} {ps:List ByteArray} {ws:List AJ} {js:List AL} {ns:List AM} {l:List Int} {i k:Nat}
end
end Go.Ns
namespace Go.Ns
section
variable {bag kinds:Int} {ps:List ByteArray} {ws:List AJ} {js:List AL} {ns:List AM} {r l:List Int} {i k:Nat} {s:Int}
theorem UX(hz:BD bag kinds ps ws js ns=0)(hr:JA js.length l):DQ bag kinds ps ws js ns l=0:=(if_neg (λe=>e hz)).trans hr.bell
theorem Id(hz:BD bag kinds ps ws js ns=0)(hr:JA js.length l):D4 bag kinds ps ws js ns l=Cb kinds js l:=if_neg (λe=>e (UX hz hr))
theorem Nd(hz:BD bag kinds ps ws js ns=0)(hr:JA js.length l):((D4 bag kinds ps ws js ns l).length:Int)=kinds:=by
 have bk:=CE hz
 have:=bk.hkin
 rw [Id hz hr,P7 bk];omega
theorem S7(hz:BD bag kinds ps ws js ns=0)(hr:JA js.length l)(j:Nat):0<=(D4 bag kinds ps ws js ns l).getD j 0/\(D4 bag kinds ps ws js ns l).getD j 0<=20:=by
 have:=P8 (CE hz) hr.at j
 have:=hr.len
 have:=(CE hz).jlen
 rw [Id hz hr];omega
theorem XY(hz:BD bag kinds ps ws js ns=0)(hr:JA js.length r)(hi:i<r.length)(j:Nat):(D4 bag kinds ps ws js ns r).getD j 0=(D4 bag kinds ps ws js ns (r.eraseIdx i)).getD j 0+(js.getD (r.getD i 0).toNat AL.z).parts.getD j 0:=by
 rw [Id hz hr,Id hz (hr.erase i)];exact load_less (CE hz) hr hi j
end
end Go.Ns
namespace Go.Ns
section
variable {a b c:List Int} {x y:Int}
end
section
variable {jobs l r:List Int} {f n:Nat}
end
section
variable {g pre:List (List Int)} {x:List Int}
end
section
variable {G:List Int->Int} {l:List (List Int)}
end
end Go.Ns
namespace Go.Ns
section
variable {c:IF} {q i:Nat} {x:Int}
end
section
variable {bag kinds:Int} {ps:List ByteArray} {ws:List AJ} {js:List AL} {ns:List AM} {r:List Int} {k:Nat} {x:Int}
end
theorem Bc.snoc{h:GH}{js:List AL}{x:AL}(a:Bc h js)(b:AH h x.pv 1 eI x.parts):Bc h (js++[x]):=λk=>by
 rw [Gf];split
 ·exact a k
 ·cases hk:k-js.length with
  | zero=>exact b
  | succ n=>rw [Be aD];exact AH.nil _ _ _
end Go.Ns
namespace Go.Ns
open Go.Conc Go Go.RowKit
section
variable {P:Program} {E:Gq P} {O:Nat->Value} {ds:List Deferred} {h:GH} {T:(Nat->Value)->List Deferred->GH->Prop} {dst:Option Nat} {ty:TypeId} {pos:String} {af:Array Edge} {gd:Option (Nat×Bool)}
end
section
variable {ns:List AM} {l:List Int} {k:Nat} {h:GH}
end
section
variable {bag kinds:Int} {ps:List ByteArray} {ws:List AJ} {js:List AL} {ns:List AM}
theorem bell_of(b:BO bag kinds ps ws js ns):BD bag kinds ps ws js ns=0:=by
 refine BS (k:=5) (λj hj=>?_) (Nat.le_refl _)
 match j with
 | 0=>exact if_neg (by have:=b.hbag;have:=b.hkin;omega)
 | 1=>exact (if_neg (by have:=b.plen;omega)).trans (BS b.place (Nat.le_refl _))
 | 2=>exact (MZ (by have:=b.wlen;omega) b.way (Nat.le_refl _)).trans b.led
 | 3=>exact (if_neg (by have:=b.jlen;omega)).trans (BS b.job (Nat.le_refl _))
 | 4=>exact (if_neg (by have:=b.nlen;omega)).trans (BS b.note (Nat.le_refl _))
 | j+5=>omega
end
end Go.Ns
namespace Go.Ns
open Go.Conc
section
variable {ws ws':List AJ} {js:List AL} {ns:List AM} {i k np:Nat} {lo hi n:Int} {p q:AF} {ag:AF->Bool}
end
section
variable {ws:List AJ} {js:List AL} {ns:List AM} {i k:Nat} {n:Int}
end
section
variable {bag kinds:Int} {ps:List ByteArray} {ws:List AJ} {js:List AL} {ns:List AM} {i:Nat} {lo hi x:Int}
end
end Go.Ns
namespace Go.Ns
open Go.Conc
structure Zi(x y:AL):Prop where
 p:x.place=y.place
 lo:x.low=y.low
 hi:x.high=y.high
 du:x.due=y.due
 ps:x.parts=y.parts
structure NSame(x y:AM):Prop where
 ws:x.ways=y.ways
 lo:x.low=y.low
 hi:x.high=y.high
section
variable {ws:List AJ} {js js':List AL} {ns ns':List AM} {bag kinds:Int} {ps:List ByteArray} {i:Nat} {pq:List AF}
theorem Mq(js:List AL)(f:Nat->Value)(n k:Nat):Zi ((EY js f n).getD k AL.z) (js.getD k AL.z):=by
 by_cases h:k<js.length
 ·rw [NY,HQ h];split
  ·exact ⟨rfl,rfl,rfl,rfl,rfl⟩
  ·exact ⟨rfl,rfl,rfl,rfl,rfl⟩
 ·rw [Be (by rw [Io];omega),Be aA];exact ⟨rfl,rfl,rfl,rfl,rfl⟩
theorem Vv(ns:List AM)(f:Nat->Value)(n k:Nat):NSame ((Eo ns f n).getD k AM.z) (ns.getD k AM.z):=by
 by_cases h:k<ns.length
 ·rw [NZ,HQ h];split
  ·exact ⟨rfl,rfl,rfl⟩
  ·exact ⟨rfl,rfl,rfl⟩
 ·rw [Be (by rw [Jr];omega),Be aA];exact ⟨rfl,rfl,rfl⟩
theorem BO.same(b:BO bag kinds ps ws js ns)(hj:js'.length=js.length)(h:∀k,Zi (js'.getD k AL.z) (js.getD k AL.z))(hl:ns'.length=ns.length)(h2:∀k,NSame (ns'.getD k AM.z) (ns.getD k AM.z)):BO bag kinds ps ws js' ns':=
 { b with
  jlen:=by rw [hj];exact b.jlen
  job:=λk hk=>by
   have:=b.job k aA
   unfold FB at this ⊢;rw [(h k).p,(h k).lo,(h k).hi,(h k).du,(h k).ps];exact this
  nlen:=by rw [hl];exact b.nlen
  note:=λk hk=>by
   have:=b.note k aA
   unfold D6 at this ⊢;rw [(h2 k).ws,(h2 k).lo,(h2 k).hi];exact this }
theorem bell_re(hz:BD bag kinds ps ws js ns=0)(f g:Nat->Value):BD bag kinds ps ws (EY js f js.length) (Eo ns g ns.length)=0:=bell_of ((CE hz).same (Io ..) (Mq _ _ _) (Jr ..) (Vv _ _ _))
end
end Go.Ns
namespace Go.Ns
section
variable {ws:List AJ} {p:AF} {x y z u v k l np:Nat} {d e w:Int}
end
section
variable {bag kinds:Int} {ps:List ByteArray} {ws:List AJ} {js:List AL} {ns:List AM} {p:AF} {x y v k n:Nat} {d w:Int}
end
end Go.Ns
namespace Go.Ns
section
variable {S:Nat->Int×Int}
end
section
variable {ws:List AJ} {js:List AL} {ns:List AM} {ag:AF->Bool}
end
end Go.Ns
namespace Go.Ns
section
variable {np x i k:Nat} {o:Nat->Int} {v:Int} {ws:List AJ} {p:AF}
end
section
variable {bag kinds:Int} {ps:List ByteArray} {ws:List AJ} {js:List AL} {ns:List AM} {p:AF} {x i:Nat}
end
section
variable {F:AF->Int} {pq:List AF} {hl:List (List Int×List Int)}
end
end Go.Ns
namespace Go.Ns
open Go.Conc
section
variable {S:Nat->Int×Int}
end
section
variable {bag kinds:Int} {ps:List ByteArray} {ws:List AJ} {js:List AL} {ns:List AM} {k:Nat}
section
variable {W K:List (List Int)} {i j:Nat}
end
end
section
variable {bag kinds:Int} {ps:List ByteArray} {ws:List AJ} {js:List AL} {ns:List AM} {l:List Int} {p:AF}
end
section
variable {G:AF->Int} {pq:List AF} {due:Int}
end
section
variable {bag kinds:Int} {ps:List ByteArray} {ws:List AJ} {js:List AL} {ns:List AM} {l:List Int}
end
section
variable {G:AF->Int} {pq:List AF} {due v:Int} {i:Nat}
end
end Go.Ns
namespace Go.Ns
section
variable {bag kinds:Int} {ps:List ByteArray} {ws:List AJ} {js js':List AL} {ns:List AM} {l:List Int} {p:AF} {np:Nat} {pq:List AF} {f g:Nat->Value} {i:Int}
variable (hl:js'.length=js.length) (h:∀k,Zi (js'.getD k AL.z) (js.getD k AL.z))
include h
theorem Nf:∀q,Bt kinds js' l q=Bt kinds js l q
 | 0=>rfl
 | q+1=>by unfold Bt;rw [Nf q,(h _).ps]
include hl
end
section
variable {bag kinds:Int} {ps:List ByteArray} {ws:List AJ} {js:List AL} {ns:List AM} {l:List Int} {i:Int}
variable (hz:BD bag kinds ps ws js ns=0) (f g:Nat->Value)
include hz
end
end Go.Ns
namespace Go.Ns
section
variable {F G:AF->Int} {l m:List AF}
end
section
variable {bag kinds:Int} {ps:List ByteArray} {ws:List AJ} {js:List AL} {ns:List AM} {l:List Int} {p q:AF} {j:AL} {k:Nat}
theorem jget(h:k<js.length):(js++[j]).getD k AL.z=js.getD k AL.z:=by rw [Gf,if_pos h]
theorem S8:(js++[j]).getD js.length AL.z=j:=by rw [Gf,if_neg (Nat.lt_irrefl _),Nat.sub_self];rfl
theorem JA.more(hr:JA js.length l):JA (js++[j]).length l:=⟨hr.1,λx hx=>by have:=hr.2 x hx;rw [List.length_append,List.length_singleton];omega⟩
theorem load_snoc(hr:JA js.length l):Cb kinds (js++[j]) l=Cb kinds js l:=by
 have key:∀i,i<=l.length->Bt kinds (js++[j]) l i=Bt kinds js l i:=λi=>by
  induction i with
  | zero=>intro _;rfl
  | succ i ih=>
   intro h;have r:=hr.at i aA;unfold Bt;rw [ih aA,jget aA]
 exact key _ (Nat.le_refl _)
variable (bk:BO bag kinds ps ws js ns) (hj:j.low<=j.high) (ht:0<(AG ws js ns).length) (hr:JA js.length l)
include bk hj ht hr
end
section
variable {bag kinds:Int} {ps:List ByteArray} {ws:List AJ} {js:List AL} {ns:List AM} {l:List Int} {j:AL}
variable (hz:BD bag kinds ps ws js ns=0) (hz2:BD bag kinds ps ws (js++[j]) ns=0)
include hz hz2
end
end Go.Ns
namespace Go.Ns
structure AN where
 nm:ByteArray
 cost:Int
 stock:Int
 low:Int
 high:Int
 pv:Value
 fits:List Int
structure Ch where
 wv:Value
 parts:List Int
 low:Int
 high:Int
def CO(x:AN):Array Value:=#[.string x.nm,.int .i64 x.cost,.int .i64 x.stock,.int .i64 x.low,.int .i64 x.high,x.pv]
def D5(x:Ch):Array Value:=#[x.wv,.int .i64 x.low,.int .i64 x.high]
def AN.z:AN:=⟨⟨#[]⟩,0,0,0,0,.slice none 0 0,[]⟩
def Ch.z:Ch:=⟨.slice none 0 0,[],0,0⟩
def CY(h:GH)(qs:List AN):Prop:=∀k,AH h (qs.getD k AN.z).pv 1 eI (qs.getD k AN.z).fits
def CZ(h:GH)(us:List Ch):Prop:=∀k,AH h (us.getD k Ch.z).wv 1 eI (us.getD k Ch.z).parts
theorem CY.le{h h':GH}{qs:List AN}(x:CY h qs)(l:h.Le h'):CY h' qs:=λk=>(x k).le l
theorem CZ.le{h h':GH}{us:List Ch}(x:CZ h us)(l:h.Le h'):CZ h' us:=λk=>(x k).le l
def apP(a b:Int)(x:Int×Int):Bool:=decide (x.1=a/\x.2=b\/x.1=b/\x.2=a)
def XZ(l:List Int)(many:Int):Prop:=∀i,i<l.length->(0<=l.getD i 0/\l.getD i 0<=many-1)/\(0<i->l.getD ((i:Int)-1).toNat 0<l.getD i 0)
def Xa(pls:Int)(qs:List AN)(k:Nat):Prop:=
 Dm (qs.getD k AN.z).nm=true/\((qs.take k).any (λy=>y.nm.toList==(qs.getD k AN.z).nm.toList))=false/\(0<=(qs.getD k AN.z).cost/\(qs.getD k AN.z).cost<=99)/\(0<=(qs.getD k AN.z).stock/\(qs.getD k AN.z).stock<=3)/\
  IV (qs.getD k AN.z).low (qs.getD k AN.z).high 20 4/\XZ (qs.getD k AN.z).fits pls
def PairOK(np:Nat)(pr:List (Int×Int))(k:Nat):Prop:=
 (0<=(pr.getD k (0,0)).1/\(pr.getD k (0,0)).1<=(np:Int)-1)/\(0<=(pr.getD k (0,0)).2/\(pr.getD k (0,0)).2<=(np:Int)-1)/\(pr.getD k (0,0)).1<=(pr.getD k (0,0)).2/\((pr.take k).any (λy=>(y.1==(pr.getD k (0,0)).1 && (y.2==(pr.getD k (0,0)).2 && true))))=false
def UY(np:Nat)(m:List Int):Prop:=∀i,i<m.length->0<=m.getD i 0/\m.getD i 0<=(np:Int)-1
def Jw(qs:List AN)(pr:List (Int×Int))(m:List Int)(i:Nat):Prop:=
 (i:Int) ∈ (qs.getD (m.getD i 0).toNat AN.z).fits/\(0<i->pr.any (apP (m.getD ((i:Int)-1).toNat 0) (m.getD i 0))=false)
def Kg(pls:Int)(qs:List AN)(pr:List (Int×Int))(m:List Int):Prop:=(m.length:Int)=pls/\UY qs.length m/\∀i,i<m.length->Jw qs pr m i
def Zj(pls:Int)(qs:List AN):Prop:=(1<=(qs.length:Int)/\(qs.length:Int)<=5)/\∀k,k<qs.length->Xa pls qs k
def Zk(np:Nat)(pr:List (Int×Int)):Prop:=¬(5:Int)<pr.length/\∀k,k<pr.length->PairOK np pr k
def TryOK(pls:Int)(qs:List AN)(pr:List (Int×Int))(us:List Ch)(k:Nat):Prop:=Kg pls qs pr (us.getD k Ch.z).parts/\((0<=(us.getD k Ch.z).low/\(us.getD k Ch.z).low<=(us.getD k Ch.z).high)/\(us.getD k Ch.z).high<=99)
structure F4(beat pls:Int)(qs:List AN)(pr:List (Int×Int))(us:List Ch):Prop where
 hbt:0<beat/\beat<=99
 hpl:0<pls/\pls<=4
 hqs:Zj pls qs
 hpr:Zk qs.length pr
 hus:¬(4:Int)<us.length/\∀k,k<us.length->TryOK pls qs pr us k
theorem F4.qlen{beat pls:Int}{qs:List AN}{pr:List (Int×Int)}{us:List Ch}(b:F4 beat pls qs pr us):0<qs.length/\qs.length<=5:=by
 have:=b.hqs.1;omega
theorem apP_min{pr:List (Int×Int)}{a b:Int}(h:pr.any (apP a b)=false):pr.any (λx=>(min a b==x.1 && (max a b==x.2 && true)))=false:=by
 rw [List.any_eq_false] at h ⊢;intro x hx
 have:=h x hx
 unfold apP at this;simp only [decide_eq_true_eq,Bool.and_true,Bool.and_eq_true,beq_iff_eq] at this ⊢;intro q;apply this;rcases Int.le_total a b with e | e
 ·rw [Int.min_eq_left e,Int.max_eq_right e] at q;exact .inl ⟨q.1.symm,q.2.symm⟩
 ·rw [Int.min_eq_right e,Int.max_eq_left e] at q;exact .inr ⟨q.1.symm,q.2.symm⟩
theorem Vw{V:Type}{p:V->Bool}{l:List V}{j k:Nat}(h:(l.take j).any p=false)(e:j=k):(l.take k).any p=false:=e▸h
theorem great5_nm{qs:List AN}(h:∀k,k<qs.length->(qs.getD k AN.z).nm.size<=1000)(k:Nat):(qs.getD k AN.z).nm.size<=1000:=by
 by_cases e:k<qs.length
 ·exact h k e
 ·rw [Be aA];exact Nat.zero_le _
def Lc(qs:List AN)(pr:List (Int×Int))(m:List Int):Prop:=UY qs.length m/\∀i,i<m.length->Jw qs pr m i
def Jx(qs:List AN)(i:Int)(c:List Int):Prop:=∀x ∈ c,(0<=x/\x<=(qs.length:Int)-1)/\i ∈ (qs.getD x.toNat AN.z).fits
def Dw(qs:List AN)(pr:List (Int×Int))(n:Nat)(xl:List Sl):Prop:=∀x ∈ xl,x.2.length=n/\Lc qs pr x.2
section
variable {qs:List AN} {pr:List (Int×Int)} {m c:List Int} {n:Nat} {x:Int} {a b:List Sl}
theorem Jx.nil{i:Int}:Jx qs i []:=λ_ h=>by cases h
theorem Jx.snoc{i:Int}{k:Nat}(h:Jx qs i c)(hk:k<qs.length)(e:i ∈ (qs.getD k AN.z).fits):Jx qs i (c++[(k:Int)]):=λx hx=>by
 rcases List.mem_append.1 hx with q | q
 ·exact h x q
 ·rw [List.mem_singleton.1 q];exact ⟨aA,by simpa using e⟩
theorem Lc.nil:Lc qs pr []:=⟨λi h=>(by cases h),λi h=>(by cases h)⟩
theorem Lc.snoc(h:Lc qs pr m)(r:0<=x/\x<=(qs.length:Int)-1)(f:(m.length:Int) ∈ (qs.getD x.toNat AN.z).fits)(ap:m.length=0\/pr.any (apP (m.getD ((m.length:Int)-1).toNat 0) x)=false):Lc qs pr (m++[x]):=by
 have last:(m++[x]).getD m.length 0=x:=by rw [Gf,if_neg (Nat.lt_irrefl _),Nat.sub_self];rfl
 have low:∀i,i<m.length->(m++[x]).getD i 0=m.getD i 0:=λi hi=>by rw [Gf,if_pos hi]
 refine ⟨λi hi=>?_,λi hi=>?_⟩
 ·rw [List.length_append,List.length_singleton] at hi;rcases Nat.lt_succ_iff_lt_or_eq.1 hi with q | rfl
  ·rw [low i q];exact h.1 i q
  ·rw [last];exact r
 ·rw [List.length_append,List.length_singleton] at hi;rcases Nat.lt_succ_iff_lt_or_eq.1 hi with q | rfl
  ·have:=h.2 i q
   unfold Jw at this ⊢;rw [low i q];refine ⟨this.1,λh0=>?_⟩;rw [low _ aA];exact this.2 h0
  ·unfold Jw;rw [last];refine ⟨f,λh0=>?_⟩;rcases ap with e | e
   ·omega
   ·rw [low _ aA];exact e
theorem Dw.nil:Dw qs pr n []:=λ_ h=>by cases h
theorem Dw.app(ha:Dw qs pr n a)(hb:Dw qs pr n b):Dw qs pr n (a++b):=λx hx=>(List.mem_append.1 hx).elim (ha x) (hb x)
theorem Dw.one{v:Value}(hl:m.length=n)(h:Lc qs pr m):Dw qs pr n [(v,m)]:=λx hx=>by rw [List.mem_singleton.1 hx];exact ⟨hl,h⟩
theorem Dw.at(h:Dw qs pr n a){k:Nat}(hk:k<a.length):(a.getD k Sl.z).2.length=n/\Lc qs pr (a.getD k Sl.z).2:=h _ (Ba hk)
theorem Dw.mach(h:Dw qs pr n a){pls:Int}(e:(n:Int)=pls){k:Nat}(hk:k<a.length):Kg pls qs pr (a.getD k Sl.z).2:=by
 have:=h.at hk
 exact ⟨by rw [this.1];exact e,this.2.1,this.2.2⟩
theorem part_ok{pls:Int}{k:Nat}(h1:(!Dm (qs.getD k AN.z).nm)=false)(h2:((qs.take k).any (λy=>y.nm.toList==(qs.getD k AN.z).nm.toList))=false)
  (h3:¬(((¬(0<=(qs.getD k AN.z).cost/\(qs.getD k AN.z).cost<=99)\/¬(0<=(qs.getD k AN.z).stock/\(qs.getD k AN.z).stock<=3))\/¬((0<=(qs.getD k AN.z).low/\(qs.getD k AN.z).low<=(qs.getD k AN.z).high)/\(qs.getD k AN.z).high<=20))\/4<=(qs.getD k AN.z).high-(qs.getD k AN.z).low))
  (h4:XZ (qs.getD k AN.z).fits pls):Xa pls qs k:=⟨by simpa using h1,h2,aA,aA,by unfold IV;omega,h4⟩
theorem place_ok{q:Nat}(h:(q:Int) ∈ (qs.getD (m.getD q 0).toNat AN.z).fits)(e:¬0<(q:Int)):Jw qs pr m q:=⟨h,λh0=>aA⟩
theorem place_ok2{q:Nat}(h:(q:Int) ∈ (qs.getD (m.getD q 0).toNat AN.z).fits)(e:pr.any (apP (m.getD ((q:Int)-1).toNat 0) (m.getD q 0))=false):Jw qs pr m q:=⟨h,λ_=>e⟩
end
def pw5:Nat->Nat
 | 0=>1
 | n+1=>5*pw5 n
theorem pw5_le{i:Nat}(h:i<=4):pw5 i<=625:=by
 match i,h with
 | 0,_=>decide
 | 1,_=>decide
 | 2,_=>decide
 | 3,_=>decide
 | 4,_=>decide
theorem Vx{qs:List AN}{pr:List (Int×Int)}{m:List Int}{i:Nat}{x:Int}{v:Value}(h:m.length=i/\Lc qs pr m)(f:(0<=x/\x<=(qs.length:Int)-1)/\(i:Int) ∈ (qs.getD x.toNat AN.z).fits)
  (ap:i=0\/pr.any (apP (m.getD ((i:Int)-1).toNat 0) x)=false):Dw qs pr (i+1) [(v,m++[x])]:=by
 obtain ⟨e,p⟩:=h;subst e;exact Dw.one (by rw [List.length_append];rfl) (p.snoc f.1 f.2 ap)
theorem mach_any{pls:Int}{qs:List AN}{pr:List (Int×Int)}{m:List Int}(h:Kg pls qs pr m):m.any (λx=>decide (¬(0<=x/\x<=(qs.length:Int)-1)))=false:=by
 rw [List.any_eq_false];intro x hx;obtain ⟨q,hq,rfl⟩:=List.mem_iff_getElem.1 hx
 have:=h.2.1 q hq
 rw [EE 0 hq] at this;simpa using this
theorem has_fits{l:List Int}{k:Int}(h:k ∈ l):l.any (λx=>decide (k=x))=true:=List.any_eq_true.2 ⟨k,h,decide_eq_true rfl⟩
theorem pair_any{l:List (Int×Int)}{p:Int×Int}(h:l.any (λy=>(y.1==p.1 && (y.2==p.2 && true)))=false):l.any (λx=>(p.1==x.1 && (p.2==x.2 && true)))=false:=by
 rw [List.any_eq_false] at h ⊢;intro x hx
 have:=h x hx
 simp only [Bool.and_true,Bool.and_eq_true,beq_iff_eq] at this ⊢;exact λq=>this ⟨q.1.symm,q.2.symm⟩
def LD(l:List Int):Array Value:=#[.int .i64 (l.getD 0 0),.int .i64 (l.getD 1 0),.int .i64 (l.getD 2 0),.int .i64 (l.getD 3 0)]
theorem QW(l:List Int):(Value.agg (LD l)).cells.size=4:=rfl
theorem QX(l:List Int):Value.fine (.agg (LD l))=true:=rfl
theorem UZ(l:List Int):0+4<=(LD l).size:=Nat.le_refl 4
theorem Ua(l m:List Int):BZ (LD l) 0 (Value.agg (LD m)).cells.toList=LD m:=by
 simp [Value.cells,LD,BZ]
theorem outsD3{P:Program}{O:Nat->Value}{h:GH}{fn:Func}{R:Value->GH->Prop}{a u s:Tmp}{t t':TypeId}{b off b' off':Nat}{v v' v2:Value}(hr:fn.results=#[.cell a t,.cell u t',.tmp s])(ha:O a=.pointer (some ⟨b,off,none⟩))(hv:Rd P h t b off v)
  (hu:O u=.pointer (some ⟨b',off',none⟩)) (hv':Rd P h t' b' off' v') (hv2:O s=v2) (x:R (.tuple #[v,v',v2]) h):GU P fn O R [] h:=by
 unfold GU;rw [hr];subst hv2;exact ⟨b,off,v,ha,hv,b',off',v',hu,hv',x⟩
theorem m4_sl{h:GH}{r n:Nat}{p:Bool}{l:List Int}{t:TypeId}{f:Nat×Nat}(hb:h r=some (p,.cells (LD l) t f))(hl:l.length<=4)(hn:n=l.length):AH h (.slice (some ⟨r,0,none⟩) n 4) 1 eI l:=by
 subst hn;refine ⟨some ⟨r,0,none⟩,4,rfl,hl,aA,λi hi=>⟨r,0,rfl,p,_,t,f,hb,?_,?_⟩⟩
 ·show 0+i*1+1<=4;omega
 ·rw [<-EE 0 hi];have h4:i<4:=aA
  match i,h4 with
  | 0,_=>rfl
  | 1,_=>rfl
  | 2,_=>rfl
  | 3,_=>rfl
theorem m4_copy{l:List Int}(h:l.length<=4):BZ (LD []) 0 (DS eI l)=LD l:=by
 match l,h with
 | [],_=>rfl
 | [a],_=>rfl
 | [a,b],_=>rfl
 | [a,b,c],_=>rfl
 | [a,b,c,d],_=>rfl
end Go.Ns
namespace Go.Ns
section
variable {kinds:Int} {m:List Int}
def FI(kinds:Int)(m:List Int):Nat->List Int
 | 0=>List.replicate kinds.toNat 0
 | q+1=>if m.getD q 0<kinds then (FI kinds m q).set (m.getD q 0).toNat ((FI kinds m q).getD (m.getD q 0).toNat 0+1) else FI kinds m q
theorem cntP_t{q:Nat}(h:m.getD q 0<kinds):(FI kinds m q).set (m.getD q 0).toNat ((FI kinds m q).getD (m.getD q 0).toNat 0+1)=FI kinds m (q+1):=(if_pos h).symm
theorem cntP_f{q:Nat}(h:¬m.getD q 0<kinds):FI kinds m q=FI kinds m (q+1):=(if_neg h).symm
theorem QY:∀q,(FI kinds m q).length=kinds.toNat
 | 0=>List.length_replicate
 | q+1=>by unfold FI;split <;> simp [QY q]
theorem Vy{l:List Int}{i j:Nat}{x:Int}:(l.set i x).getD j 0=if i=j/\i<l.length then x else l.getD j 0:=by
 rw [List.getD_eq_getElem?_getD,List.getElem?_set];by_cases e:i=j
 ·subst e;by_cases h:i<l.length
  ·rw [if_pos rfl,if_pos h,if_pos ⟨rfl,h⟩];rfl
  ·rw [if_pos rfl,if_neg h,if_neg (λq=>h q.2),Be aA];rfl
 ·rw [if_neg e,if_neg (λq=>e q.1),<-List.getD_eq_getElem?_getD]
theorem Mr:∀q j,0<=(FI kinds m q).getD j 0/\(FI kinds m q).getD j 0<=q
 | 0,j=>by
  unfold FI;rw [List.getD_eq_getElem?_getD,List.getElem?_replicate];split <;> simp
 | q+1,j=>by
  have h1:=Mr q j;have h2:=Mr q (m.getD q 0).toNat;unfold FI;split
  ·rw [Vy];split <;> omega
  ·omega
theorem QZ(hm:∀i,i<m.length->0<=m.getD i 0):∀q,q<=m.length->∀j,0<(FI kinds m q).getD j 0->(j:Int) ∈ m
 | 0,_,j,h=>by
  unfold FI at h;rw [List.getD_eq_getElem?_getD,List.getElem?_replicate] at h;split at h <;> simp at h
 | q+1,hq,j,h=>by
  unfold FI at h;split at h
  ·rw [Vy] at h;split at h
   ·rename_i e
    have h0:=hm q aA;rw [show (j:Int)=m.getD q 0 by omega];exact Ba aA
   ·exact QZ hm q aA j h
  ·exact QZ hm q aA j h
def JB(ys:List Int):Nat->Int
 | 0=>0
 | k+1=>if 0<ys.getD k 0 then JB ys k+1 else JB ys k
theorem kinN_t{ys:List Int}{k:Nat}(h:0<ys.getD k 0):JB ys k+1=JB ys (k+1):=(if_pos h).symm
theorem kinN_f{ys:List Int}{k:Nat}(h:¬0<ys.getD k 0):JB ys k=JB ys (k+1):=(if_neg h).symm
theorem Vz(ys:List Int):∀k,0<=JB ys k/\JB ys k<=k
 | 0=>⟨Int.le_refl _,Int.le_refl _⟩
 | k+1=>by
  have:=Vz ys k
  unfold JB;split <;> omega
theorem Xb(s:List Int)(k:Int):(s.filter λx=>decide (x<k+1)).length=(s.filter λx=>decide (x<k)).length+(s.filter λx=>decide (x=k)).length:=by
 induction s with
 | nil=>rfl
 | cons a s ih=>
  simp only [List.filter_cons,decide_eq_true_eq];by_cases h1:a<k
  ·rw [if_pos aA,if_pos h1,if_neg aA];simp only [List.length_cons];omega
  ·by_cases h2:a=k
   ·rw [if_pos aA,if_neg h1,if_pos h2];simp only [List.length_cons];omega
   ·rw [if_neg aA,if_neg h1,if_neg h2];omega
theorem kinN_le{ys s:List Int}(h:∀j:Nat,0<ys.getD j 0->(j:Int) ∈ s)(k:Nat):JB ys k<=(s.length:Int):=by
 have key:∀k:Nat,JB ys k<=((s.filter λx=>decide (x<(k:Int))).length:Int):=λk=>by
  induction k with
  | zero=>show (0:Int)<=_;omega
  | succ k ih=>
   have e:=Xb s k;rw [show ((k:Int)+1)=((k+1:Nat):Int) by omega] at e;unfold JB;split
   ·rename_i q
    have:=List.length_pos_of_mem (List.mem_filter.2 ⟨h k q,decide_eq_true rfl⟩:(k:Int) ∈ s.filter λx=>decide (x=(k:Int)))
    omega
   ·omega
 have h1:=key k;have h2:=List.length_filter_le (λx=>decide (x<(k:Int))) s;omega
theorem S9:∀(l acc:List Int)(x:Int),x ∈ l.foldl KN acc↔x ∈ acc\/x ∈ l
 | [],acc,x=>aD
 | a ::l,acc,x=>by
  rw [List.foldl_cons,S9 l,List.mem_cons]
  have:x ∈ KN acc a↔x ∈ acc\/x=a:=by
   unfold KN;split
   ·rename_i e
    exact ⟨.inl,λq=>q.elim id λq=>q▸List.mem_of_getLast? e⟩
   ·simp
  rw [this,or_assoc]
theorem mem_each{l:List Int}{x:Int}:x ∈ CI (DK l)↔x ∈ l:=by
 unfold CI;rw [S9,MV,List.mem_mergeSort];simp
end
section
variable {bag kinds:Int} {ps:List ByteArray} {ws:List AJ} {js:List AL} {ns:List AM} {r parts:List Int} {pv:Value}
def Dl(pv:Value)(parts:List Int):AL:=⟨0,0,0,200,pv,parts⟩
theorem call_bell(hz:BD bag kinds ps ws js ns=0)(h4:js.length<4)(hl:(parts.length:Int)=kinds)(hr:∀j,0<=parts.getD j 0/\parts.getD j 0<=5):BD bag kinds ps ws (js++[Dl pv parts]) ns=0:=by
 have bk:=CE hz;unfold BD;refine BS (k:=5) (λi hi=>?_) (Nat.le_refl _);have h0:=Cy hz i (Nat.zero_le _) aA
 match i,hi with
 | 0,_=>exact h0
 | 1,_=>exact h0
 | 2,_=>exact h0
 | 4,_=>exact h0
 | 3,_=>
  show Br ps.length kinds (js++[Dl pv parts])=0;have h1:Br ps.length kinds js=0:=h0;unfold Br at h1 ⊢;rw [if_neg aA] at h1;rw [if_neg (by rw [List.length_append,List.length_singleton];omega)];refine BS (k:=(js++[Dl pv parts]).length) (λk hk=>?_) (Nat.le_refl _);rw [List.length_append,List.length_singleton] at hk;by_cases e:k<js.length
  ·have h2:=Cy h1 k (Nat.zero_le _) aA;unfold FB at h2 ⊢;rw [jget e];exact h2
  ·have e2:k=js.length:=aA
   subst e2;unfold FB;rw [S8];have hp:=bk.plen;rw [if_neg,if_neg,if_neg,if_neg]
   ·rw [List.any_eq_true];rintro ⟨x,hx,hy⟩;obtain ⟨q,hq,rfl⟩:=List.mem_iff_getElem.1 hx
    have:=hr q
    rw [EE 0 (show q<parts.length from hq)] at this;have hy:=of_decide_eq_true hy;show False;exact hy this
   ·exact λq=>q hl
   ·show¬(¬IV 0 0 30 2\/¬((0:Int)<=200/\(200:Int)<=200))
    unfold IV;omega
   ·exact λq=>q (BS (k:=1) (λj hj=>by
     have:j=0:=aA
     subst this;unfold Ek;rw [if_neg]
     show¬¬((0:Int)<=0/\(0:Int)<=(ps.length:Int)-1)
     omega) (Nat.le_refl _))
theorem JA.last(hr:JA js.length r){j:AL}:JA (js++[j]).length (r++[(js.length:Int)]):=by
 refine ⟨?_,λx hx=>?_⟩
 ·refine List.nodup_append.2 ⟨hr.1,aD,λa ha b hb=>?_⟩;rw [List.mem_singleton.1 hb]
  have:=hr.2 a ha
  omega
 ·rw [List.length_append,List.length_singleton];rcases List.mem_append.1 hx with q | q
  ·have:=hr.2 x q;omega
  ·rw [List.mem_singleton.1 q];omega
theorem load_last{j:AL}(hz:BD bag kinds ps ws js ns=0)(hz2:BD bag kinds ps ws (js++[j]) ns=0)(hr:JA js.length r)(i:Nat) :
  (D4 bag kinds ps ws (js++[j]) ns (r++[(js.length:Int)])).getD i 0=(D4 bag kinds ps ws js ns r).getD i 0+j.parts.getD i 0:=by
 have e:(r++[(js.length:Int)]).eraseIdx r.length=r:=by
  rw [List.eraseIdx_append_of_length_le (Nat.le_refl _),Nat.sub_self];simp
 rw [XY hz2 hr.last (i:=r.length) aD i,e,Id hz2 hr.more,Id hz hr,load_snoc hr];have e2:(r++[(js.length:Int)]).getD r.length 0=(js.length:Int):=by rw [Gf,if_neg (Nat.lt_irrefl _),Nat.sub_self];rfl
 rw [e2,Int.toNat_natCast,S8]
variable (hz:BD bag kinds ps ws js ns=0) {f g:Nat->Value}
include hz
theorem Ub{l:List Int}:DQ bag kinds ps ws (EY js f js.length) (Eo ns g ns.length) l=DQ bag kinds ps ws js ns l:=by
 unfold DQ;rw [bell_re hz f g,hz,Io]
theorem Zl{l:List Int}:D4 bag kinds ps ws (EY js f js.length) (Eo ns g ns.length) l=D4 bag kinds ps ws js ns l:=by
 unfold D4 Cb;rw [Ub hz,Nf (Mq _ _ _)]
theorem re_fits{l:List Int}:Hu bag kinds ps ws (EY js f js.length) (Eo ns g ns.length) l=Hu bag kinds ps ws js ns l:=by
 unfold Hu Cb;rw [Ub hz,Nf (Mq _ _ _)]
variable {j:AL} (hz2:BD bag kinds ps ws (js++[j]) ns=0) (hr:JA js.length r) (f g:Nat->Value)
include hz2 hr
omit hz in
theorem p_hand:DQ bag kinds ps ws (EY (js++[j]) f (js++[j]).length) (Eo ns g ns.length) (r++[(js.length:Int)])=0:=by
 rw [Ub hz2];exact UX hz2 hr.last
theorem Xc:((D4 bag kinds ps ws (EY (js++[j]) f (js++[j]).length) (Eo ns g ns.length) (r++[(js.length:Int)])).length:Int)=kinds/\
  ∀i,(D4 bag kinds ps ws (EY (js++[j]) f (js++[j]).length) (Eo ns g ns.length) (r++[(js.length:Int)])).getD i 0=(D4 bag kinds ps ws js ns r).getD i 0+j.parts.getD i 0/\
   0<=(D4 bag kinds ps ws (EY (js++[j]) f (js++[j]).length) (Eo ns g ns.length) (r++[(js.length:Int)])).getD i 0/\(D4 bag kinds ps ws (EY (js++[j]) f (js++[j]).length) (Eo ns g ns.length) (r++[(js.length:Int)])).getD i 0<=20:=by
 rw [Zl hz2];exact ⟨Nd hz2 hr.last,λi=>⟨load_last hz hz2 hr i,S7 hz2 hr.last i⟩⟩
omit hz in
theorem p_fits:Hu bag kinds ps ws (EY (js++[j]) f (js++[j]).length) (Eo ns g ns.length) (r++[(js.length:Int)])=decide ((D4 bag kinds ps ws (EY (js++[j]) f (js++[j]).length) (Eo ns g ns.length) (r++[(js.length:Int)])).sum<=bag):=by
 rw [Zl hz2,re_fits hz2,Id hz2 hr.last];exact if_neg (λe=>e (UX hz2 hr.last))
end
theorem V0{w:Value}(h:w.cells=#[w]):Instr.fill (λx=>#[(0,1),(1,2),(3,1),(4,1)][x]?) #[.int .i64 0,.int .i64 0,.int .i64 0,.int .i64 0,.slice none 0 0] [(2,.int .i64 200),(3,w)]=some #[.int .i64 0,.int .i64 0,.int .i64 0,.int .i64 200,w]:=by
 have e1:(Value.int .i64 200).cells=#[.int .i64 200]:=rfl;simp [Instr.fill,h,e1]
end Go.Ns
namespace Go.Ns
open Go.Conc
universe u
theorem Z{V:Sort u}{a:V}:a=a:=rfl
theorem Lr{h:GH}:GH.Le h h:=GH.Le.refl h
theorem Ln{h h':GH}(l:h.Le h'){r:Nat}(hr:h' r=none):h r=none:=l.nothing hr
theorem CQ{h:GH}{b r:Nat}{p:Bool}{o:Obj}(hb:h b=some (p,o))(hr:h r=none):b≠r:=GH.ne_of hb hr
theorem Nb{a b:Nat}(h:Nat.ble a b=true):a<=b:=Nat.le_of_ble_eq_true h
theorem Dn{p:Prop}[Decidable p](h:¬¬p):p:=Decidable.not_not.1 h
theorem Et{V:Sort u}{a b c:V}(x:a=b)(y:b=c):a=c:=x.trans y
theorem Kl{h0 h:GH}(k:KeepD (λb=>h0 b=none) h0 h):h0.Le h:=k.leOf
theorem Bx{h:GH}{b:Nat}{p:Bool}{c:Array Value}{t:TypeId}{f:Nat×Nat}(hb:h b=some (p,.cells c t f)){n:Nat}(hn:c.size=n):AT h b 0 n c:=AT.box hb hn
abbrev lE(v:Value):Law2:=λ_ u _=>u=v
abbrev lF(v:Value):SP:=λu _=>u=v
abbrev zP:Array Value:=#[.int .i64 0,.int .i64 0,.slice none 0 0,.slice none 0 0,.slice none 0 0,.slice none 0 0,.map none]
section
variable {P:Program} {E:Gq P} {O:Nat->Value} {ds:List Deferred} {h:GH} {Q:Post} {T:(Nat->Value)->List Deferred->GH->Prop}
variable {dst:Option Nat} {ty:TypeId} {pos:String} {af:Array Edge} {ops:Array Oper} {o:Oper} {l:List Oper}
theorem Sq{x y:Code}(a:Tr E x O ds h (λe σ' ds' h'=>match e with | .normal=>Tr E y σ' ds' h' Q | e=>Q e σ' ds' h')):Tr E (.seq x y) O ds h Q:=tr_seq a
theorem Rg{id:Nat}{l:List Oper}(a:DL E l.toArray l O ds h Q):Tr E (.region id l.toArray false) O ds h Q:=Zu a
theorem Nl(q:Q .normal O ds h):DL E ops [] O ds h Q:=trL_nil q
abbrev Rt:=@tr_ret
abbrev Bk:=@tr_block
abbrev Sk:=@tr_skip
abbrev Xt:=@tr_exit
def plainB(N:Nat)(o:Oper):Bool:=o.guard.isNone && !C6 o.op && C3 o.dst N
theorem Pl(hp:plainB E.N o=true)(x:BQ E o O ds h λσ' ds' h'=>DL E ops l σ' ds' h' Q):DL E ops (o ::l) O ds h Q:=by
 simp only [plainB,Bool.and_eq_true,Option.isNone_iff_eq_none,Bool.not_eq_true'] at hp;exact Gu hp.1.1 hp.1.2 hp.2 x
theorem Mv{x:Operand}(v:Value)(hp:C3 dst E.N=true)(hx:AQ O x=v)(k:DL E ops l (putS O dst v) ds h Q):DL E ops (⟨dst,.move x,ty,pos,af,none⟩ ::l) O ds h Q:=Gu rfl rfl hp (Tp hx k)
theorem As{x:Operand}(v:Value)(hp:C3 dst E.N=true)(hx:AQ O x=v)(k:DL E ops l (putS O dst v) ds h Q):DL E ops (⟨dst,.assign x,ty,pos,af,none⟩ ::l) O ds h Q:=Gu rfl rfl hp (FV hx k)
theorem Ld{t:TypeId}{x:Operand}{b off:Nat}(v:Value)(hp:C3 dst E.N=true)(hx:AQ O x=.pointer (some ⟨b,off,none⟩))(hr:Rd P h t b off v)(k:DL E ops l (putS O dst v) ds h Q):DL E ops (⟨dst,.load t x,ty,pos,af,none⟩ ::l) O ds h Q:=
 Gu rfl rfl hp (BT hx hr k)
theorem Fa{s:TypeId}{x:Operand}{f o b off:Nat}(hf:Cm P s f=some o)(hp:C3 dst E.N=true)(hx:AQ O x=.pointer (some ⟨b,off,none⟩))(k:DL E ops l (putS O dst (.pointer (some ⟨b,off+o,none⟩))) ds h Q) :
  DL E ops (⟨dst,.fieldAddr s x f,ty,pos,af,none⟩ ::l) O ds h Q:=Gu rfl rfl hp (AC hf hx k)
theorem Pk{c a b:Operand}(t:Bool)(v:Value)(hp:C3 dst E.N=true)(hc:AQ O c=.bool t)(hv:(if t then AQ O a else AQ O b)=v)(k:DL E ops l (putS O dst v) ds h Q):DL E ops (⟨dst,.pick c a b,ty,pos,af,none⟩ ::l) O ds h Q:=
 Gu rfl rfl hp (Ao hc hv k)
theorem Ad{xt yt:TypeId}{x y:Operand}(a b:Int)(hp:C3 dst E.N=true)(hx:AQ O x=.int .i64 a)(hy:AQ O y=.int .i64 b)(hr: -9223372036854775808<=a+b/\a+b<=9223372036854775807)(k:DL E ops l (putS O dst (.int .i64 (a+b))) ds h Q) :
  DL E ops (⟨dst,.binOp .add xt x y yt,ty,pos,af,none⟩ ::l) O ds h Q:=Gu rfl rfl hp (NF hx hy hr k)
def skipB(N:Nat)(ops:Array Oper)(o:Oper)(j d:Nat)(is:Bool):Bool:=(match o.guard with
 | some (i,w)=>i==j && w !=is
 | none=>false) && (match ops[j]? with
 | some oj=>(match oj.dst with
  | some e=>e==d
  | none=>false)
 | none=>false) && Nat.blt d N && C3 o.dst N
theorem Gs(j d:Nat){is:Bool}(hv:O d=.bool is)(hs:skipB E.N ops o j d is=true)(x:DL E ops l (putS O o.dst undef) ds h Q):DL E ops (o ::l) O ds h Q:=by
 simp only [skipB,Bool.and_eq_true] at hs;obtain ⟨⟨⟨h1,h2⟩,h3⟩,h4⟩:=hs;cases hg:o.guard with
 | none=>rw [hg] at h1;cases h1
 | some q=>
  obtain ⟨i,w⟩:=q;rw [hg] at h1;simp only [Bool.and_eq_true,beq_iff_eq,bne_iff_ne,ne_eq] at h1;obtain ⟨rfl,hne⟩:=h1;cases hj:ops[i]? with
  | none=>rw [hj] at h2;cases h2
  | some oj=>
   cases hd:oj.dst with
   | none=>simp [hj,hd] at h2
   | some e=>
    obtain rfl:e=d:=by simpa [hj,hd] using h2
    exact PD hg hj hd hv h3 hne h4 x
def goB(N:Nat)(ops:Array Oper)(o:Oper)(j d:Nat)(is:Bool):Bool:=(match o.guard with
 | some (i,w)=>i==j && w==is
 | none=>false) && (match ops[j]? with
 | some oj=>(match oj.dst with
  | some e=>e==d
  | none=>false)
 | none=>false) && Nat.blt d N && !C6 o.op && C3 o.dst N
theorem Gg(j d:Nat){is:Bool}(hv:O d=.bool is)(hs:goB E.N ops o j d is=true)(x:BQ E o O ds h λσ' ds' h'=>DL E ops l σ' ds' h' Q):DL E ops (o ::l) O ds h Q:=by
 simp only [goB,Bool.and_eq_true,Bool.not_eq_true'] at hs;obtain ⟨⟨⟨⟨h1,h2⟩,h3⟩,h5⟩,h4⟩:=hs;cases hg:o.guard with
 | none=>rw [hg] at h1;cases h1
 | some q=>
  obtain ⟨i,w⟩:=q;rw [hg] at h1;simp only [Bool.and_eq_true,beq_iff_eq] at h1;obtain ⟨rfl,rfl⟩:=h1;cases hj:ops[i]? with
  | none=>rw [hj] at h2;cases h2
  | some oj=>
   cases hd:oj.dst with
   | none=>simp [hj,hd] at h2
   | some e=>
    obtain rfl:e=d:=by simpa [hj,hd] using h2
    exact trL_opg hg hj hd hv h3 (.inr h5) h4 x
end
section
variable {S:Nat->Prop} {Pre:Nat->GH->Prop} {Φ:List Law2} {cl:List Nat} {k d:Nat} {h h':GH} {O:Nat->Value} {ds:List Deferred} {v:Value}
theorem fL{Φ:List SP}(p:MN Φ k v h):ds=ds/\GH.Le h h/\∃w,putS O (some d) v=putS O (some d) w/\MN Φ k w h:=⟨rfl,GH.Le.refl _,_,rfl,p⟩
theorem K1{R:GH->GH->Prop}{Φ:List SP}{a:Value}(x:GW R Φ):GW R (lF a ::Φ):=⟨λ_ _ _ _ y=>y,x⟩
theorem K2{R:GH->GH->Prop}{Φ:List SP}{a b:Value}(x:GW R Φ):GW R (lF a ::lF b ::Φ):=K1 (K1 x)
theorem K4{R:GH->GH->Prop}{Φ:List SP}{a b c d:Value}(x:GW R Φ):GW R (lF a ::lF b ::lF c ::lF d ::Φ):=K2 (K2 x)
theorem K8{R:GH->GH->Prop}{Φ:List SP}{a b c d a' b' c' d':Value}(x:GW R Φ):GW R (lF a ::lF b ::lF c ::lF d ::lF a' ::lF b' ::lF c' ::lF d' ::Φ):=K4 (K4 x)
end
end Go.Ns
namespace Go.Ns
open Go.Conc
section
variable {P:Program} {E:Gq P} {O:Nat->Value} {ds:List Deferred} {h:GH} {Q:Post} {T:(Nat->Value)->List Deferred->GH->Prop}
variable {dst:Option Nat} {ty:TypeId} {pos:String} {af:Array Edge} {ops:Array Oper} {o:Oper} {l:List Oper} {gd:Option (Nat×Bool)}
theorem Mz{x:Operand}(v:Value)(e:(C3 dst E.N,AQ O x)=(true,v))(k:DL E ops l (putS O dst v) ds h Q):DL E ops (⟨dst,.move x,ty,pos,af,none⟩ ::l) O ds h Q:=Mv v (congrArg Prod.fst e) (congrArg Prod.snd e) k
theorem Az{x:Operand}(v:Value)(e:(C3 dst E.N,AQ O x)=(true,v))(k:DL E ops l (putS O dst v) ds h Q):DL E ops (⟨dst,.assign x,ty,pos,af,none⟩ ::l) O ds h Q:=As v (congrArg Prod.fst e) (congrArg Prod.snd e) k
theorem Lz{t:TypeId}{x:Operand}{b off:Nat}(v:Value)(e:(C3 dst E.N,AQ O x)=(true,.pointer (some ⟨b,off,none⟩)))(hr:Rd P h t b off v)(k:DL E ops l (putS O dst v) ds h Q):DL E ops (⟨dst,.load t x,ty,pos,af,none⟩ ::l) O ds h Q:=
 Ld v (congrArg Prod.fst e) (congrArg Prod.snd e) hr k
theorem Fz{s:TypeId}{x:Operand}{f o b off:Nat}(hf:Cm P s f=some o)(e:(C3 dst E.N,AQ O x)=(true,.pointer (some ⟨b,off,none⟩)))(k:DL E ops l (putS O dst (.pointer (some ⟨b,off+o,none⟩))) ds h Q) :
  DL E ops (⟨dst,.fieldAddr s x f,ty,pos,af,none⟩ ::l) O ds h Q:=Fa hf (congrArg Prod.fst e) (congrArg Prod.snd e) k
theorem Pz{c a b:Operand}(t:Bool)(v:Value)(e:(C3 dst E.N,AQ O c,(if t then AQ O a else AQ O b))=(true,.bool t,v))(k:DL E ops l (putS O dst v) ds h Q):DL E ops (⟨dst,.pick c a b,ty,pos,af,none⟩ ::l) O ds h Q:=
 Pk t v (congrArg Prod.fst e) (congrArg (λq=>q.2.1) e) (congrArg (λq=>q.2.2) e) k
theorem Yd{xt yt:TypeId}{x y:Operand}{a b:Int}(e:(C3 dst E.N,AQ O x,AQ O y)=(true,.int .i64 a,.int .i64 b))(hr: -9223372036854775808<=a+b/\a+b<=9223372036854775807)(k:DL E ops l (putS O dst (.int .i64 (a+b))) ds h Q) :
  DL E ops (⟨dst,.binOp .add xt x y yt,ty,pos,af,none⟩ ::l) O ds h Q:=Ad a b (congrArg Prod.fst e) (congrArg (λq=>q.2.1) e) (congrArg (λq=>q.2.2) e) hr k
theorem Mo{x:Operand}(v:Value)(hx:AQ O x=v)(k:T (putS O dst v) ds h):BQ E ⟨dst,.move x,ty,pos,af,gd⟩ O ds h T:=Tp hx k
theorem Lo{t:TypeId}{x:Operand}{b off:Nat}(v:Value)(hx:AQ O x=.pointer (some ⟨b,off,none⟩))(hr:Rd P h t b off v)(k:T (putS O dst v) ds h):BQ E ⟨dst,.load t x,ty,pos,af,gd⟩ O ds h T:=BT hx hr k
theorem Ex{x:Operand}{n:Nat}{vs:Array Value}(v:Value)(e:(AQ O x,vs[n]?)=(.tuple vs,some v))(k:T (putS O dst v) ds h):BQ E ⟨dst,.extract x n,ty,pos,af,gd⟩ O ds h T:=Wm (congrArg Prod.fst e) (congrArg Prod.snd e) k
theorem Bo{t:TypeId}{x:Operand}{v:Value}(c:Array Value)(hx:AQ O x=v)(hc:v.cells=c)
  (k:∀r h',h r=none->h.Le h'->h' r=some (true,.cells c t (0,0))->(∀b,b≠r->h' b=h b)->T (putS O dst (.pointer (some ⟨r,0,none⟩))) ds h'):BQ E ⟨dst,.box t x,ty,pos,af,gd⟩ O ds h T:=Tq hx hc k
theorem So{t:TypeId}{a x:Operand}{b off n:Nat}{g:Bool}{c:Array Value}{et:TypeId}(v:Value)(c':Array Value)(ht:CL P t=some (g,n))(e:(AQ O a,AQ O x)=(.pointer (some ⟨b,off,none⟩),v))(hb:h b=some (true,.cells c et (0,0)))
  (e2:(v.cells.size,Value.fine v)=(n,true)) (hn:off+n<=c.size) (hc:BZ c off v.cells.toList=c') (k:∀h',h' b=some (true,.cells c' et (0,0))->(∀x,x≠b->h' x=h x)->T (putS O dst undef) ds h') :
  BQ E ⟨dst,.store t a x,ty,pos,af,gd⟩ O ds h T:=AZ ht (congrArg Prod.fst e) (congrArg Prod.snd e) hb (congrArg Prod.fst e2) (congrArg Prod.snd e2) hn hc k
theorem Ot{fn:Func}{R:Value->GH->Prop}{t:Tmp}(v:Value)(e:(fn.results,O t)=(#[.tmp t],v))(x:R v h):GU P fn O R [] h:=Ij (congrArg Prod.fst e) (congrArg Prod.snd e) x
theorem Ou{fn:Func}{R:Value->GH->Prop}{t u:Tmp}(v v':Value)(e:(fn.results,O t,O u)=(#[.tmp t,.tmp u],v,v'))(x:R (.tuple #[v,v']) h):GU P fn O R [] h:=outs2 (congrArg Prod.fst e) (congrArg (λq=>q.2.1) e) (congrArg (λq=>q.2.2) e) x
theorem Sr{id:Nat}{y:Code}(a:DL E l.toArray l O ds h (λe σ' ds' h'=>match e with | .normal=>Tr E y σ' ds' h' Q | e=>Q e σ' ds' h')):Tr E (.seq (.region id l.toArray false) y) O ds h Q:=Sq (Rg a)
theorem S2{id:Nat}{y z:Code}(a:DL E l.toArray l O ds h (λe σ' ds' h'=>match e with | .normal=>Tr E y σ' ds' h' (λe σ' ds' h'=>match e with | .normal=>Tr E z σ' ds' h' Q | e=>Q e σ' ds' h') | e=>(λe σ' ds' h'=>match e with | .normal=>Tr E z σ' ds' h' Q | e=>Q e σ' ds' h') e σ' ds' h')) :
  Tr E (.seq (.seq (.region id l.toArray false) y) z) O ds h Q:=Sq (Sq (Rg a))
theorem Zr{V:Type}{a b:V}:a=b\/a=a:=.inr rfl
theorem M2{x x':Operand}{dst':Option Nat}{ty':TypeId}{pos':String}{af':Array Edge}(v v':Value)(e:(C3 dst E.N,AQ O x,C3 dst' E.N,AQ (putS O dst v) x')=(true,v,true,v'))(k:DL E ops l (putS (putS O dst v) dst' v') ds h Q):DL E ops (⟨dst,.move x,ty,pos,af,none⟩ ::⟨dst',.move x',ty',pos',af',none⟩ ::l) O ds h Q:=
 Mv v (congrArg Prod.fst e) (congrArg (λq=>q.2.1) e) (Mv v' (congrArg (λq=>q.2.2.1) e) (congrArg (λq=>q.2.2.2) e) k)
theorem A2{x x':Operand}{dst':Option Nat}{ty':TypeId}{pos':String}{af':Array Edge}(v v':Value)(e:(C3 dst E.N,AQ O x,C3 dst' E.N,AQ (putS O dst v) x')=(true,v,true,v'))(k:DL E ops l (putS (putS O dst v) dst' v') ds h Q):DL E ops (⟨dst,.assign x,ty,pos,af,none⟩ ::⟨dst',.assign x',ty',pos',af',none⟩ ::l) O ds h Q:=
 As v (congrArg Prod.fst e) (congrArg (λq=>q.2.1) e) (As v' (congrArg (λq=>q.2.2.1) e) (congrArg (λq=>q.2.2.2) e) k)
theorem Ct{W:Wk P}{f:FuncId}{fn:Func}{c:Code}{args:Array Value}{R:Value->GH->Prop}(hf:P.funcs[f]? =some fn)(e:(fn.body,Nat.ble args.size fn.ntmps)=(some c,true))
  (x:Tr ⟨W,f,none,fn.ntmps⟩ c (λi=>args.getD i undef) [] h (λe O ds h'=>(e=.normal\/e=.ret)/\GU P fn O R ds h')):AV W f args h R:=Wl hf (congrArg Prod.fst e) (Nat.le_of_ble_eq_true (congrArg Prod.snd e)) x
end
section
variable {P:Program} {E:Gq P} {l:List Oper} {n:Nat} {fl:Bool} {hs:GH} {ds:List Deferred} {Lw:Nat->Value->GH->Prop} {F:(Nat->Value)->GH->Prop} {π:List Nat} {O:Nat->Value} {h:GH} {m k g d:Nat} {dst:Option Nat} {op:Op} {ty:TypeId} {pos:String} {af:Array Edge} {v:Value} {w is:Bool} {og:Oper}
theorem Rz(e:(LN m,l[k]?)=((.r,k),some ⟨dst,op,ty,pos,af,none⟩))(x:Tw E ⟨dst,op,ty,pos,af,none⟩ O ds h v)(y:TD E l n fl hs ds Lw F (dK π) (putS O dst v) h):TD E l n fl hs ds Lw F (dK (m ::π)) O h:=tR (congrArg Prod.fst e) (congrArg Prod.snd e) x y
theorem Rm{x:Operand}(v:Value)(e:(LN m,l[k]?,AQ O x)=((.r,k),some ⟨dst,.move x,ty,pos,af,none⟩,v))(y:TD E l n fl hs ds Lw F (dK π) (putS O dst v) h):TD E l n fl hs ds Lw F (dK (m ::π)) O h:=
 tR (congrArg Prod.fst e) (congrArg (λq=>q.2.1) e) (Tp (congrArg (λq=>q.2.2) e) vz) y
theorem Rl{t:TypeId}{x:Operand}{b off:Nat}(v:Value)(e:(LN m,l[k]?,AQ O x)=((.r,k),some ⟨dst,.load t x,ty,pos,af,none⟩,.pointer (some ⟨b,off,none⟩)))(hr:Rd P h t b off v)(y:TD E l n fl hs ds Lw F (dK π) (putS O dst v) h):TD E l n fl hs ds Lw F (dK (m ::π)) O h:=
 tR (congrArg Prod.fst e) (congrArg (λq=>q.2.1) e) (BT (congrArg (λq=>q.2.2) e) hr vz) y
theorem Py(e:(LN m,l[k]?)=((.p,k),some ⟨dst,op,ty,pos,af,none⟩))(x:∀hx,Tw E ⟨dst,op,ty,pos,af,none⟩ O ds hx v)(y:TD E l n fl hs ds Lw F (dK π) (putS O dst v) h):TD E l n fl hs ds Lw F (dK (m ::π)) O h:=tP (congrArg Prod.fst e) (congrArg Prod.snd e) x y
theorem Ry(e:(LN m,l[k]?,l[g]?,og.dst)=((.r,k),some ⟨dst,op,ty,pos,af,some (g,w)⟩,some og,some d))(h3:O d=.bool w)(x:Tw E ⟨dst,op,ty,pos,af,some (g,w)⟩ O ds h v)
  (y:TD E l n fl hs ds Lw F (dK π) (putS O dst v) h):TD E l n fl hs ds Lw F (dK (m ::π)) O h:=tRg (congrArg Prod.fst e) (congrArg (λq=>q.2.1) e) (congrArg (λq=>q.2.2.1) e) (congrArg (λq=>q.2.2.2) e) h3 x y
theorem Sz{kd:Kd}(e:(LN m,l[k]?,l[g]?,og.dst)=((kd,k),some ⟨dst,op,ty,pos,af,some (g,w)⟩,some og,some d))(h3:O d=.bool is)(hne:(is==w)=false)
  (y:TD E l n fl hs ds Lw F (dK π) (putS O dst undef) h) (hl:(kd !=Kd.l)=true:=by rfl):TD E l n fl hs ds Lw F (dK (m ::π)) O h:=tS (congrArg Prod.fst e) (congrArg (λq=>q.2.1) e) (congrArg (λq=>q.2.2.1) e) (congrArg (λq=>q.2.2.2) e) h3 hne y hl
end
end Go.Ns
namespace Go.Ns
open Go.Conc
structure FR(h:GH)(ps:List ByteArray)(psv:Value)(ws:List AJ)(wsv:Value)(js:List AL)(jsv:Value)(ns:List AM)(nsv:Value):Prop where
 a:AH h psv 1 EM ps
 b:AH h wsv 4 Dc ws
 c:AH h jsv 5 Cd js
 d:Bc h js
 e:AH h nsv 3 CT ns
 f:Av h ns
theorem FR.le{h h':GH}{ps:List ByteArray}{psv:Value}{ws:List AJ}{wsv:Value}{js:List AL}{jsv:Value}{ns:List AM}{nsv:Value}(x:FR h ps psv ws wsv js jsv ns nsv)(l:h.Le h'):FR h' ps psv ws wsv js jsv ns nsv:=⟨x.1.le l,x.2.le l,x.3.le l,x.4.le l,x.5.le l,x.6.le l⟩
abbrev J(x:Int):Value:=.int .i64 x
abbrev Pt(b:Nat):Value:=.pointer (some ⟨b,0,none⟩)
abbrev Sc(b:Nat)(n c:Nat):Value:=.slice (some ⟨b,0,none⟩) n c
abbrev Q0:Array Value:=#[J 0,J 0,.slice none 0 0,.slice none 0 0,.slice none 0 0,.slice none 0 0,.slice none 0 0,.map none]
abbrev Q1(a:List AJ)(b:List AL)(c:List AM)(d:Nat):Array Value:=#[J (((AG a b c).getD (((d:Int)-1).toNat) AF.zero).ways 0),J (((AG a b c).getD (((d:Int)-1).toNat) AF.zero).ways 1),J (((AG a b c).getD (((d:Int)-1).toNat) AF.zero).ways 2),J (((AG a b c).getD (((d:Int)-1).toNat) AF.zero).ways 3),J (((AG a b c).getD (((d:Int)-1).toNat) AF.zero).ways 4)]
abbrev Q2(a:List AJ)(b:List AL)(c:List AM)(d:Nat):Array Value:=#[J (((AG a b c).getD d AF.zero).ways 0),J (((AG a b c).getD d AF.zero).ways 1),J (((AG a b c).getD d AF.zero).ways 2),J (((AG a b c).getD d AF.zero).ways 3),J (((AG a b c).getD d AF.zero).ways 4)]
abbrev Q3(a:List AJ)(b:Nat):Array Value:=#[J ((a.getD b AJ.z).a),J ((a.getD b AJ.z).b),J ((a.getD b AJ.z).low),J ((a.getD b AJ.z).high)]
abbrev Q4(a:ByteArray)(b:Nat):=decide (¬(((97<=((bytesOf a).getD b 0))/\(((bytesOf a).getD b 0)<=122))\/(((0<(b:Int))/\(48<=((bytesOf a).getD b 0)))/\(((bytesOf a).getD b 0)<=57))))
abbrev Q5:Value:=.slice none 0 0
abbrev Q6(a:List AN)(b:Nat):Array Value:=#[.string ((a.getD b AN.z).nm),J ((a.getD b AN.z).cost),J ((a.getD b AN.z).stock),J ((a.getD b AN.z).low),J ((a.getD b AN.z).high),(a.getD b AN.z).pv]
abbrev Q7(a:List AM)(b:Nat):Array Value:=#[(a.getD b AM.z).wv,J ((a.getD b AM.z).low),J ((a.getD b AM.z).high)]
abbrev Q8(a:ByteArray)(b:Nat):=(bytesOf a).getD b 0
abbrev Q9(a:List AL)(b:Nat):=decide ((¬(((0<=((a.getD b AL.z).low)/\((a.getD b AL.z).low)<=((a.getD b AL.z).high))/\((a.getD b AL.z).high)<=30)/\((a.getD b AL.z).high)-((a.getD b AL.z).low)<2))\/(¬(0<=((a.getD b AL.z).due)/\((a.getD b AL.z).due)<=200)))
abbrev Qa(a:List AJ)(b:Nat):=(a.getD b AJ.z).b
abbrev Qb(a:List AJ)(b:Nat):=(a.getD b AJ.z).a
abbrev Qc(a:List AL)(b:Nat):Array Value:=#[J ((a.getD b AL.z).place),J ((a.getD b AL.z).low),J ((a.getD b AL.z).high),J ((a.getD b AL.z).due),(a.getD b AL.z).pv]
abbrev Qd(a:List AF)(b:Nat):=(a.drop (1)).getD b AF.zero
abbrev Qe(a:List AL)(b:Nat):=(a.getD b AL.z).high
abbrev Qf(a:List ByteArray)(b:List AJ)(c:List AL)(d:List AM):=decide ((((20<(a.length:Int))\/(20<(b.length:Int)))\/(20<(c.length:Int)))\/(20<(d.length:Int)))
abbrev Qg(a:List AL)(b:Nat):=(a.getD b AL.z).low
abbrev Qh(a:List AJ)(b:Nat)(c:List ByteArray):=decide ((¬(0<=((a.getD b AJ.z).a)/\((a.getD b AJ.z).a)<=(c.length:Int)-1))\/(¬(0<=((a.getD b AJ.z).b)/\((a.getD b AJ.z).b)<=(c.length:Int)-1)))
abbrev Qi(a:Int)(b:Int):=decide ((¬(0<=a/\a<=9))\/(¬(0<=b/\b<=3)))
abbrev Qj(a:List AJ)(b:List AL)(c:List AM)(d:Nat):Value:=.agg (Af ((AG a b c).getD d AF.zero))
abbrev Qk(a:Int)(b:Int):Value:=.bool (decide (a<=b))
abbrev Ql(a:Int)(b:Int)(c:Int)(d:Int):=decide ((((0<=a)/\(a<=b))/\(b<=c))/\((b-a)<d))
abbrev Qm(a:List ByteArray)(b:List AJ)(c:Nat):=J (Bw a.length [(b.getD c AJ.z).a,(b.getD c AJ.z).b])
abbrev Qn(a:List AF):=a.getD 0 AF.zero
abbrev Qo(a:List AL)(b:List Int):=Ah a.length b
abbrev Qp(a:List Int)(b:Nat):=J (a.getD b 0)
abbrev Qq(a:List ByteArray)(b:Int)(c:Int):=Bw a.length [b,c]
abbrev Qr(a:List AM)(b:Nat):=(a.getD b AM.z).high
abbrev Qs(a:List AJ)(b:Nat):=(a.getD b AJ.z).high
abbrev Qt(a:List AM)(b:Nat):=(a.getD b AM.z).low
abbrev Qu(a:List AN)(b:Nat):Array Value:=#[J ((a.getD b AN.z).low),J ((a.getD b AN.z).high)]
abbrev Qv(a:List AL)(b:Int):=Fc a.length b
abbrev Qw(a:List Ch)(b:Nat):Array Value:=#[J ((a.getD b Ch.z).low),J ((a.getD b Ch.z).high)]
abbrev Qx(a:List AJ)(b:Nat):=(a.getD b AJ.z).low
abbrev Qy(a:List AM)(b:Nat)(c:Nat):=((a.getD b AM.z).ways).getD c 0
abbrev Qz(a:Int)(b:Int):=decide (((0<=a/\a<=b)/\b<=30)/\((b-a)<2))
abbrev Q10(a:List AL)(b:Nat):=(a.getD b AL.z).due
abbrev Q11(a:List AM)(b:Nat):=(a.getD b AM.z).wv
abbrev Q12(a:Int)(b:Int)(c:Int):=decide ((a<=b)/\(b<=c))
abbrev Q13(a:List AM)(b:Nat):=CT (a.getD b AM.z)
abbrev Q14(a:Int)(b:Int)(c:Int)(d:Int):=decide (((a<=b)/\(b<=c))/\(c<=d))
abbrev Q15(a:Nat)(b:Nat)(c:Array Int):=decide (((a:Int)<(b:Int))/\((c[b]!)<(c[((b:Int)-1).toNat]!)))
abbrev Q16(a:List AJ)(b:Nat):=Dc (a.getD b AJ.z)
abbrev Q17(a:ByteArray):=decide (((a.size:Int)<1)\/(10<(a.size:Int)))
abbrev Q18(a:List AJ)(b:List AJ):=decide (¬(a.length:Int)=(b.length:Int))
abbrev Q19(a:List AL)(b:List AL):=decide (¬(a.length:Int)=(b.length:Int))
abbrev Q1a(a:Int):=decide ((97<=a)/\(a<=122))
abbrev V1(a:Int)(b:Int)(c:Value)(d:Value)(e:Value)(f:Value):Array Value:=#[.agg #[J a,J b,c,d,e,f]]
abbrev Q1c(a:List AM)(b:List AM):=decide (¬(a.length:Int)=(b.length:Int))
abbrev Q1d(a:Int):=decide (¬(0<=a/\a<=3))
abbrev Q1e(a:Nat):Value:=.func (.func 116) #[] #[Pt a]
abbrev Q1f(a:List Int)(b:Nat)(c:List Int):=J (T5 (a.getD b 0) (c.getD b 0))
abbrev Q1g(a:List Sl)(b:Nat):=((a.drop (1)).getD b Sl.z).1
abbrev Q1h(a:Int):=decide ((48<=a)/\(a<=57))
abbrev Q1i(a:Nat):Value:=.func (.func 89) #[] #[Pt a]
abbrev Q1j:=Af AF.zero
abbrev Q1k(a:Nat)(b:Nat):Value:=.func (.func 85) #[] #[Pt a,Pt b]
abbrev Q1l(a:List AL)(b:List Int)(c:Nat):=J (Fc a.length (b.getD c 0))
end Go.Ns
namespace Go.Ns
open Go.Conc Go.Proofs Go.Proofs.Tryz
theorem R4:JG prog 122 122=some (160,9,72):=aB
theorem V2:JG prog 22 22=some (9,1,16):=aB
theorem V3:JG prog 23 23=some (117,4,32):=aB
theorem Iq:JG prog 24 24=some (48,5,56):=aB
theorem Kh:JG prog 25 25=some (94,3,40):=aB
theorem BV:JG prog 37 37=some (3,1,8):=aB
theorem V4:JG prog 57 57=some (46,2,16):=aB
theorem Eh:JG prog 98 98=some (37,1,24):=aB
theorem fx_arr178:ZK prog 178=some (5,false,1):=aB
theorem fx_arr221:ZK prog 221=some (4,false,1):=aB
theorem EA:KG prog 102=some (4,1):=aB
theorem TA:KG prog 103=some (4,1):=aB
theorem IH:KG prog 158=some (5,1):=aB
theorem E0:KG prog 168=some (4,1):=aB
theorem Fg:KG prog 244=some (4,4):=aB
theorem fx_bt3:Md prog 3=some 8:=aB
theorem fx_bt4:Md prog 4=some 1:=aB
theorem fx_call10:AK Tryz.f10=true:=aB
theorem Xd:AK Tryz.f100=true:=aB
theorem Xe:AK Tryz.f101=true:=aB
theorem Xf:AK Tryz.f102=true:=aB
theorem L5:AK Tryz.f103=true:=aB
theorem Xg:AK Tryz.f104=true:=aB
theorem RA:AK Tryz.f105=true:=aB
theorem Xh:AK Tryz.f106=true:=aB
theorem RB:AK Tryz.f107=true:=aB
theorem Xi:AK Tryz.f108=true:=aB
theorem Xj:AK Tryz.f109=true:=aB
theorem fx_call11:AK Tryz.f11=true:=aB
theorem Xk:AK Tryz.f110=true:=aB
theorem Xl:AK Tryz.f111=true:=aB
theorem RC:AK Tryz.f116=true:=aB
theorem Xm:AK Tryz.f117=true:=aB
theorem RD:AK Tryz.f118=true:=aB
theorem RE:AK Tryz.f119=true:=aB
theorem Ng:AK Tryz.f12=true:=aB
theorem RF:AK Tryz.f120=true:=aB
theorem RG:AK Tryz.f121=true:=aB
theorem RH:AK Tryz.f122=true:=aB
theorem L6:AK Tryz.f123=true:=aB
theorem L7:AK Tryz.f125=true:=aB
theorem fx_call13:AK Tryz.f13=true:=aB
theorem RI:AK Tryz.f131=true:=aB
theorem Xn:AK Tryz.f132=true:=aB
theorem L8:AK Tryz.f133=true:=aB
theorem RJ:AK Tryz.f134=true:=aB
theorem Xo:AK Tryz.f135=true:=aB
theorem Xp:AK Tryz.f136=true:=aB
theorem Xq:AK Tryz.f137=true:=aB
theorem Ie:AK Tryz.f138=true:=aB
theorem Xr:AK Tryz.f139=true:=aB
theorem fx_call14:AK Tryz.f14=true:=aB
theorem Jy:AK Tryz.f140=true:=aB
theorem Xs:AK Tryz.f141=true:=aB
theorem Xu:AK Tryz.f142=true:=aB
theorem Xv:AK Tryz.f143=true:=aB
theorem Xw:AK Tryz.f144=true:=aB
theorem Xx:AK Tryz.f145=true:=aB
theorem Xy:AK Tryz.f146=true:=aB
theorem Xz:AK Tryz.f147=true:=aB
theorem EN:AK Tryz.f148=true:=aB
theorem X3:AK Tryz.f149=true:=aB
theorem TB:AK Tryz.f15=true:=aB
theorem RK:AK Tryz.f150=true:=aB
theorem X4:AK Tryz.f156=true:=aB
theorem X5:AK Tryz.f160=true:=aB
theorem X6:AK Tryz.f161=true:=aB
theorem X7:AK Tryz.f162=true:=aB
theorem X8:AK Tryz.f165=true:=aB
theorem X9:AK Tryz.f166=true:=aB
theorem Jz:AK Tryz.f167=true:=aB
theorem RL:AK Tryz.f168=true:=aB
theorem L9:AK Tryz.f169=true:=aB
theorem fx_call17:AK Tryz.f17=true:=aB
theorem RM:AK Tryz.f170=true:=aB
theorem YA:AK Tryz.f176=true:=aB
theorem fx_call18:AK Tryz.f18=true:=aB
theorem YB:AK Tryz.f196=true:=aB
theorem YC:AK Tryz.f197=true:=aB
theorem YD:AK Tryz.f198=true:=aB
theorem YE:AK Tryz.f199=true:=aB
theorem YF:AK Tryz.f200=true:=aB
theorem YG:AK Tryz.f201=true:=aB
theorem YH:AK Tryz.f202=true:=aB
theorem YI:AK Tryz.f203=true:=aB
theorem YJ:AK Tryz.f204=true:=aB
theorem MA:AK Tryz.f205=true:=aB
theorem YK:AK Tryz.f206=true:=aB
theorem YL:AK Tryz.f207=true:=aB
theorem YM:AK Tryz.f208=true:=aB
theorem YN:AK Tryz.f209=true:=aB
theorem YO:AK Tryz.f210=true:=aB
theorem YP:AK Tryz.f211=true:=aB
theorem YQ:AK Tryz.f212=true:=aB
theorem YR:AK Tryz.f213=true:=aB
theorem YS:AK Tryz.f214=true:=aB
theorem YT:AK Tryz.f215=true:=aB
theorem YU:AK Tryz.f216=true:=aB
theorem YV:AK Tryz.f217=true:=aB
theorem YW:AK Tryz.f218=true:=aB
theorem YX:AK Tryz.f219=true:=aB
theorem RN:AK Tryz.f220=true:=aB
theorem YY:AK Tryz.f221=true:=aB
theorem fx_call23:AK Tryz.f23=true:=aB
theorem fx_call24:AK Tryz.f24=true:=aB
theorem fx_call25:AK Tryz.f25=true:=aB
theorem fx_call26:AK Tryz.f26=true:=aB
theorem fx_call27:AK Tryz.f27=true:=aB
theorem fx_call28:AK Tryz.f28=true:=aB
theorem TC:AK Tryz.f29=true:=aB
theorem fx_call30:AK Tryz.f30=true:=aB
theorem fx_call31:AK Tryz.f31=true:=aB
theorem fx_call32:AK Tryz.f32=true:=aB
theorem fx_call33:AK Tryz.f33=true:=aB
theorem fx_call34:AK Tryz.f34=true:=aB
theorem fx_call35:AK Tryz.f35=true:=aB
theorem fx_call36:AK Tryz.f36=true:=aB
theorem fx_call37:AK Tryz.f37=true:=aB
theorem Fh:AK Tryz.f38=true:=aB
theorem fx_call39:AK Tryz.f39=true:=aB
theorem JM:AK Tryz.f40=true:=aB
theorem fx_call41:AK Tryz.f41=true:=aB
theorem GO:AK Tryz.f42=true:=aB
theorem fx_call43:AK Tryz.f43=true:=aB
theorem fx_call44:AK Tryz.f44=true:=aB
theorem fx_call45:AK Tryz.f45=true:=aB
theorem GP:AK Tryz.f46=true:=aB
theorem TE:AK Tryz.f47=true:=aB
theorem TF:AK Tryz.f48=true:=aB
theorem TG:AK Tryz.f49=true:=aB
theorem fx_call5:AK Tryz.f5=true:=aB
theorem fx_call50:AK Tryz.f50=true:=aB
theorem TH:AK Tryz.f51=true:=aB
theorem TJ:AK Tryz.f52=true:=aB
theorem fx_call53:AK Tryz.f53=true:=aB
theorem fx_call54:AK Tryz.f54=true:=aB
theorem fx_call55:AK Tryz.f55=true:=aB
theorem TK:AK Tryz.f56=true:=aB
theorem GQ:AK Tryz.f59=true:=aB
theorem fx_call6:AK Tryz.f6=true:=aB
theorem LE:AK Tryz.f60=true:=aB
theorem II:AK Tryz.f61=true:=aB
theorem Nh:AK Tryz.f62=true:=aB
theorem TL:AK Tryz.f63=true:=aB
theorem TM:AK Tryz.f64=true:=aB
theorem TN:AK Tryz.f65=true:=aB
theorem fx_call67:AK Tryz.f67=true:=aB
theorem Ki:AK Tryz.f7=true:=aB
theorem DF:AK Tryz.f74=true:=aB
theorem fx_call75:AK Tryz.f75=true:=aB
theorem fx_call76:AK Tryz.f76=true:=aB
theorem fx_call77:AK Tryz.f77=true:=aB
theorem fx_call78:AK Tryz.f78=true:=aB
theorem fx_call79:AK Tryz.f79=true:=aB
theorem fx_call8:AK Tryz.f8=true:=aB
theorem fx_call80:AK Tryz.f80=true:=aB
theorem fx_call81:AK Tryz.f81=true:=aB
theorem LF:AK Tryz.f82=true:=aB
theorem JN:AK Tryz.f83=true:=aB
theorem DO:AK Tryz.f84=true:=aB
theorem TO:AK Tryz.f85=true:=aB
theorem Ni:AK Tryz.f86=true:=aB
theorem Nj:AK Tryz.f87=true:=aB
theorem fx_call88:AK Tryz.f88=true:=aB
theorem TP:AK Tryz.f89=true:=aB
theorem fx_call9:AK Tryz.f9=true:=aB
theorem TQ:AK Tryz.f90=true:=aB
theorem TR:AK Tryz.f91=true:=aB
theorem Nk:AK Tryz.f92=true:=aB
theorem TS:AK Tryz.f93=true:=aB
theorem Nm:AK Tryz.f94=true:=aB
theorem Ea:AK Tryz.f95=true:=aB
theorem TT:AK Tryz.f96=true:=aB
theorem G7:AK Tryz.f97=true:=aB
theorem TU:AK Tryz.f98=true:=aB
theorem TV:AK Tryz.f99=true:=aB
theorem fx_eqg117:prog.eqGuardType prog.depth 117=false:=aB
theorem TW:prog.eqGuardType prog.depth 158=false:=aB
theorem TX:prog.eqGuardType prog.depth 209=false:=aB
theorem Hd:prog.eqGuardType prog.depth 46=false:=aB
theorem Fi:EB prog 122=some 9:=aB
theorem Nn:EB prog 218=some 1:=aB
theorem Fx:EB prog 22=some 1:=aB
theorem Es:EB prog 23=some 4:=aB
theorem Eu:EB prog 24=some 5:=aB
theorem Gh:EB prog 25=some 3:=aB
theorem TY:EB prog 274=some 1:=aB
theorem Fy:EB prog 29=some 6:=aB
theorem JO:EB prog 30=some 2:=aB
theorem Ms:EB prog 31=some 3:=aB
theorem Ak:EB prog 37=some 1:=aB
theorem V5:EB prog 57=some 2:=aB
theorem Dx:EB prog 98=some 1:=aB
theorem LG:∀a:Fb,ckP prog 4 162 (FD a)=true:=by intros;kernel_rfl
theorem LH:∀a b:Fb,PQ prog 4 162 (FD a) (FD b)=some ((a.1.1==b.1.1 && (a.1.2.1==b.1.2.1 && (a.1.2.2.1==b.1.2.2.1 && (a.1.2.2.2.1==b.1.2.2.2.1 && (a.1.2.2.2.2==b.1.2.2.2.2 && true))))) && (a.2.1==b.2.1 && (a.2.2==b.2.2 && true))):=by intros;kernel_rfl
theorem B8:Cm prog 101 0=some 0:=aB
theorem Au:Cm prog 113 0=some 0:=aB
theorem B9:Cm prog 117 0=some 0:=aB
theorem CJ:Cm prog 117 1=some 1:=aB
theorem Kj:Cm prog 117 2=some 2:=aB
theorem Dt:Cm prog 125 0=some 0:=aB
theorem He:Cm prog 125 1=some 6:=aB
theorem Ir:Cm prog 125 2=some 7:=aB
theorem FJ:Cm prog 148 0=some 0:=aB
theorem OU:Cm prog 148 1=some 1:=aB
theorem OV:Cm prog 148 2=some 2:=aB
theorem Is:Cm prog 148 3=some 3:=aB
theorem FK:Cm prog 148 4=some 5:=aB
theorem Kk:Cm prog 150 0=some 0:=aB
theorem OW:Cm prog 150 1=some 1:=aB
theorem Co:Cm prog 160 0=some 0:=aB
theorem Km:Cm prog 160 1=some 5:=aB
theorem FL:Cm prog 209 0=some 0:=aB
theorem FM:Cm prog 209 1=some 1:=aB
theorem V6:Cm prog 217 0=some 0:=aB
theorem V7:Cm prog 217 1=some 1:=aB
theorem G8:Cm prog 27 0=some 0:=aB
theorem Di:Cm prog 27 1=some 1:=aB
theorem Bz:Cm prog 27 2=some 2:=aB
theorem BW:Cm prog 27 3=some 3:=aB
theorem BG:Cm prog 27 4=some 4:=aB
theorem Bh:Cm prog 27 5=some 5:=aB
theorem RO:Cm prog 33 0=some 0:=aB
theorem FN:Cm prog 33 1=some 1:=aB
theorem B0:Cm prog 33 2=some 2:=aB
theorem Dy:Cm prog 33 3=some 3:=aB
theorem El:Cm prog 33 4=some 4:=aB
theorem C8:Cm prog 46 0=some 0:=aB
theorem C9:Cm prog 46 1=some 1:=aB
theorem G9:Cm prog 48 0=some 0:=aB
theorem If:Cm prog 48 1=some 1:=aB
theorem HA:Cm prog 48 2=some 3:=aB
theorem Dz:Cm prog 48 3=some 4:=aB
theorem D0:Cm prog 94 0=some 0:=aB
theorem HB:Cm prog 94 1=some 1:=aB
theorem YZ:(prog.info? 217).isSome=true:=aB
theorem fx_infs3:(prog.info? 3).isSome=true:=aB
theorem fx_infs4:(prog.info? 4).isSome=true:=aB
theorem Ya:(prog.info? 217).map (·.zero)=some (some (.agg #[.int .i64 0,.bool false])):=aB
theorem fx_infz3:(prog.info? 3).map (·.zero)=some (some (.int .i64 0)):=aB
theorem fx_infz4:(prog.info? 4).map (·.zero)=some (some (.bool false)):=aB
theorem RP:PL prog 193=some .u64:=aB
theorem F0:PL prog 3=some .i64:=aB
theorem Hf:PL prog 5=some .u8:=aB
theorem LI:MO prog 123=some (162,3):=aB
theorem Np:MO prog 169=some (3,3):=aB
theorem Nq:∀a:Int,ckP prog 3 3 (D1 a)=true:=by intros;kernel_rfl
theorem Nr:∀a b:Int,PQ prog 3 3 (D1 a) (D1 b)=some (a==b):=by intros;kernel_rfl
theorem An:prog.follows .mixedOrders=true:=aB
theorem RQ:(prog.info? 3).bind (·.zero)=some (.int .i64 0):=aB
theorem V8:(prog.info? 3).bind (·.zero)=some (.int .i64 0):=aB
theorem V9:ET prog 101=some [(0,5)]:=aB
theorem Hg:ET prog 113=some [(0,6)]:=aB
theorem RR:ET prog 117=some [(0,1),(1,1),(2,2)]:=aB
theorem Hh:ET prog 125=some [(0,6),(6,1),(7,1)]:=aB
theorem Mt:ET prog 162=some [(0,5),(5,1),(6,1)]:=aB
theorem fx_pl209:ET prog 209=some [(0,1),(1,1)]:=aB
theorem fx_pl217:ET prog 217=some [(0,1),(1,1)]:=aB
theorem fx_pl27:ET prog 27=some [(0,1),(1,1),(2,1),(3,1),(4,1),(5,1)]:=aB
theorem J0:ET prog 46=some [(0,1),(1,1)]:=aB
theorem Mu:ET prog 48=some [(0,1),(1,2),(3,1),(4,1)]:=aB
theorem Uc:ET prog 94=some [(0,1),(1,2)]:=aB
theorem OX:s2bOf prog 9 274=some 5:=aB
theorem fx_sel122:Da prog 122=some (9,#[.int .i64 0,.int .i64 0,.int .i64 0,.int .i64 0,.int .i64 0,.int .i64 0,.int .i64 0,.int .i64 0,.int .i64 0],160):=aB
theorem fx_sel218:Da prog 218=some (1,#[.bool false],4):=aB
theorem WA:Da prog 22=some (1,#[.string ⟨#[]⟩],9):=aB
theorem WB:Da prog 23=some (4,#[.int .i64 0,.int .i64 0,.int .i64 0,.int .i64 0],117):=aB
theorem Kn:Da prog 24=some (5,#[.int .i64 0,.int .i64 0,.int .i64 0,.int .i64 0,.slice none 0 0],48):=aB
theorem Mw:Da prog 25=some (3,#[.slice none 0 0,.int .i64 0,.int .i64 0],94):=aB
theorem A9:Da prog 37=some (1,#[.int .i64 0],3):=aB
theorem WC:Da prog 57=some (2,#[.int .i64 0,.int .i64 0],46):=aB
theorem Gi:Da prog 98=some (1,#[.slice none 0 0],37):=aB
theorem FO:JU prog 122=true:=aB
theorem fx_sl218:JU prog 218=true:=aB
theorem DI:JU prog 22=true:=aB
theorem Dq:JU prog 23=true:=aB
theorem Dr:JU prog 24=true:=aB
theorem Em:JU prog 25=true:=aB
theorem WD:JU prog 274=true:=aB
theorem E5:JU prog 29=true:=aB
theorem J1:JU prog 30=true:=aB
theorem LJ:JU prog 31=true:=aB
theorem A1:JU prog 37=true:=aB
theorem Ud:JU prog 57=true:=aB
theorem Fj:JU prog 98=true:=aB
theorem EI:PK prog 9=true:=aB
theorem F1:CL prog 101=some (true,5):=aB
theorem Hi:CL prog 103=some (true,4):=aB
theorem B4:CL prog 113=some (true,6):=aB
theorem Eb:CL prog 117=some (true,4):=aB
theorem Mx:CL prog 120=some (false,1):=aB
theorem Hj:CL prog 122=some (false,1):=aB
theorem My:CL prog 123=some (false,1):=aB
theorem Aq:CL prog 125=some (true,8):=aB
theorem Ko:CL prog 148=some (true,6):=aB
theorem WE:CL prog 150=some (true,3):=aB
theorem Hk:CL prog 158=some (true,5):=aB
theorem Cc:CL prog 160=some (true,9):=aB
theorem fx_ty178:CL prog 178=some (true,5):=aB
theorem Kp:CL prog 196=some (false,1):=aB
theorem Ev:CL prog 209=some (true,2):=aB
theorem M0:CL prog 213=some (false,1):=aB
theorem M1:CL prog 214=some (false,1):=aB
theorem RS:CL prog 215=some (false,1):=aB
theorem fx_ty217:CL prog 217=some (true,2):=aB
theorem DU:CL prog 22=some (false,1):=aB
theorem fx_ty221:CL prog 221=some (true,4):=aB
theorem Cf:CL prog 23=some (false,1):=aB
theorem B1:CL prog 24=some (false,1):=aB
theorem fx_ty242:CL prog 242=some (false,1):=aB
theorem Cw:CL prog 25=some (false,1):=aB
theorem Aj:CL prog 27=some (true,6):=aB
theorem DV:CL prog 29=some (false,1):=aB
theorem AP:CL prog 3=some (false,1):=aB
theorem Gj:CL prog 30=some (false,1):=aB
theorem H9:CL prog 31=some (false,1):=aB
theorem ER:CL prog 33=some (true,5):=aB
theorem BB:CL prog 37=some (false,1):=aB
theorem HC:CL prog 4=some (false,1):=aB
theorem A6:CL prog 46=some (true,2):=aB
theorem F5:CL prog 48=some (true,5):=aB
theorem fx_ty5:CL prog 5=some (false,1):=aB
theorem GE:CL prog 9=some (false,1):=aB
theorem E6:CL prog 94=some (true,3):=aB
theorem IA:CL prog 98=some (false,1):=aB
theorem GR:(prog.underlying 234).isSome=true:=aB
theorem WF:(prog.underlying 28).isSome=true:=aB
theorem Zm:(prog.underlying 3).isSome=true:=aB
theorem It:(prog.underlying 5).isSome=true:=aB
theorem Kq:prog.underlying 213=some (.chan .both 217):=aB
theorem Kr:prog.underlying 214=some (.chan .both 3):=aB
theorem Ks:prog.underlying 215=some (.chan .both 4):=aB
theorem Ig:Bm prog 101=some #[.int .i64 0,.int .i64 0,.slice none 0 0,.slice none 0 0,.slice none 0 0]:=aB
theorem J2:Bm prog 103=some #[.int .i64 0,.int .i64 0,.int .i64 0,.int .i64 0]:=aB
theorem Dj:Bm prog 113=some #[.int .i64 0,.int .i64 0,.slice none 0 0,.slice none 0 0,.slice none 0 0,.slice none 0 0]:=aB
theorem FP:Bm prog 117=some #[.int .i64 0,.int .i64 0,.int .i64 0,.int .i64 0]:=aB
theorem Yb:Bm prog 120=some #[.nilFunc]:=aB
theorem Yc:Bm prog 122=some #[.slice none 0 0]:=aB
theorem BE:Bm prog 125=some #[.int .i64 0,.int .i64 0,.slice none 0 0,.slice none 0 0,.slice none 0 0,.slice none 0 0,.slice none 0 0,.map none]:=aB
theorem RT:Bm prog 148=some #[.string ⟨#[]⟩,.int .i64 0,.int .i64 0,.int .i64 0,.int .i64 0,.slice none 0 0]:=aB
theorem Ye:Bm prog 150=some #[.slice none 0 0,.int .i64 0,.int .i64 0]:=aB
theorem GF:Bm prog 160=some #[.int .i64 0,.int .i64 0,.int .i64 0,.int .i64 0,.int .i64 0,.int .i64 0,.int .i64 0,.int .i64 0,.int .i64 0]:=aB
theorem J3:Bm prog 162=some #[.int .i64 0,.int .i64 0,.int .i64 0,.int .i64 0,.int .i64 0,.int .i64 0,.int .i64 0]:=aB
theorem RU:Bm prog 168=some #[.bool false,.bool false,.bool false,.bool false]:=aB
theorem Yf:Bm prog 196=some #[.nilFunc]:=aB
theorem J4:Bm prog 209=some #[.int .i64 0,.int .i64 0]:=aB
theorem Yg:Bm prog 213=some #[.chan none]:=aB
theorem Yh:Bm prog 214=some #[.chan none]:=aB
theorem Yi:Bm prog 215=some #[.chan none]:=aB
theorem RV:Bm prog 217=some #[.int .i64 0,.bool false]:=aB
theorem Yj:Bm prog 244=some #[.int .i64 0,.int .i64 0,.int .i64 0,.int .i64 0,.int .i64 0,.int .i64 0,.int .i64 0,.int .i64 0,.int .i64 0,.int .i64 0,.int .i64 0,.int .i64 0,.int .i64 0,.int .i64 0,.int .i64 0,.int .i64 0]:=aB
theorem Ec:Bm prog 27=some #[.int .i64 0,.int .i64 0,.slice none 0 0,.slice none 0 0,.slice none 0 0,.slice none 0 0]:=aB
theorem fx_zero3:Bm prog 3=some #[.int .i64 0]:=aB
theorem fx_zero37:Bm prog 37=some #[.slice none 0 0]:=aB
theorem fx_zero4:Bm prog 4=some #[.bool false]:=aB
theorem B2:Bm prog 46=some #[.int .i64 0,.int .i64 0]:=aB
theorem Fk:Bm prog 48=some #[.int .i64 0,.int .i64 0,.int .i64 0,.int .i64 0,.slice none 0 0]:=aB
theorem fx_zero9:Bm prog 9=some #[.string ⟨#[]⟩]:=aB
theorem GS:Bm prog 94=some #[.slice none 0 0,.int .i64 0,.int .i64 0]:=aB
theorem TZ:Bm prog 98=some #[.slice none 0 0]:=aB
end Go.Ns
namespace Go.Ns
open Go.Conc Go.Proofs Go.Proofs.Tryz
attribute [local irreducible] BQ DL Tr AV Bn BP
variable {W:Wk prog} {h:GH} {bag kinds:Int} {ps:List ByteArray} {psv:Value} {ws:List AJ} {wsv:Value} {js:List AL} {jsv:Value} {ns:List AM} {nsv:Value}
theorem JC(a:List Int)(av:Value)(b:List Int)(bv:Value)(ha:AH h av 1 eI a)(hb:AH h bv 1 eI b):AV W 103 #[av,bv] h (λv h'=>v=(.bool (decide (a=b)):Value)/\h.Le h'):=by
 have ad:=ha.len;have ae:=hb.len;refine Ct func103 Z (Sr (Az (.bool false) Z (Nl (S2 (Mz av Z (Pl Z (AI A1 ha Z (Mz bv Z (Pl Z (AI A1 hb Z (Pl Z (At Z Z (Nl (AS Z (λar=>?_) (λar=>?_)))))))))))))))
 ·exact Sr (Az (.bool false) Z (Nl (Rt (⟨Zr,Ot (.bool false) Z (⟨(by (rw [decide_eq_false (ne_len aA)];done)),Lr⟩)⟩))))
 ·refine Sk (S2 (Az (J 0) Z (Nl (Bk (Aa (λnn σ' ds' h'=>∃(k:Nat),nn=a.length-k/\(k<=a.length)/\(a.take k=b.take k)/\ds'=[]/\GH.Le h h'/\σ' 0=av/\σ' 1=bv/\σ' 5=J k) ⟨0,Z,aA,(by rfl),Z,Lr,Z,Z,Z⟩ (λnn _ _ _ au=>?_))))));obtain ⟨k,rfl,hk,hs,x8,x9,af,aq,ac⟩:=au;subst x8;refine S2 (Mv (J k) Z ac (Mv av Z af (Pl Z (AI A1 (ha.le x9) Z (Pl Z (Ac Z Z (Nl (AS Z (λag=>?_) (λag=>?_)))))))))
  ·refine Sk (Sq (Bk (Sq (By 8 false [1,6,10,16,21,26,30,36] An aB (Rz Z (Mo av af vz) (Rz Z (Mo (J k) ac vz) ?_))))));have ah:(0:Int)<=(k:Int):=aA
   have ai:(k:Int)<((a.length:Nat):Int):=aA
   refine tI Z Z Ak ha Z Z ah ai λaw aa aj=>have ak:AT _ aw aa 1 (eI (a.getD k 0)):=AT.getD 0 aj;Rl (Qp a k) Z (Am AP (ak.le x9) Z) (Rz Z (Mo bv aq vz) (Rz Z (Mo (J k) ac vz) ?_));have al:(0:Int)<=(k:Int):=aA
   have am:(k:Int)<((b.length:Nat):Int):=aA
   refine tI Z Z Ak hb Z Z al am λax ab an=>have ao:AT _ ax ab 1 (eI (b.getD k 0)):=AT.getD 0 an;Rl (Qp b k) Z (Am AP (ao.le x9) Z) (tN (Pl Z (At Z Z (Nl (AS Z (λap=>?_) (λap=>?_))))))
   ·exact Sr (Az (.bool false) Z (Nl (Rt (⟨Zr,Ot (.bool false) Z (⟨(by (rw [decide_eq_false (ne_getD (k:=k) (d:=0) ‹_›)])),x9⟩)⟩))))
   ·exact Sk (Rg (Mv (J k) Z ac (Yd Z aA (Az (J ((k:Int)+1)) Z (Nl (⟨_,aA,k+1,Z,aA,(by exact Pc 0 hs aA aA aE),Z,x9,af,aq,Z⟩))))))
  ·exact Xt (Sr (Az (.bool true) Z (Nl (Rt (⟨Zr,Ot (.bool true) Z (⟨(by (rw [decide_eq_true (T3 hs hk ‹_› aA)];done)),x9⟩)⟩)))))
theorem Kt(a:List Int)(av:Value)(n:Int)(ha:AH h av 1 eI a):AV W 138 #[av,J n] h (λv h'=>v=(.bool (decide (n ∈ a)):Value)/\h.Le h'):=by
 have ab:=ha.len;refine Ct func138 Z (Sr (Az (.bool false) Z (Nl (S2 (Az (J 0) Z (Nl (Bk (Aa (λnn σ' ds' h'=>∃(k:Nat),nn=a.length-k/\(k<=a.length)/\(¬n ∈ a.take k)/\ds'=[]/\GH.Le h h'/\σ' 0=av/\σ' 1=J n/\σ' 5=J k) ⟨0,Z,aA,aD,Z,Lr,Z,Z,Z⟩ (λnn _ _ _ aj=>?_)))))))));obtain ⟨k,rfl,hk,hs,x6,x7,x8,x9,ac⟩:=aj;subst x6;refine S2 (Mv (J k) Z ac (Mv av Z x8 (Pl Z (AI A1 (ha.le x7) Z (Pl Z (Ac Z Z (Nl (AS Z (λad=>?_) (λad=>?_)))))))))
 ·refine Sk (Sq (Bk (Sr (Mv av Z x8 (Mv (J k) Z ac ?_)))));have ae:(0:Int)<=(k:Int):=aA
  have af:(k:Int)<((a.length:Nat):Int):=aA
  refine Pl Z (AW Ak ha Z Z ae af λak aa ag=>have ah:AT _ ak aa 1 (eI (a.getD k 0)):=AT.getD 0 ag;Lz (Qp a k) Z (Am AP (ah.le x7) Z) (Mv (J n) Z x9 (Pl Z (B6 Z Z (Nl (AS Z (λai=>?_) (λai=>?_)))))))
  ·exact Sr (Az (.bool true) Z (Nl (Rt (⟨Zr,Ot (.bool true) Z (⟨(by (rw [decide_eq_true (has_hit (k:=k) ‹_› ‹_›)];done)),x7⟩)⟩))))
  ·exact Sk (Rg (Mv (J k) Z ac (Yd Z aA (Az (J ((k:Int)+1)) Z (Nl (⟨_,aA,k+1,Z,aA,(by exact has_next ‹_› hs ‹_›),Z,x7,x8,x9,Z⟩))))))
 ·exact Xt (Sr (Az (.bool false) Z (Nl (Rt (⟨Zr,Ot (.bool false) Z (⟨(by (rw [decide_eq_false (has_end (k:=k) ‹_› hs)])),x7⟩)⟩)))))
theorem ES(n:Int)(lo:Int)(hi:Int):AV W 74 #[J n,J lo,J hi] h (λv h'=>v=(.bool (decide (lo<=n/\n<=hi)):Value)/\h=h'):=by
 refine Ct func74 Z (Sr (Az (.bool false) Z (Nl (BC (λσ' ds' h'=>ds'=[]/\h=h'/\σ' 6=.bool (Q12 lo n hi)) ?_ ?_))))
 ·refine Rg (Mz (J n) Z (Mz (J lo) Z (Pl Z (Cq Z Z (Mz (Qk lo n) Z (Ae (p:=lo<=n) ?_ ?_))))))
  ·intro aa;exact Gg 3 10 (AB Z aa) Z (Mo (J n) Z (Gg 3 10 (AB Z aa) Z (Mo (J hi) Z (Gg 3 10 (AB Z aa) Z (DH Z Z (Pk true (Qk n hi) Z (AB Z aa) Z (Az (Qk n hi) Z (Nl (⟨Z,Z,Et (b:=(.bool (decide (n<=hi)):Value)) Z (congrArg Value.bool (by (simp [aa];done):decide (n<=hi)=(Q12 lo n hi)))⟩)))))))))
  ·intro aa;exact Gs 3 10 (AA Z aa) Z (Gs 3 10 (AA Z aa) Z (Gs 3 10 (AA Z aa) Z (Pk false (.bool false) Z (AA Z aa) Z (Az (.bool false) Z (Nl (⟨Z,Z,Et (b:=(.bool false:Value)) Z (congrArg Value.bool (by (simp [aa];done):false=(Q12 lo n hi)))⟩))))))
 ·rintro _ _ _ ⟨ac,ab,ad⟩;subst ac;subst ab;exact Rt (⟨Zr,Ij Z (v:=.bool (Q12 lo n hi)) ad (⟨(by rfl),Z⟩)⟩)
theorem Iu(xl:Int)(xh:Int)(lo:Int)(hi:Int):AV W 82 #[.agg #[J xl,J xh],J lo,J hi] h (λv h'=>v=(.bool (decide ((lo<=xl/\xl<=xh)/\xh<=hi)):Value)/\h.Le h'):=by
 refine Ct func82 Z (Sr (Pl Z (Bo #[J xl,J xh] Z Z λ_ h2 _ ae ad _=>Az (.bool false) Z (Nl (BC (λσ' ds' h'=>ds'=[]/\h2=h'/\σ' 6=.bool (Q14 lo xl xh hi)) ?_ ?_)))))
 ·refine Rg (Fz C8 Z (Lz (J xl) Z (Rd.one AP ad Z) (Mz (J lo) Z (Pl Z (Cq Z Z (Mz (Qk lo xl) Z (Ae (p:=lo<=xl) ?_ ?_)))))))
  ·intro aa;refine Gg 4 11 (AB Z aa) Z (AC C9 Z (Gg 4 11 (AB Z aa) Z (Lo (J xh) Z (Rd.one AP ad Z) (Gg 4 11 (AB Z aa) Z (AC C8 Z (Gg 4 11 (AB Z aa) Z (Lo (J xl) Z (Rd.one AP ad Z) (Gg 4 11 (AB Z aa) Z (Cq Z Z (Pk true (Qk xl xh) Z (AB Z aa) Z (Mz (Qk xl xh) Z (Ae (p:=xl<=xh) ?_ ?_))))))))))))
   ·intro ab;exact Gg 11 18 (AB Z ab) Z (AC C9 Z (Gg 11 18 (AB Z ab) Z (Lo (J xh) Z (Rd.one AP ad Z) (Gg 11 18 (AB Z ab) Z (Mo (J hi) Z (Gg 11 18 (AB Z ab) Z (DH Z Z (Pk true (Qk xh hi) Z (AB Z ab) Z (Az (Qk xh hi) Z (Nl (⟨Z,Z,Et (b:=(.bool (decide (xh<=hi)):Value)) Z (congrArg Value.bool (by (simp [aa,ab];done):decide (xh<=hi)=(Q14 lo xl xh hi)))⟩)))))))))))
   ·intro ab;exact Gs 11 18 (AA Z ab) Z (Gs 11 18 (AA Z ab) Z (Gs 11 18 (AA Z ab) Z (Gs 11 18 (AA Z ab) Z (Pk false (.bool false) Z (AA Z ab) Z (Az (.bool false) Z (Nl (⟨Z,Z,Et (b:=(.bool false:Value)) Z (congrArg Value.bool (by (simp [aa,ab];done):false=(Q14 lo xl xh hi)))⟩)))))))
  ·intro aa;exact Gs 4 11 (AA Z aa) Z (Gs 4 11 (AA Z aa) Z (Gs 4 11 (AA Z aa) Z (Gs 4 11 (AA Z aa) Z (Gs 4 11 (AA Z aa) Z (Pk false (.bool false) Z (AA Z aa) Z (Mz (.bool false) Z (Gs 11 18 Z Z (Gs 11 18 Z Z (Gs 11 18 Z Z (Gs 11 18 Z Z (Pz false (.bool false) Z (Az (.bool false) Z (Nl (⟨Z,Z,Et (b:=(.bool false:Value)) Z (congrArg Value.bool (by (simp [aa];done):false=(Q14 lo xl xh hi)))⟩))))))))))))))
 ·rintro _ _ _ ⟨af,ac,ag⟩;subst af;subst ac;exact Rt (⟨Zr,Ij Z (v:=.bool (Q14 lo xl xh hi)) ag (⟨(by rfl),ae⟩)⟩)
theorem WG(c:Int):AV W 165 #[.int .u8 c] h (λv h'=>v=(.bool (decide (EU c)):Value)/\h=h'):=by
 refine Ct func165 Z (Sr (Az (.bool false) Z (Nl (BC (λσ' ds' h'=>ds'=[]/\h=h'/\σ' 2=.bool (Q1a c)) ?_ ?_))))
 ·refine Rg (Mz (.int .u8 c) Z (Pl Z (Cq Z Z (Mz (.bool (decide (97<=c))) Z (Ae (p:=97<=c) ?_ ?_)))))
  ·intro aa;exact Gg 2 5 (AB Z aa) Z (Mo (.int .u8 c) Z (Gg 2 5 (AB Z aa) Z (DH Z Z (Pk true (.bool (decide (c<=122))) Z (AB Z aa) Z (Az (.bool (decide (c<=122))) Z (Nl (⟨Z,Z,Et (b:=(.bool (decide (c<=122)):Value)) Z (congrArg Value.bool (by (simp [aa];done):decide (c<=122)=(Q1a c)))⟩)))))))
  ·intro aa;exact Gs 2 5 (AA Z aa) Z (Gs 2 5 (AA Z aa) Z (Pk false (.bool false) Z (AA Z aa) Z (Az (.bool false) Z (Nl (⟨Z,Z,Et (b:=(.bool false:Value)) Z (congrArg Value.bool (by (simp [aa];done):false=(Q1a c)))⟩)))))
 ·rintro _ _ _ ⟨ac,ab,ad⟩;subst ac;subst ab;exact Rt (⟨Zr,Ij Z (v:=.bool (Q1a c)) ad (⟨(by rfl),Z⟩)⟩)
theorem Yk(c:Int):AV W 166 #[.int .u8 c] h (λv h'=>v=(.bool (decide (Ej c)):Value)/\h=h'):=by
 refine Ct func166 Z (Sr (Az (.bool false) Z (Nl (BC (λσ' ds' h'=>ds'=[]/\h=h'/\σ' 2=.bool (Q1h c)) ?_ ?_))))
 ·refine Rg (Mz (.int .u8 c) Z (Pl Z (Cq Z Z (Mz (.bool (decide (48<=c))) Z (Ae (p:=48<=c) ?_ ?_)))))
  ·intro aa;exact Gg 2 5 (AB Z aa) Z (Mo (.int .u8 c) Z (Gg 2 5 (AB Z aa) Z (DH Z Z (Pk true (.bool (decide (c<=57))) Z (AB Z aa) Z (Az (.bool (decide (c<=57))) Z (Nl (⟨Z,Z,Et (b:=(.bool (decide (c<=57)):Value)) Z (congrArg Value.bool (by (simp [aa];done):decide (c<=57)=(Q1h c)))⟩)))))))
  ·intro aa;exact Gs 2 5 (AA Z aa) Z (Gs 2 5 (AA Z aa) Z (Pk false (.bool false) Z (AA Z aa) Z (Az (.bool false) Z (Nl (⟨Z,Z,Et (b:=(.bool false:Value)) Z (congrArg Value.bool (by (simp [aa];done):false=(Q1h c)))⟩)))))
 ·rintro _ _ _ ⟨ac,ab,ad⟩;subst ac;subst ab;exact Rt (⟨Zr,Ij Z (v:=.bool (Q1h c)) ad (⟨(by rfl),Z⟩)⟩)
theorem R5(xs:List Int)(xsv:Value)(fv:Value)(p:Int->Bool)(hxs:AH h xsv 1 eI xs)(hf:∀x ∈ xs,∀h1,h.Le h1->Bn W fv #[J x] h1 λv h2=>v=.bool (p x)/\h1.Le h2):AV W 162 #[xsv,fv] h (λv h'=>v=(J (idxOf p xs):Value)/\h.Le h'):=by
 have ac:=hxs.len;refine Ct func162 Z (Sr (Az (J 0) Z (Nl (S2 (Mz xsv Z (Pl Z (AI A1 hxs Z (Mz (J 0) Z (Nl (Bk (Aa (λnn σ' ds' h'=>∃(k:Nat),nn=xs.length-k/\(k<=xs.length)/\((xs.take k).any p=false)/\ds'=[]/\GH.Le h h'/\σ' 0=xsv/\σ' 1=fv/\σ' 7=J (xs.length:Int)/\σ' 8=J k) ⟨0,Z,aA,aD,Z,Lr,Z,Z,Z,Z⟩ (λnn _ _ _ am=>?_))))))))))));obtain ⟨k,rfl,hk,hs,x6,x7,x8,x9,al,ad⟩:=am;subst x6;refine Sr (Pl Z (Ac ad al (Nl (Sq (AS Z (λae=>?_) (λae=>?_))))))
 ·refine Sk (Sq (Bk (Sr (Mv (J k) Z ad (Az (J k) Z (Nl (Sr (Mv fv Z x9 (Mv xsv Z x8 (Mz (J k) Z ?_))))))))));have af:(0:Int)<=(k:Int):=aA
  have ag:(k:Int)<((xs.length:Nat):Int):=aA
  refine Pl Z (AW Ak hxs Z Z af ag λan ab ah=>have ai:AT _ an ab 1 (eI (xs.getD k 0)):=AT.getD 0 ah;Lz (Qp xs k) Z (Am AP (ai.le x7) Z) (Pl Z (Jb Z (vs:=#[J (xs.getD k 0)]) (by simp only [List.map_toArray,List.map_cons,List.map_nil,AQ] <;> rfl) ((hf (xs.getD k 0) (Ba aA) _ x7).mono λ_ _ aj=>?_))));obtain ⟨rfl,aa⟩:=aj;refine Nl (Bu Z (λak=>?_) (λak=>?_))
  ·exact Sr (Mz (J k) Z (Az (J k) Z (Nl (Rt (⟨Zr,Ot (J k) Z (⟨(by (rw [GI (k:=k) aA hs ‹_›];done)),(x7.trans aa)⟩)⟩)))))
  ·exact Sk (Rg (Ad _ _ Z ad Z aA (Mz (J ((k:Int)+1)) Z (Nl (⟨_,aA,k+1,Z,aA,(by exact DY (d:=0) aA hs ‹_›),Z,(x7.trans aa),x8,x9,al,Z⟩)))))
 ·exact Xt (Sr (Az (J (-1)) Z (Nl (Rt (⟨Zr,Ot (J (-1)) Z (⟨(by (rw [E8 (k:=k) aA hs])),x7⟩)⟩)))))
theorem HD(xs:List Int)(xsv:Value)(fv:Value)(p:Int->Bool)(hxs:AH h xsv 1 eI xs)(hf:∀x ∈ xs,∀h1,h.Le h1->Bn W fv #[J x] h1 λv h2=>v=.bool (p x)/\h1.Le h2):AV W 125 #[xsv,fv] h (λv h'=>v=(.bool (xs.any p):Value)/\h.Le h'):=by
 have aa:=hxs.len;refine Ct func125 Z (Sr (Az (.bool false) Z (Nl (Sr (Mz xsv Z (Mz fv Z (Pl Z (AR func162 X7 Z Z ((R5 xs xsv fv p hxs (λx hx h1 l1=>hf x hx h1 (GH.Le.trans Lr l1))).mono λ_ _ ac=>?_)))))))));obtain ⟨rfl,ab⟩:=ac;exact Pl Z (Cq Z Z (Az (.bool (decide (0<=(idxOf p xs)))) Z (Nl (Rt (⟨Zr,Ot (.bool (decide (0<=(idxOf p xs)))) Z (⟨(by rw [show decide (0<=idxOf p xs)=xs.any p from by rw [Bool.eq_iff_iff];simp [EV]]),ab⟩)⟩)))))
theorem DA(n:Int)(lo:Int)(hi:Int):AV W 95 #[J n,J lo,J hi] h (λv h'=>v=(.bool (decide (lo<=n/\n<=hi)):Value)/\h=h'):=by
 refine Ct func95 Z (Sr (Az (.bool false) Z (Nl (BC (λσ' ds' h'=>ds'=[]/\h=h'/\σ' 6=.bool (Q12 lo n hi)) ?_ ?_))))
 ·refine Rg (Mz (J lo) Z (Mz (J n) Z (Pl Z (DH Z Z (Mz (Qk lo n) Z (Ae (p:=lo<=n) ?_ ?_))))))
  ·intro aa;exact Gg 3 10 (AB Z aa) Z (Mo (J n) Z (Gg 3 10 (AB Z aa) Z (Mo (J hi) Z (Gg 3 10 (AB Z aa) Z (DH Z Z (Pk true (Qk n hi) Z (AB Z aa) Z (Az (Qk n hi) Z (Nl (⟨Z,Z,Et (b:=(.bool (decide (n<=hi)):Value)) Z (congrArg Value.bool (by (simp [aa];done):decide (n<=hi)=(Q12 lo n hi)))⟩)))))))))
  ·intro aa;exact Gs 3 10 (AA Z aa) Z (Gs 3 10 (AA Z aa) Z (Gs 3 10 (AA Z aa) Z (Pk false (.bool false) Z (AA Z aa) Z (Az (.bool false) Z (Nl (⟨Z,Z,Et (b:=(.bool false:Value)) Z (congrArg Value.bool (by (simp [aa];done):false=(Q12 lo n hi)))⟩))))))
 ·rintro _ _ _ ⟨ac,ab,ad⟩;subst ac;subst ab;exact Rt (⟨Zr,Ij Z (v:=.bool (Q12 lo n hi)) ad (⟨(by rfl),Z⟩)⟩)
theorem Ku(xl:Int)(xh:Int)(top:Int)(many:Int)(ht:top<=1000):AV W 205 #[.agg #[J xl,J xh],J top,J many] h (λv h'=>v=(.bool (decide (IV xl xh top many)):Value)/\h.Le h'):=by
 refine Ct func205 Z (Sr (Pl Z (Bo #[J xl,J xh] Z Z λ_ h2 _ af ad _=>Az (.bool false) Z (Nl (BC (λσ' ds' h'=>ds'=[]/\h2=h'/\σ' 6=.bool (Ql xl xh top many)) ?_ ?_)))))
 ·refine Rg (Fz C8 Z (Lz (J xl) Z (Rd.one AP ad Z) (Pl Z (DH Z Z (Mz (.bool (decide (0<=xl))) Z (Ae (p:=0<=xl) ?_ ?_))))))
  ·intro ab;refine Gg 3 10 (AB Z ab) Z (AC C8 Z (Gg 3 10 (AB Z ab) Z (Lo (J xl) Z (Rd.one AP ad Z) (Gg 3 10 (AB Z ab) Z (AC C9 Z (Gg 3 10 (AB Z ab) Z (Lo (J xh) Z (Rd.one AP ad Z) (Gg 3 10 (AB Z ab) Z (DH Z Z (Pk true (Qk xl xh) Z (AB Z ab) Z (Mz (Qk xl xh) Z (Ae (p:=xl<=xh) ?_ ?_))))))))))))
   ·intro ac;refine Gg 10 17 (AB Z ac) Z (AC C9 Z (Gg 10 17 (AB Z ac) Z (Lo (J xh) Z (Rd.one AP ad Z) (Gg 10 17 (AB Z ac) Z (Mo (J top) Z (Gg 10 17 (AB Z ac) Z (DH Z Z (Pk true (Qk xh top) Z (AB Z ac) Z (Mz (Qk xh top) Z (Ae (p:=xh<=top) ?_ ?_))))))))))
    ·intro aa;exact Gg 16 23 (AB Z aa) Z (AC C9 Z (Gg 16 23 (AB Z aa) Z (Lo (J xh) Z (Rd.one AP ad Z) (Gg 16 23 (AB Z aa) Z (AC C8 Z (Gg 16 23 (AB Z aa) Z (Lo (J xl) Z (Rd.one AP ad Z) (Gg 16 23 (AB Z aa) Z (Ca Z Z aA (Gg 16 23 (AB Z aa) Z (Mo (J many) Z (Gg 16 23 (AB Z aa) Z (Ac Z Z (Pk true (.bool (decide ((xh-xl)<many))) Z (AB Z aa) Z (Az (.bool (decide ((xh-xl)<many))) Z (Nl (⟨Z,Z,Et (b:=(.bool (decide ((xh-xl)<many)):Value)) Z (congrArg Value.bool (by (simp [ab,ac,aa];done):decide ((xh-xl)<many)=(Ql xl xh top many)))⟩)))))))))))))))))
    ·intro aa;exact Gs 16 23 (AA Z aa) Z (Gs 16 23 (AA Z aa) Z (Gs 16 23 (AA Z aa) Z (Gs 16 23 (AA Z aa) Z (Gs 16 23 (AA Z aa) Z (Gs 16 23 (AA Z aa) Z (Gs 16 23 (AA Z aa) Z (Pk false (.bool false) Z (AA Z aa) Z (Az (.bool false) Z (Nl (⟨Z,Z,Et (b:=(.bool false:Value)) Z (congrArg Value.bool (by (simp [ab,ac,aa];done):false=(Ql xl xh top many)))⟩))))))))))
   ·intro ac;exact Gs 10 17 (AA Z ac) Z (Gs 10 17 (AA Z ac) Z (Gs 10 17 (AA Z ac) Z (Gs 10 17 (AA Z ac) Z (Pk false (.bool false) Z (AA Z ac) Z (Mz (.bool false) Z (Gs 16 23 Z Z (Gs 16 23 Z Z (Gs 16 23 Z Z (Gs 16 23 Z Z (Gs 16 23 Z Z (Gs 16 23 Z Z (Gs 16 23 Z Z (Pz false (.bool false) Z (Az (.bool false) Z (Nl (⟨Z,Z,Et (b:=(.bool false:Value)) Z (congrArg Value.bool (by (simp [ab,ac];done):false=(Ql xl xh top many)))⟩))))))))))))))))
  ·intro ab;exact Gs 3 10 (AA Z ab) Z (Gs 3 10 (AA Z ab) Z (Gs 3 10 (AA Z ab) Z (Gs 3 10 (AA Z ab) Z (Gs 3 10 (AA Z ab) Z (Pk false (.bool false) Z (AA Z ab) Z (Mz (.bool false) Z (Gs 10 17 Z Z (Gs 10 17 Z Z (Gs 10 17 Z Z (Gs 10 17 Z Z (Pz false (.bool false) Z (Mz (.bool false) Z (Gs 16 23 Z Z (Gs 16 23 Z Z (Gs 16 23 Z Z (Gs 16 23 Z Z (Gs 16 23 Z Z (Gs 16 23 Z Z (Gs 16 23 Z Z (Pz false (.bool false) Z (Az (.bool false) Z (Nl (⟨Z,Z,Et (b:=(.bool false:Value)) Z (congrArg Value.bool (by (simp [ab];done):false=(Ql xl xh top many)))⟩)))))))))))))))))))))))
 ·rintro _ _ _ ⟨ag,ae,ah⟩;subst ag;subst ae;exact Rt (⟨Zr,Ij Z (v:=.bool (Ql xl xh top many)) ah (⟨(by rfl),af⟩)⟩)
theorem WH(hQ:FR h ps psv ws wsv js jsv ns nsv):AV W 196 #[.agg #[J bag,J kinds,psv,wsv,jsv,nsv]] h (λv h'=>v=(J (HK bag kinds):Value)/\h.Le h'):=by
 have ad:=hQ.1.len;have ae:=hQ.2.len;have af:=hQ.3.len;have ag:=hQ.5.len;refine Ct func196 Z (Sr (Pl Z (Bo #[J bag,J kinds,psv,wsv,jsv,nsv] Z Z λ_ h6 _ ab am _=>Az (J 0) Z (Nl (Sq (BC (λσ' ds' h'=>ds'=[]/\h6=h'/\σ' 2=J 0/\σ' 14=.bool (Qi bag kinds)) ?_ ?_))))))
 ·refine Rg (Fz Au Z (Fz G8 Z (Lz (J bag) Z (Rd.one AP am Z) (Pl Z (Aw func95 Ea Z Z Z ((DA bag 0 9 ).mono λ_ _ ah=>?_))))));obtain ⟨rfl,rfl⟩:=ah;refine Pl Z (A8 Z (Mz (.bool (decide (¬(0<=bag/\bag<=9)))) Z (Ae (p:=¬(0<=bag/\bag<=9)) ?_ ?_)))
  ·intro aa;exact Gs 5 8 (AB Z aa) Z (Gs 5 8 (AB Z aa) Z (Gs 5 8 (AB Z aa) Z (Gs 5 8 (AB Z aa) Z (Gs 5 8 (AB Z aa) Z (Pk true (.bool true) Z (AB Z aa) Z (Nl (⟨Z,Z,Z,Et (b:=(.bool true:Value)) Z (congrArg Value.bool (by (simp [aa];done):true=(Qi bag kinds)))⟩)))))))
  ·intro aa;refine Gg 5 8 (AA Z aa) Z (AC Au Z (Gg 5 8 (AA Z aa) Z (AC Di Z (Gg 5 8 (AA Z aa) Z (Lo (J kinds) Z (Rd.one AP am Z) (Gg 5 8 (AA Z aa) Z (Aw func95 Ea Z Z Z ((DA kinds 0 3 ).mono λ_ _ ai=>?_))))))));obtain ⟨rfl,rfl⟩:=ai;exact Gg 5 8 (AA Z aa) Z (A8 Z (Pk false (.bool (Q1d kinds)) Z (AA Z aa) Z (Nl (⟨Z,Z,Z,Et (b:=(.bool (Q1d kinds):Value)) Z (congrArg Value.bool (by (simp [aa];done):decide (¬(0<=kinds/\kinds<=3))=(Qi bag kinds)))⟩))))
 ·rintro _ _ _ ⟨aj,ac,an,ak⟩;subst aj;subst ac;refine AS ak (λal=>?_) (λal=>?_)
  ·exact Sr (Az (J 1) Z (Nl (Rt (⟨Zr,Ot (J 1) Z (⟨(by simp_all [HK]),ab⟩)⟩))))
  ·exact Sk (Sr (Az (J 0) Z (Nl (Rt (⟨Zr,Ot (J 0) Z (⟨(by simp_all [HK]),ab⟩)⟩)))))
theorem MB(l:List Int)(lv:Value)(hQ:FR h ps psv ws wsv js jsv ns nsv)(hl:AH h lv 1 eI l):AV W 86 #[.agg #[J bag,J kinds,psv,wsv,jsv,nsv],lv] h (λv h'=>v=(J (Bw ps.length l):Value)/\h.Le h'):=by
 have af:=hQ.1.len;have ag:=hQ.2.len;have ah:=hQ.3.len;have ai:=hQ.5.len;have aj:=hl.len;refine Ct func86 Z (Sr (Pl Z (Bo #[J bag,J kinds,psv,wsv,jsv,nsv] Z Z λr6 h7 _ aa ak _=>Az (J 0) Z (Nl (S2 (Mz lv Z (Pl Z (AI A1 (hl.le aa) Z (Mz (J 0) Z (Nl (Bk (Aa (λnn σ' ds' h'=>∃(k:Nat),nn=l.length-k/\(k<=l.length)/\(∀j,j<k->Ek ps.length l j=0)/\ds'=[]/\GH.Le h7 h'/\σ' 2=Pt r6/\σ' 7=lv/\σ' 8=J (l.length:Int)/\σ' 9=J k) ⟨0,Z,aA,aI,Z,Lr,Z,Z,Z,Z⟩ (λnn _ _ _ al=>?_)))))))))))));obtain ⟨k,rfl,hk,hs,ay,ae,av,aw,ax,am⟩:=al;subst ay;refine Sr (Pl Z (Ac am ax (Nl (Sq (AS Z (λan=>?_) (λan=>?_))))))
 ·refine Sk (Sq (Bk (Sq (Rg ?_))));have ao:(0:Int)<=(k:Int):=aA
  have ap:(k:Int)<((l.length:Nat):Int):=aA
  refine Pl Z (AW Ak hl aw am ao ap λaz ac aq=>have ar:AT _ az ac 1 (eI (l.getD k 0)):=AT.getD 0 aq;have ab:=aa.trans ae;Lz (Qp l k) Z (Am AP (ar.le ab) Z) (Az (Qp l k) Z (Nl (Sr (Mz (Qp l k) Z (Fa Au Z av (Fz Bz Z (Lz psv Z (Rd.one DU (ae.keep ak Z) Z) (Pl Z (AI DI (hQ.1.le ab) Z (Pl Z (Ca Z Z aA (Pl Z (Aw func95 Ea Z Z Z ((DA (l.getD k 0) 0 ((ps.length:Int)-1) ).mono λ_ _ au=>?_)))))))))))))));obtain ⟨rfl,rfl⟩:=au;refine Pl Z (A8 Z (Nl (AS Z (λad=>?_) (λad=>?_))))
  ·exact Sr (Az (J 6) Z (Nl (Rt (⟨Zr,Ot (J 6) Z (⟨(by (symm;congr 1;exact UF hs aA ‹_›)),ab⟩)⟩))))
  ·have hc40_:=Dn ad;exact Sk (Rg (Ad _ _ Z am Z aA (Mz (J ((k:Int)+1)) Z (Nl (⟨_,aA,k+1,Z,aA,(by exact Db hs (by unfold Ek;rw [if_neg ‹_›])),Z,ae,av,aw,ax,Z⟩)))))
 ·exact Xt (Sr (Az (J 0) Z (Nl (Rt (⟨Zr,Ot (J 0) Z (⟨(by (symm;congr 1;exact VO hs aA)),(aa.trans ae)⟩)⟩)))))
theorem Ue(s:ByteArray)(hsz:s.size<=1000):AV W 201 #[.string s] h (λv h'=>v=(.bool (Dm s):Value)/\h.Le h'):=by
 have hbl:=Cr s;refine Ct func201 Z (Sr (Az (.bool false) Z (Nl (S2 (Mz (.string s) Z (Pl Z (U6 OX Z aA λa4 h2 ak a5=>Pl Z (AI WD a5 Z (Mz (J 0) Z (Nl (Bk (Aa (λnn σ' ds' h'=>∃(k:Nat),nn=(bytesOf s).length-k/\(k<=(bytesOf s).length)/\(∀j,j<k->G0 s j=0)/\ds'=[]/\GH.Le h2 h'/\σ' 0=.string s/\σ' 6=a4/\σ' 7=J ((bytesOf s).length:Int)/\σ' 8=J k) ⟨0,Z,aA,aI,Z,Lr,Z,Z,Z,Z⟩ (λnn _ _ h7 a6=>?_)))))))))))));obtain ⟨k,rfl,hk,hs,x9,ap,ah,ai,aj,ag⟩:=a6;subst x9;have hby:=I4 s k;refine Sr (Pl Z (Ac ag aj (Nl (Sq (AS Z (λal=>?_) (λal=>?_))))))
 ·refine Sk (Sq (Bk (Sr (Mv (J k) Z ag ?_))));have aq:(0:Int)<=(k:Int):=aA
  have ar:(k:Int)<(((bytesOf s).length:Nat):Int):=aA
  refine Pl Z (AW TY a5 ai ag aq ar λa7 am au=>have av:AT _ a7 am 1 (eB (Q8 s k)):=AT.getD 0 au;Lz (.int .u8 (Q8 s k)) Z (Am fx_ty5 (av.le ap) Z) (Az (J k) Z (Az (.int .u8 (Q8 s k)) Z (Nl (BC (λσ' ds' h'=>ds'=[]/\h7=h'/\σ' 0=.string s/\σ' 6=a4/\σ' 7=J ((bytesOf s).length:Int)/\σ' 8=J k/\σ' 31=.bool (Q4 s k)) ?_ ?_)))))
  ·refine Rg (Mz (.int .u8 (Q8 s k)) Z (Pl Z (Cq Z Z (Mz (.bool (decide (97<=(Q8 s k)))) Z (Ae (p:=97<=(Q8 s k)) ?_ ?_)))))
   ·intro ab;refine Gg 2 15 (AB Z ab) Z (Mo (.int .u8 (Q8 s k)) Z (Gg 2 15 (AB Z ab) Z (DH Z Z (Pk true (.bool (decide ((Q8 s k)<=122))) Z (AB Z ab) Z (Mz (.bool (decide ((Q8 s k)<=122))) Z (Ae (p:=(Q8 s k)<=122) ?_ ?_))))))
    ·intro aa;exact Gs 6 19 (AB Z aa) Z (Gs 6 19 (AB Z aa) Z (Gs 6 19 (AB Z aa) Z (Ap (j:=9) (d:=22) Z Z Z Z Z Z (Ap (j:=9) (d:=22) Z Z Z Z Z Z (Gs 6 19 (AB Z aa) Z (Gs 6 19 (AB Z aa) Z (Ap (j:=13) (d:=26) Z Z Z Z Z Z (Ap (j:=13) (d:=26) Z Z Z Z Z Z (Gs 6 19 (AB Z aa) Z (Pk true (.bool true) Z (AB Z aa) Z (Pl Z (CM Z (Nl (⟨Z,Z,ah,ai,aj,ag,Et (b:=(.bool false:Value)) Z (congrArg Value.bool (by grind:false=(Q4 s k)))⟩))))))))))))))
    ·intro aa;refine Gg 6 19 (AA Z aa) Z (Mo (J k) Z (Gg 6 19 (AA Z aa) Z (Bq Z Z (Gg 6 19 (AA Z aa) Z (Mo (.bool (decide (0<(k:Int)))) Z (Ae (p:=0<(k:Int)) ?_ ?_))))))
     ·intro ac;refine Gg 9 22 (AB Z ac) Z (Mo (.int .u8 (Q8 s k)) Z (Gg 9 22 (AB Z ac) Z (Cq Z Z (Gg 6 19 (AA Z aa) Z (Ao (v:=.bool (decide (48<=(Q8 s k)))) (AB Z ac) Z (Gg 6 19 (AA Z aa) Z (Mo (.bool (decide (48<=(Q8 s k)))) Z (Ae (p:=48<=(Q8 s k)) ?_ ?_))))))))
      ·intro ad;exact Gg 13 26 (AB Z ad) Z (Mo (.int .u8 (Q8 s k)) Z (Gg 13 26 (AB Z ad) Z (DH Z Z (Gg 6 19 (AA Z aa) Z (Ao (v:=.bool (decide ((Q8 s k)<=57))) (AB Z ad) Z (Pk false (.bool (decide ((Q8 s k)<=57))) Z (AA Z aa) Z (Pl Z (A8 Z (Nl (⟨Z,Z,ah,ai,aj,ag,Et (b:=(.bool (decide (¬((Q8 s k)<=57))):Value)) Z (congrArg Value.bool (by grind:decide (¬((Q8 s k)<=57))=(Q4 s k)))⟩))))))))))
      ·intro ad;exact Gs 13 26 (AA Z ad) Z (Gs 13 26 (AA Z ad) Z (Gg 6 19 (AA Z aa) Z (Ao (v:=.bool false) (AA Z ad) Z (Pk false (.bool false) Z (AA Z aa) Z (Pl Z (CM Z (Nl (⟨Z,Z,ah,ai,aj,ag,Et (b:=(.bool true:Value)) Z (congrArg Value.bool (by (simp [al,ab,aa,ac,ad];omega):true=(Q4 s k)))⟩))))))))
     ·intro ac;exact Gs 9 22 (AA Z ac) Z (Gs 9 22 (AA Z ac) Z (Gg 6 19 (AA Z aa) Z (Ao (v:=.bool false) (AA Z ac) Z (Gg 6 19 (AA Z aa) Z (Mo (.bool false) Z (Gs 13 26 Z Z (Gs 13 26 Z Z (Gg 6 19 (AA Z aa) Z (Ao (v:=.bool false) Z Z (Pk false (.bool false) Z (AA Z aa) Z (Pl Z (CM Z (Nl (⟨Z,Z,ah,ai,aj,ag,Et (b:=(.bool true:Value)) Z (congrArg Value.bool (by grind:true=(Q4 s k)))⟩))))))))))))))
   ·intro ab;refine Gs 2 15 (AA Z ab) Z (Gs 2 15 (AA Z ab) Z (Pk false (.bool false) Z (AA Z ab) Z (Mz (.bool false) Z (Gg 6 19 Z Z (Mo (J k) Z (Gg 6 19 Z Z (Bq Z Z (Gg 6 19 Z Z (Mo (.bool (decide (0<(k:Int)))) Z (Ae (p:=0<(k:Int)) ?_ ?_))))))))))
    ·intro ae;refine Gg 9 22 (AB Z ae) Z (Mo (.int .u8 (Q8 s k)) Z (Gg 9 22 (AB Z ae) Z (Cq Z Z (Gg 6 19 Z Z (Ao (v:=.bool (decide (48<=(Q8 s k)))) (AB Z ae) Z (Gg 6 19 Z Z (Mo (.bool (decide (48<=(Q8 s k)))) Z (Ae (p:=48<=(Q8 s k)) ?_ ?_))))))))
     ·intro af;exact Gg 13 26 (AB Z af) Z (Mo (.int .u8 (Q8 s k)) Z (Gg 13 26 (AB Z af) Z (DH Z Z (Gg 6 19 Z Z (Ao (v:=.bool (decide ((Q8 s k)<=57))) (AB Z af) Z (Pz false (.bool (decide ((Q8 s k)<=57))) Z (Pl Z (A8 Z (Nl (⟨Z,Z,ah,ai,aj,ag,Et (b:=(.bool (decide (¬((Q8 s k)<=57))):Value)) Z (congrArg Value.bool (by grind:decide (¬((Q8 s k)<=57))=(Q4 s k)))⟩))))))))))
     ·intro af;exact Gs 13 26 (AA Z af) Z (Gs 13 26 (AA Z af) Z (Gg 6 19 Z Z (Ao (v:=.bool false) (AA Z af) Z (Pz false (.bool false) Z (Pl Z (CM Z (Nl (⟨Z,Z,ah,ai,aj,ag,Et (b:=(.bool true:Value)) Z (congrArg Value.bool (by grind:true=(Q4 s k)))⟩))))))))
    ·intro ae;exact Gs 9 22 (AA Z ae) Z (Gs 9 22 (AA Z ae) Z (Gg 6 19 Z Z (Ao (v:=.bool false) (AA Z ae) Z (Gg 6 19 Z Z (Mo (.bool false) Z (Gs 13 26 Z Z (Gs 13 26 Z Z (Gg 6 19 Z Z (Ao (v:=.bool false) Z Z (Pz false (.bool false) Z (Pl Z (CM Z (Nl (⟨Z,Z,ah,ai,aj,ag,Et (b:=(.bool true:Value)) Z (congrArg Value.bool (by grind:true=(Q4 s k)))⟩))))))))))))))
  ·rintro _ _ _ ⟨aw,an,ax,ay,az,a0,a1⟩;subst aw;subst an;refine AS a1 (λao=>?_) (λao=>?_)
   ·exact Sr (Az (.bool false) Z (Nl (Rt (have a2:=ak.trans ap;⟨Zr,Ot (.bool false) Z (⟨(by (symm;congr 1;exact Lp hs aA (by unfold G0 EU Ej;rw [if_pos aA]))),a2⟩)⟩))))
   ·have hc40_:=Dn ao;exact Sk (Rg (Ad _ _ Z a0 Z aA (Mz (J ((k:Int)+1)) Z (Nl (⟨_,aA,k+1,Z,aA,(by exact Db hs (by unfold G0 EU Ej;rw [if_neg aA])),Z,ap,ax,ay,az,Z⟩)))))
 ·refine Xt (Sr (Mv (.string s) Z ah (Pl Z (JV EI Z (Pl Z (Aw func95 Ea Z Z Z ((DA (s.size:Int) 1 10 ).mono λ_ _ a3=>?_)))))));obtain ⟨rfl,rfl⟩:=a3;exact Az (.bool (decide (1<=(s.size:Int)/\(s.size:Int)<=10))) Z (Nl (Rt (⟨Zr,Ot (.bool (decide (1<=(s.size:Int)/\(s.size:Int)<=10))) Z (⟨(by (symm;congr 1;exact Lq hs aA)),(ak.trans ap)⟩)⟩)))
theorem str_index(l:List ByteArray)(lv:Value)(x0:ByteArray)(hl:AH h lv 1 EM l):AV W 209 #[lv,.string x0] h (λv h'=>v=(J (idxOf (λx=>(x0).toList==x.toList) l):Value)/\h.Le h'):=by
 have ab:=hl.len;refine Ct func209 Z (Sr (Az (J 0) Z (Nl (S2 (Mz lv Z (Pl Z (AI DI hl Z (Mz (J 0) Z (Nl (Bk (Aa (λnn σ' ds' h'=>∃(k:Nat),nn=l.length-k/\(k<=l.length)/\((l.take k).any (λx=>x0.toList==x.toList)=false)/\ds'=[]/\GH.Le h h'/\σ' 0=lv/\σ' 1=.string x0/\σ' 7=J (l.length:Int)/\σ' 8=J k) ⟨0,Z,aA,aD,Z,Lr,Z,Z,Z,Z⟩ (λnn _ _ _ ak=>?_))))))))))));obtain ⟨k,rfl,hk,hs,x6,x7,x8,x9,aj,ac⟩:=ak;subst x6;refine Sr (Pl Z (Ac ac aj (Nl (Sq (AS Z (λad=>?_) (λad=>?_))))))
 ·refine Sk (Sq (Bk (Sr (Mv (J k) Z ac (Az (J k) Z (Nl (Sr (Mv (.string x0) Z x9 (Mv lv Z x8 (Mz (J k) Z ?_))))))))));have ae:(0:Int)<=(k:Int):=aA
  have af:(k:Int)<((l.length:Nat):Int):=aA
  refine Pl Z (AW Fx hl Z Z ae af λal aa ag=>have ah:AT _ al aa 1 (EM (l.getD k (⟨#[]⟩:ByteArray))):=AT.getD (⟨#[]⟩:ByteArray) ag;Lz (.string (l.getD k (⟨#[]⟩:ByteArray))) Z (Am GE (ah.le x7) Z) (Pl Z (O3 Z Z (Nl (Bu Z (λai=>?_) (λai=>?_))))))
  ·exact Sr (Mz (J k) Z (Az (J k) Z (Nl (Rt (⟨Zr,Ot (J k) Z (⟨(by (rw [GI (k:=k) (d:=(⟨#[]⟩:ByteArray)) aA hs aE];done)),x7⟩)⟩)))))
  ·exact Sk (Rg (Ad _ _ Z ac Z aA (Mz (J ((k:Int)+1)) Z (Nl (⟨_,aA,k+1,Z,aA,(by exact DY (d:=(⟨#[]⟩:ByteArray)) aA hs aE),Z,x7,x8,x9,aj,Z⟩)))))
 ·exact Xt (Sr (Az (J (-1)) Z (Nl (Rt (⟨Zr,Ot (J (-1)) Z (⟨(by (rw [E8 (k:=k) aA hs])),x7⟩)⟩)))))
theorem Uf(l:List ByteArray)(lv:Value)(x0:ByteArray)(hl:AH h lv 1 EM l):AV W 202 #[lv,.string x0] h (λv h'=>v=(.bool (l.any (λx=>(x0).toList==x.toList)):Value)/\h.Le h'):=by
 have aa:=hl.len;refine Ct func202 Z (Sr (Az (.bool false) Z (Nl (Sr (Mz lv Z (Mz (.string x0) Z (Pl Z (AR func209 YN Z Z ((str_index l lv x0 hl ).mono λ_ _ ac=>?_)))))))));obtain ⟨rfl,ab⟩:=ac;exact Pl Z (Cq Z Z (Az (.bool (decide (0<=(idxOf (λx=>x0.toList==x.toList) l)))) Z (Nl (Rt (⟨Zr,Ot (.bool (decide (0<=(idxOf (λx=>x0.toList==x.toList) l)))) Z (⟨(by rw [show decide (0<=idxOf (λx=>x0.toList==x.toList) l)=l.any (λx=>x0.toList==x.toList) from by rw [Bool.eq_iff_iff];simp [EV]]),ab⟩)⟩)))))
theorem int_index(l:List Int)(lv:Value)(x0:Int)(hl:AH h lv 1 eI l):AV W 161 #[lv,J x0] h (λv h'=>v=(J (idxOf (λx=>decide (x0=x)) l):Value)/\h.Le h'):=by
 have ab:=hl.len;refine Ct func161 Z (Sr (Az (J 0) Z (Nl (S2 (Mz lv Z (Pl Z (AI A1 hl Z (Mz (J 0) Z (Nl (Bk (Aa (λnn σ' ds' h'=>∃(k:Nat),nn=l.length-k/\(k<=l.length)/\((l.take k).any (λx=>decide (x0=x))=false)/\ds'=[]/\GH.Le h h'/\σ' 0=lv/\σ' 1=J x0/\σ' 7=J (l.length:Int)/\σ' 8=J k) ⟨0,Z,aA,aD,Z,Lr,Z,Z,Z,Z⟩ (λnn _ _ _ ak=>?_))))))))))));obtain ⟨k,rfl,hk,hs,x6,x7,x8,x9,aj,ac⟩:=ak;subst x6;refine Sr (Pl Z (Ac ac aj (Nl (Sq (AS Z (λad=>?_) (λad=>?_))))))
 ·refine Sk (Sq (Bk (Sr (Mv (J k) Z ac (Az (J k) Z (Nl (Sr (Mv (J x0) Z x9 (Mv lv Z x8 (Mz (J k) Z ?_))))))))));have ae:(0:Int)<=(k:Int):=aA
  have af:(k:Int)<((l.length:Nat):Int):=aA
  refine Pl Z (AW Ak hl Z Z ae af λal aa ag=>have ah:AT _ al aa 1 (eI (l.getD k 0)):=AT.getD 0 ag;Lz (Qp l k) Z (Am AP (ah.le x7) Z) (Pl Z (B6 Z Z (Nl (AS Z (λai=>?_) (λai=>?_))))))
  ·exact Sr (Mz (J k) Z (Az (J k) Z (Nl (Rt (⟨Zr,Ot (J k) Z (⟨(by (rw [GI (k:=k) (d:=0) aA hs aE];done)),x7⟩)⟩)))))
  ·exact Sk (Rg (Ad _ _ Z ac Z aA (Mz (J ((k:Int)+1)) Z (Nl (⟨_,aA,k+1,Z,aA,(by exact DY (d:=0) aA hs aE),Z,x7,x8,x9,aj,Z⟩)))))
 ·exact Xt (Sr (Az (J (-1)) Z (Nl (Rt (⟨Zr,Ot (J (-1)) Z (⟨(by (rw [E8 (k:=k) aA hs])),x7⟩)⟩)))))
theorem J5(l:List Int)(lv:Value)(x0:Int)(hl:AH h lv 1 eI l):AV W 123 #[lv,J x0] h (λv h'=>v=(.bool (l.any (λx=>decide (x0=x))):Value)/\h.Le h'):=by
 have aa:=hl.len;refine Ct func123 Z (Sr (Az (.bool false) Z (Nl (Sr (Mz lv Z (Mz (J x0) Z (Pl Z (AR func161 X6 Z Z ((int_index l lv x0 hl ).mono λ_ _ ac=>?_)))))))));obtain ⟨rfl,ab⟩:=ac;exact Pl Z (Cq Z Z (Az (.bool (decide (0<=(idxOf (λx=>decide (x0=x)) l)))) Z (Nl (Rt (⟨Zr,Ot (.bool (decide (0<=(idxOf (λx=>decide (x0=x)) l)))) Z (⟨(by rw [show decide (0<=idxOf (λx=>decide (x0=x)) l)=l.any (λx=>decide (x0=x)) from by rw [Bool.eq_iff_iff];simp [EV]]),ab⟩)⟩)))))
theorem RW(xs:List AJ)(xsv:Value)(fv:Value)(p:AJ->Bool)(hxs:AH h xsv 4 Dc xs)(hf:∀x ∈ xs,∀h1,h.Le h1->Bn W fv #[.agg #[J x.a,J x.b,J x.low,J x.high]] h1 λv h2=>v=.bool (p x)/\h1.Le h2):AV W 210 #[xsv,fv] h (λv h'=>v=(J (idxOf p xs):Value)/\h.Le h'):=by
 have ac:=hxs.len;refine Ct func210 Z (Sr (Az (J 0) Z (Nl (S2 (Mz xsv Z (Pl Z (AI Dq hxs Z (Mz (J 0) Z (Nl (Bk (Aa (λnn σ' ds' h'=>∃(k:Nat),nn=xs.length-k/\(k<=xs.length)/\((xs.take k).any p=false)/\ds'=[]/\GH.Le h h'/\σ' 0=xsv/\σ' 1=fv/\σ' 7=J (xs.length:Int)/\σ' 8=J k) ⟨0,Z,aA,aD,Z,Lr,Z,Z,Z,Z⟩ (λnn _ _ _ am=>?_))))))))))));obtain ⟨k,rfl,hk,hs,x6,x7,x8,x9,al,ad⟩:=am;subst x6;refine Sr (Pl Z (Ac ad al (Nl (Sq (AS Z (λae=>?_) (λae=>?_))))))
 ·refine Sk (Sq (Bk (Sr (Mv (J k) Z ad (Az (J k) Z (Nl (Sr (Mv fv Z x9 (Mv xsv Z x8 (Mz (J k) Z ?_))))))))));have af:(0:Int)<=(k:Int):=aA
  have ag:(k:Int)<((xs.length:Nat):Int):=aA
  refine Pl Z (AW Es hxs Z Z af ag λan ab ah=>have ai:AT _ an ab 4 (Q16 xs k):=AT.getD AJ.z ah;Lz _ Z (AE Eb (ai.le x7)) (Pl Z (Jb Z (vs:=#[.agg (Q3 xs k)]) (by simp only [List.map_toArray,List.map_cons,List.map_nil,AQ] <;> rfl) ((hf (xs.getD k AJ.z) (Ba aA) _ x7).mono λ_ _ aj=>?_))));obtain ⟨rfl,aa⟩:=aj;refine Nl (Bu Z (λak=>?_) (λak=>?_))
  ·exact Sr (Mz (J k) Z (Az (J k) Z (Nl (Rt (⟨Zr,Ot (J k) Z (⟨(by (rw [GI (k:=k) aA hs ‹_›];done)),(x7.trans aa)⟩)⟩)))))
  ·exact Sk (Rg (Ad _ _ Z ad Z aA (Mz (J ((k:Int)+1)) Z (Nl (⟨_,aA,k+1,Z,aA,(by exact DY (d:=AJ.z) aA hs ‹_›),Z,(x7.trans aa),x8,x9,al,Z⟩)))))
 ·exact Xt (Sr (Az (J (-1)) Z (Nl (Rt (⟨Zr,Ot (J (-1)) Z (⟨(by (rw [E8 (k:=k) aA hs])),x7⟩)⟩)))))
theorem M3(xs:List AJ)(xsv:Value)(fv:Value)(p:AJ->Bool)(hxs:AH h xsv 4 Dc xs)(hf:∀x ∈ xs,∀h1,h.Le h1->Bn W fv #[.agg #[J x.a,J x.b,J x.low,J x.high]] h1 λv h2=>v=.bool (p x)/\h1.Le h2):AV W 203 #[xsv,fv] h (λv h'=>v=(.bool (xs.any p):Value)/\h.Le h'):=by
 have aa:=hxs.len;refine Ct func203 Z (Sr (Az (.bool false) Z (Nl (Sr (Mz xsv Z (Mz fv Z (Pl Z (AR func210 YO Z Z ((RW xs xsv fv p hxs (λx hx h1 l1=>hf x hx h1 (GH.Le.trans Lr l1))).mono λ_ _ ac=>?_)))))))));obtain ⟨rfl,ab⟩:=ac;exact Pl Z (Cq Z Z (Az (.bool (decide (0<=(idxOf p xs)))) Z (Nl (Rt (⟨Zr,Ot (.bool (decide (0<=(idxOf p xs)))) Z (⟨(by rw [show decide (0<=idxOf p xs)=xs.any p from by rw [Bool.eq_iff_iff];simp [EV]]),ab⟩)⟩)))))
theorem WI(hQ:FR h ps psv ws wsv js jsv ns nsv)(hnm:∀k,(ps.getD k (⟨#[]⟩:ByteArray)).size<=1000):AV W 197 #[.agg #[J bag,J kinds,psv,wsv,jsv,nsv]] h (λv h'=>v=(J (BM ps):Value)/\h.Le h'):=by
 have am:=hQ.1.len;have an:=hQ.2.len;have ao:=hQ.3.len;have ap:=hQ.5.len;refine Ct func197 Z (Sr (Pl Z (Bo #[J bag,J kinds,psv,wsv,jsv,nsv] Z Z λr5 h6 _ ab aq _=>Az (J 0) Z (Nl (S2 (Fz Au Z (Fz Bz Z (Lz psv Z (Rd.one DU aq Z) (have af:=hQ.1.le ab;Pl Z (AI DI af Z (Pl Z (Aw func95 Ea Z Z Z ((DA (ps.length:Int) 1 4 ).mono λ_ _ ar=>?_)))))))))))));obtain ⟨rfl,rfl⟩:=ar;refine Pl Z (A8 Z (Nl (AS Z (λag=>?_) (λag=>?_))))
 ·exact Sr (Az (J 2) Z (Nl (Rt (⟨Zr,Ot (J 2) Z (⟨(by (symm;congr 1;rw [BM,if_pos ‹_›];done)),ab⟩)⟩))))
 ·have hc17_:=Dn ag;refine Sk (S2 (Fz Au Z (Fz Bz Z (Lz psv Z (Rd.one DU aq Z) (Pl Z (AI DI af Z (Mz (J 0) Z (Nl (Bk (Aa (λnn σ' ds' h'=>∃(k:Nat),nn=ps.length-k/\(k<=ps.length)/\(∀j,j<k->FZ ps j=0)/\ds'=[]/\GH.Le h6 h'/\σ' 1=Pt r5/\σ' 13=psv/\σ' 14=J (ps.length:Int)/\σ' 15=J k) ⟨0,Z,aA,aI,Z,Lr,Z,Z,Z,Z⟩ (λnn _ _ _ au=>?_)))))))))));obtain ⟨k,rfl,hk,hs,a8,ak,a5,a6,a7,al⟩:=au;subst a8;have hnk:=hnm k;refine Sr (Pl Z (Ac al a7 (Nl (Sq (AS Z (λav=>?_) (λav=>?_))))))
  ·refine Sk (Sq (Bk (Sr (Mv (J k) Z al ?_))));have aw:(0:Int)<=(k:Int):=aA
   have ax:(k:Int)<((ps.length:Nat):Int):=aA
   refine Pl Z (AW Fx hQ.1 a6 al aw ax λa9 ah ay=>have az:AT _ a9 ah 1 (EM (ps.getD k (⟨#[]⟩:ByteArray))):=AT.getD (⟨#[]⟩:ByteArray) ay;have ad:=ab.trans ak;Lz (.string (ps.getD k (⟨#[]⟩:ByteArray))) Z (Am GE (az.le ad) Z) (Az (J k) Z (Az (.string (ps.getD k (⟨#[]⟩:ByteArray))) Z (Nl (Bk (Sr (Mz (.string (ps.getD k (⟨#[]⟩:ByteArray))) Z (Pl Z (Ab func201 YG Z ((Ue (ps.getD k (⟨#[]⟩:ByteArray)) aA).mono λ_ ba a0=>?_))))))))));obtain ⟨rfl,aa⟩:=a0;refine Pl Z (CM Z (Az (.bool (!(Dm (ps.getD k (⟨#[]⟩:ByteArray))))) Z (Nl (Bu Z (λae=>?_) (λae=>?_)))))
   ·have hc41_:(Dm (ps.getD k (⟨#[]⟩:ByteArray)))=false:=by simpa using ae
    exact Sr (Az (J 4) Z (Nl (Rt (⟨Zr,Ot (J 4) Z (⟨(by (symm;congr 1;rw [BM,if_neg ‹_›];exact BL (k:=k) hs aA (by unfold FZ;(simp only [*,not_true_eq_false,not_false_eq_true,if_true,if_false,true_or,or_true,reduceCtorEq,Bool.false_eq_true];done)) aC)),(ad.trans aa)⟩)⟩))))
   ·have hc41_:(Dm (ps.getD k (⟨#[]⟩:ByteArray)))=true:=by simpa using ae
    refine Sr (Fa Au Z a5 (Fz Bz Z (Lz psv Z (Rd.one DU (aa.keep (ak.keep aq Z) Z) Z) (Mz (J k) Z (have ai:=ad.trans aa;Pl Z (PP (0) k Fx (hQ.1.le ai) Z Z (⟨_,Z⟩) aA aA λaj a1=>?_))))));have a2:AH ba aj 1 EM (ps.take k):=by simpa using a1
    refine Mz (.string (ps.getD k (⟨#[]⟩:ByteArray))) Z (Pl Z (AR func202 YH Z Z ((Uf (ps.take k) aj (ps.getD k (⟨#[]⟩:ByteArray)) a2 ).mono λ_ _ a3=>?_)));obtain ⟨rfl,ac⟩:=a3;refine Az (.bool ((ps.take k).any (λx=>((ps.getD k (⟨#[]⟩:ByteArray))).toList==x.toList))) Z (Nl (Bu Z (λa4=>?_) (λa4=>?_)))
    ·exact Sr (Az (J 5) Z (Nl (Rt (⟨Zr,Ot (J 5) Z (⟨(by (symm;congr 1;rw [BM,if_neg ‹_›];exact BL (k:=k) hs aA (by unfold FZ;(simp only [*,not_true_eq_false,not_false_eq_true,if_true,if_false,true_or,or_true,reduceCtorEq,Bool.false_eq_true];done)) aC)),(ai.trans ac)⟩)⟩))))
    ·exact Sk (Rg (Ad _ _ Z al Z aA (Mz (J ((k:Int)+1)) Z (Nl (⟨_,aA,k+1,Z,aA,(by exact Db hs (by unfold FZ;(simp only [*,not_true_eq_false,not_false_eq_true,if_true,if_false,or_self,reduceCtorEq,Bool.false_eq_true];done))),Z,((ak.trans aa).trans ac),a5,a6,a7,Z⟩)))))
  ·exact Xt (Sr (Az (J 0) Z (Nl (Rt (⟨Zr,Ot (J 0) Z (⟨(by (symm;congr 1;rw [BM,if_neg ‹_›];exact BS (k:=k) hs aA)),(ab.trans ak)⟩)⟩)))))
theorem Yl(y:AJ)(x:AJ)(rx:Nat)(hrx:AT h rx 0 4 #[J x.a,J x.b,J x.low,J x.high]):AV W 204 #[.agg #[J y.a,J y.b,J y.low,J y.high],Pt rx] h (λv h'=>v=(.bool (decide (y.a=x.a/\y.b=x.b)):Value)/\h.Le h'):=by
 refine Ct func204 Z (Sr (Pl Z (Bo #[J y.a,J y.b,J y.low,J y.high] Z Z λ_ h2 _ ab af _=>Az (.bool false) Z (Nl (BC (λσ' ds' h'=>ds'=[]/\h2=h'/\σ' 3=.bool (decide ((y.a=x.a)/\(y.b=x.b)))) ?_ ?_)))))
 ·refine Rg (Fz B9 Z (Lz (J y.a) Z (Rd.one AP af Z) (Fz B9 Z (have ag:=hrx.le ab;Lz (J x.a) Z (CH (o:=0) AP ag Z) (Pl Z (B6 Z Z (Mz (.bool (decide (y.a=x.a))) Z (Ae (p:=y.a=x.a) ?_ ?_))))))))
  ·intro aa;exact Gg 5 9 (AB Z aa) Z (AC CJ Z (Gg 5 9 (AB Z aa) Z (Lo (J y.b) Z (Rd.one AP af Z) (Gg 5 9 (AB Z aa) Z (AC CJ Z (Gg 5 9 (AB Z aa) Z (Lo (J x.b) Z (CH (o:=1) AP ag Z) (Gg 5 9 (AB Z aa) Z (B6 Z Z (Pk true (.bool (decide (y.b=x.b))) Z (AB Z aa) Z (Az (.bool (decide (y.b=x.b))) Z (Nl (⟨Z,Z,Et (b:=(.bool (decide (y.b=x.b)):Value)) Z (congrArg Value.bool (by (simp [aa];done):decide (y.b=x.b)=(decide ((y.a=x.a)/\(y.b=x.b)))))⟩)))))))))))))
  ·intro aa;exact Gs 5 9 (AA Z aa) Z (Gs 5 9 (AA Z aa) Z (Gs 5 9 (AA Z aa) Z (Gs 5 9 (AA Z aa) Z (Gs 5 9 (AA Z aa) Z (Pk false (.bool false) Z (AA Z aa) Z (Az (.bool false) Z (Nl (⟨Z,Z,Et (b:=(.bool false:Value)) Z (congrArg Value.bool (by (simp [aa];done):false=(decide ((y.a=x.a)/\(y.b=x.b)))))⟩))))))))
 ·rintro _ _ _ ⟨ad,ac,ae⟩;subst ad;subst ac;exact Rt (⟨Zr,Ij Z (v:=.bool (decide ((y.a=x.a)/\(y.b=x.b)))) ae (⟨(by rfl),ab⟩)⟩)
end Go.Ns
