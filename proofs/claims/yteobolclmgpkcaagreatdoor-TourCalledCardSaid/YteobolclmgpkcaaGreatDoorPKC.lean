/- Rules and walks, part 3 of 6. No conditions. -/
import Derived.Carry
import Derived.Conc.LeavingOf
import Derived.LaidMore
import Derived.OpenShut
import Derived.ProofKit
import Derived.Test.YteobolclmgpkcaaGreatDoorPKB
import Derived.Test.YteobolclmgpkcaaGreatDoorProg
set_option linter.unusedVariables false
set_option linter.unusedSimpArgs false
set_option linter.unnecessarySimpa false
set_option linter.unusedSectionVars false
namespace Go.Ns
open Go.Conc
section
variable {P:Program} {E:GW P} {O:Nat->Value} {ds:List Deferred} {h:GH} {T:(Nat->Value)->List Deferred->GH->Prop}
variable {dst:Option Nat} {ty:TypeId} {pos:String} {af:Array Edge} {gd:Option (Nat×Bool)}
def L4(P:Program)(e:TypeId):Option Nat:=(P.info? e).map (·.bytes)
theorem T3(z:Value)(n:Nat):(Array.range n).map (λi=>(#[z]:Array Value)[i%(#[z]:Array Value).size]!)=Array.replicate n z:=by
 apply Array.ext
 ·simp
 ·intro i h1 h2;simp [Nat.mod_one]
theorem L5{t:TypeId}{l c:Operand}{N by_:Nat}{z:Value}{e:TypeId}(hs:DN P t=some (1,#[z],e))(hby:L4 P e=some by_)(hl:AN O l=.int .i64 N)(hc:AN O c=.int .i64 N)(hb:by_*N<=281474976710656)(hN2:N<=16777216)
  (k:∀r h',h r=none->h.Le h'->h' r=some (true,.cells (Array.replicate N z) e (0,0))->(∀b,b≠r->h' b=h b)->T (putS O dst (.slice (some ⟨r,0,none⟩) N N)) ds h'):BR E ⟨dst,.makeSlice t l c,ty,pos,af,gd⟩ O ds h T:=by
 unfold BR execOp;refine F2 ?_;unfold DN at hs;unfold Instr.makeSlice;rw [hl,hc];cases hu:P.underlying t with
 | none=>rw [hu] at hs;cases hs
 | some d=>
  rw [hu] at hs;cases d <;> first | (cases hs;done) | skip
  rename_i e'
  simp only at hs;cases ht:CY P e' with
  | none=>rw [ht] at hs;cases hs
  | some x=>
   cases hz:Bt P e' with
   | none=>rw [ht,hz] at hs;cases hs
   | some z'=>
    rw [ht,hz] at hs;simp only [Option.some.injEq,Prod.mk.injEq] at hs;obtain ⟨hx2,rfl,rfl⟩:=hs;refine AE _ _ (Ai hu ?_);refine AE _ _ (Ap ?_);refine AE _ _ (Ap ?_);unfold L4 at hby;unfold Bt at hz;cases hi:P.info? e' with
    | none=>rw [hi] at hz;cases hz
    | some i=>
    rw [hi] at hz hby;simp only [Option.map_some,Option.some.injEq] at hby;simp only [Option.map_eq_some_iff] at hz;obtain ⟨v,hv,hvz⟩:=hz;refine AE _ _ (Cd hi ?_);have hw:IntKind.i64.wrap (N:Int)=N:=IntWalk.i64_in _ aA;simp only [hw,hby];have hb':((by_:Int)*(N:Int))<=281474976710656:=by rw [<-Int.natCast_mul];exact Int.ofNat_le.2 hb
    rw [if_neg (by simp;omega)];simp only [Int.toNat_natCast];have hask:∀(m:Nat)(Q:Unit->GH->Prop),Q () h->(askRoom m).gh P h Q:=λm Q q=>by
     unfold askRoom;split
     ·exact ⟨rfl,q⟩
     ·exact q
    refine AE _ _ (hask _ _ ?_);refine AE _ _ (Gc (by rw [ht];rfl) ?_);dsimp only;rw [hx2,Nat.mul_one];by_cases hN:N=0
    ·subst hN;rw [if_pos rfl];refine AE _ _ (Ap ?_);rw [show (Array.range 0).map (λi=>(#[]:Array Value)[i%(#[]:Array Value).size]!)=Array.replicate 0 z from aD];refine AE _ _ ?_;unfold newRow;refine AE _ _ (λr hr=>?_);exact k r _ hr (GH.Le.new hr _ _) (GH.set_same _ _ _ _) λb hb=>GH.set_ne _ _ _ hb
    rw [if_neg hN];unfold zeroValue;refine AE _ _ (AE _ _ (AE _ _ (Cd hi ?_)));rw [hv];refine Ap ?_;refine AE _ _ (Ap ?_);rw [hvz,T3];refine AE _ _ ?_;unfold newRow;refine AE _ _ (λr hr=>?_);exact k r _ hr (GH.Le.new hr _ _) (GH.set_same _ _ _ _) λb hb=>GH.set_ne _ _ _ hb
theorem J0{V:Type}{enc:V->Array Value}{x:V}{z:Value}(he:enc x=#[z]):∀N:Nat,DT enc (List.replicate N x)=List.replicate N z
 | 0=>rfl
 | N+1=>by
  have:=J0 he N
  unfold DT at this ⊢;rw [List.replicate_succ,List.flatMap_cons,this,he];rfl
theorem AO.made{V:Type}{h h':GH}{r N:Nat}{t:TypeId}{enc:V->Array Value}{x:V}{z:Value}(hr:h r=none)(hb:h' r=some (true,.cells (Array.replicate N z) t (0,0)))(hN:N<=16777216)(he:enc x=#[z]) :
  AO h h' (.slice (some ⟨r,0,none⟩) N N) t 1 enc (List.replicate N x):=
 .inr ⟨r,N,_,by rw [List.length_replicate],hr,hb,aD,aD,by rw [List.length_replicate];omega,by rw [J0 he,List.length_replicate,Nat.mul_one];simp,λy hy=>by rw [(List.mem_replicate.1 hy).2,he];rfl⟩
end
def FB(nj:Nat)(k:Int):Int:=if¬(0<=k/\k<=(nj:Int)-1) then 6 else 0
def HY(nj:Nat)(l:List Int)(k:Nat):Int:=if¬FB nj (l.getD k 0)=0 then FB nj (l.getD k 0) else if (l.take k).any (λx=>decide (l.getD k 0=x))=true then 5 else 0
def Ag(nj:Nat)(l:List Int):Int:=Cn (HY nj l) 0 l.length
def GI(bag kinds:Int)(ps:List ByteArray)(ws:List AC)(js:List AI)(ns:List AJ)(l:List Int):Int:=
 if¬A0 bag kinds ps ws js ns=0 then A0 bag kinds ps ws js ns else Ag js.length l
theorem N4{nj:Nat}{k:Int}(h:FB nj k=0):0<=k/\k<nj:=by
 unfold FB at h;split at h
 ·cases h
 ·omega
theorem FC{nj:Nat}{l:List Int}(h:Ag nj l=0)(k:Nat)(hk:k<l.length):0<=l.getD k 0/\l.getD k 0<nj:=by
 have h1:=C4 h k (Nat.zero_le _) aA;unfold HY at h1;split at h1
 ·rename_i a;exact absurd h1 a
 ·rename_i a;exact N4 (Decidable.not_not.1 a)
def GV(out ps:List Int):Nat->List Int
 | 0=>out
 | i+1=>(GV out ps i).set i ((GV out ps i).getD i 0+ps.getD i 0)
def Bp(kinds:Int)(js:List AI)(l:List Int):Nat->List Int
 | 0=>List.replicate kinds.toNat 0
 | q+1=>GV (Bp kinds js l q) (js.getD (l.getD q 0).toNat AI.z).parts (js.getD (l.getD q 0).toNat AI.z).parts.length
def CP(kinds:Int)(js:List AI)(l:List Int):List Int:=Bp kinds js l l.length
theorem L6(out ps:List Int):∀i,(GV out ps i).length=out.length
 | 0=>rfl
 | i+1=>by rw [GV,List.length_set,L6 out ps i]
theorem L7(out ps:List Int)(hl:ps.length=out.length):∀i,i<=ps.length->∀j,(GV out ps i).getD j 0=if j<i then out.getD j 0+ps.getD j 0 else out.getD j 0
 | 0,_,j=>by rw [if_neg aA];rfl
 | i+1,h,j=>by
  have e:=L7 out ps hl i aA;have hn:=L6 out ps i;unfold GV;rw [List.getD_eq_getElem?_getD,List.getElem?_set];by_cases hij:i=j
  ·subst hij;rw [if_pos rfl,if_pos aA,if_pos aA,Option.getD_some,e i,if_neg aA]
  ·rw [if_neg hij,<-List.getD_eq_getElem?_getD,e j];by_cases h1:j<i
   ·rw [if_pos h1,if_pos aA]
   ·rw [if_neg h1,if_neg aA]
section
variable {bag kinds:Int} {ps:List ByteArray} {ws:List AC} {js:List AI} {ns:List AJ} {l:List Int}
theorem LD(b:A8 bag kinds ps ws js ns){k:Int}(h:0<=k/\k<js.length):JobOK ps.length kinds (js.getD k.toNat AI.z):=L0 (b.job k.toNat aA)
theorem H0(b:A8 bag kinds ps ws js ns):∀q,(Bp kinds js l q).length=kinds.toNat
 | 0=>List.length_replicate
 | q+1=>by rw [Bp,L6,H0 b q]
theorem LE(b:A8 bag kinds ps ws js ns)(hr:∀k,k<l.length->0<=l.getD k 0/\l.getD k 0<js.length):∀q,q<=l.length->∀j,0<=(Bp kinds js l q).getD j 0/\(Bp kinds js l q).getD j 0<=5*(q:Int)
 | 0,_,j=>by
  unfold Bp;rw [List.getD_eq_getElem?_getD,List.getElem?_replicate];split <;> simp
 | q+1,h,j=>by
  have e:=LE b hr q aA j;have x:=LD b (hr q aA);have x2:=x.part j;have x3:=x.len;unfold Bp;rw [L7 _ _ (by rw [H0 b q];omega) _ (Nat.le_refl _)];split <;> omega
theorem addP_rng(b:A8 bag kinds ps ws js ns)(hr:∀k,k<l.length->0<=l.getD k 0/\l.getD k 0<js.length){q:Nat}(hq:q<l.length){i:Nat}(hi:i<(js.getD (l.getD q 0).toNat AI.z).parts.length) :
  (GV (Bp kinds js l q) (js.getD (l.getD q 0).toNat AI.z).parts i).length=(js.getD (l.getD q 0).toNat AI.z).parts.length/\0<=(GV (Bp kinds js l q) (js.getD (l.getD q 0).toNat AI.z).parts i).getD i 0/\(GV (Bp kinds js l q) (js.getD (l.getD q 0).toNat AI.z).parts i).getD i 0<=5*(q:Int)/\
  0<=(js.getD (l.getD q 0).toNat AI.z).parts.getD i 0/\(js.getD (l.getD q 0).toNat AI.z).parts.getD i 0<=5:=by
 have x:=LD b (hr q hq);have e:=LE b hr q aA i;have x3:=x.len;have hl:=H0 (l:=l) b q;refine ⟨by rw [L6,hl];omega,?_⟩;rw [L7 _ _ (by rw [hl];omega) i aA,if_neg aA];exact ⟨e.1,e.2,x.part i⟩
theorem LF(b:A8 bag kinds ps ws js ns):(CP kinds js l).length=kinds.toNat:=H0 b _
theorem Wx(b:A8 bag kinds ps ws js ns)(hr:∀k,k<l.length->0<=l.getD k 0/\l.getD k 0<js.length)(j:Nat):0<=(CP kinds js l).getD j 0/\(CP kinds js l).getD j 0<=5*(l.length:Int):=LE b hr _ (Nat.le_refl _) j
theorem sum_take(xs:List Int){k:Nat}(h:k<xs.length):(xs.take (k+1)).sum=(xs.take k).sum+xs.getD k 0:=by
 rw [List.take_add_one,List.sum_append,List.getD_eq_getElem?_getD,List.getElem?_eq_getElem h];simp
theorem sum_all(xs:List Int){k:Nat}(h:xs.length<=k):(xs.take k).sum=xs.sum:=by rw [List.take_of_length_le h]
theorem VC(h:GI bag kinds ps ws js ns l=0):A8 bag kinds ps ws js ns/\∀k,k<l.length->0<=l.getD k 0/\l.getD k 0<js.length:=by
 unfold GI at h;split at h
 ·rename_i a;exact absurd h a
 ·rename_i a;exact ⟨Bm (Decidable.not_not.1 a),FC h⟩
def SQ(bag kinds:Int)(ps:List ByteArray)(ws:List AC)(js:List AI)(ns:List AJ)(l:List Int):List Int:=if¬GI bag kinds ps ws js ns l=0 then [] else CP kinds js l
def Y3(bag kinds:Int)(ps:List ByteArray)(ws:List AC)(js:List AI)(ns:List AJ)(l:List Int):Bool:=if¬GI bag kinds ps ws js ns l=0 then false else decide ((CP kinds js l).sum<=bag)
end
end Go.Ns
namespace Go.Ns
open Go.Conc
section
variable {P:Program} {E:GW P} {O:Nat->Value} {ds:List Deferred} {h:GH} {T:(Nat->Value)->List Deferred->GH->Prop}
variable {dst:Option Nat} {ty:TypeId} {pos:String} {af:Array Edge} {gd:Option (Nat×Bool)}
theorem LG{t kt vt:TypeId}{x ix:Operand}{r np:Nat}{ws:List AC}{pq:List AB}{q:AB}{a b:Int}{z:Value}(ht:Lj P t=some (kt,vt))(hx:AN O x=.map (some r))(hk:AN O ix=Eu (q.w5,a,b))(hm:D8 h r np ws pq)
  (hc:∀a:FA,ckP P 4 kt (Eu a)=true)
  (he:∀a b:FA,O3 P 4 kt (Eu a) (Eu b)=some ((a.1.1==b.1.1 && (a.1.2.1==b.1.2.1 && (a.1.2.2.1==b.1.2.2.1 && (a.1.2.2.2.1==b.1.2.2.2.1 && (a.1.2.2.2.2==b.1.2.2.2.2 && true))))) && (a.2.1==b.2.1 && (a.2.2==b.2.2 && true))))
  (hz:(P.info? vt).bind (·.zero)=some z) (hq:q ∈ pq) (ha:0<=a/\a<np) (hb:0<=b/\b<np)
  (k:T (putS O dst (.int .i64 (Al np ws q a.toNat b.toNat))) ds h):BR E ⟨dst,.lookup t x ix false,ty,pos,af,gd⟩ O ds h T:=by
 obtain ⟨pm,M,hM,hF⟩:=hm;have e:=hF q hq a.toNat b.toNat aA aA;rw [Int.toNat_of_nonneg ha.1,Int.toNat_of_nonneg hb.1] at e;refine SD (d:=3) (a:=(q.w5,a,b)) ht hx hk hM rfl (hc _) (λb=>by rw [he,FA.eq_iff]) hz ?_;rw [e];exact k
theorem SR{V:Type}{t:TypeId}{x:Operand}{olo ohi:Option Operand}{n:Nat}{enc:V->Array Value}{xs:List V}{v:Value}{hk:GH}(lo hi:Nat)(ht:El P t=some n)(hs:AK hk v n enc xs)(hx:AN O x=v)
  (hlo:match olo with | none=>lo=0 | some o=>∃kd,AN O o=.int kd lo) (hhi:match ohi with | none=>hi=xs.length | some o=>∃kd,AN O o=.int kd hi) (h1:lo<=hi) (h2:hi<=xs.length)
  (k:∀v',AK hk v' n enc ((xs.take hi).drop lo)->T (putS O dst v') ds h):BR E ⟨dst,.slice t x olo ohi none,ty,pos,af,gd⟩ O ds h T:=by
 have hs':=hs;obtain ⟨a,cap,rfl,hc,_,_⟩:=hs';exact KR lo hi ht hc hx hlo hhi h1 h2 (k _ (hs.part h1 h2))
end
def VD(F:AB->Int)(l:List AB):Nat->Int
 | 0=>F (l.getD 0 AB.zero)
 | k+1=>min (VD F l k) (F ((l.drop 1).getD k AB.zero))
def VE(F:AB->Int)(l:List AB):Nat->Int
 | 0=>F (l.getD 0 AB.zero)
 | k+1=>max (VE F l k) (F ((l.drop 1).getD k AB.zero))
def B4(F:AB->Int)(l:List AB):Int:=VD F l (l.length-1)
def BG(F:AB->Int)(l:List AB):Int:=VE F l (l.length-1)
theorem Mx{l:List AB}{k:Nat}(h:k<l.length-1):(l.drop 1).getD k AB.zero ∈ l:=List.mem_of_mem_drop (BX (by rw [List.length_drop];exact h))
def Ds(s v:Int):Int:=if s=0 then v else 0
theorem L8(v:Int):Ds 0 v=v:=if_pos rfl
theorem Jg{s v:Int}(h:¬s=0):Ds s v=0:=if_neg h
end Go.Ns
namespace Go.Ns
open Go.Conc
theorem T4:∀(n m:Nat)(f:Nat->Nat),(∀i,i<m->f i<n)->(∀i j,i<j->j<m->f i≠f j)->m<=n
 | 0,m,f,h,_=>by
  rcases Nat.eq_zero_or_pos m with e | e
  ·omega
  ·exact absurd (h 0 e) (Nat.not_lt_zero _)
 | n+1,m,f,h,d=>by
  rcases Nat.eq_zero_or_pos m with e | e
  ·omega
  ·have x:=T4 n (m-1) (λi=>if f i=n then f (m-1) else f i) (λi hi=>by
    have h1:=h i aA;have h2:=h (m-1) aA;have h3:=d i (m-1) hi aA;show (if f i=n then f (m-1) else f i)<n;split <;> omega) (λi j hij hj=>by
    have h1:=d i j hij aA;have h2:=d i (m-1) aA aA;have h3:=d j (m-1) aA aA;show (if f i=n then f (m-1) else f i)≠(if f j=n then f (m-1) else f j);split <;> split <;> omega)
   omega
theorem Hk{nj:Nat}{l:List Int}(h:Ag nj l=0):l.length<=nj:=by
 refine T4 nj l.length (λk=>(l.getD k 0).toNat) (λi hi=>?_) λi j hij hj=>?_
 ·have:=FC h i hi
  show (l.getD i 0).toNat<nj;omega
 ·have hi:=FC h i aA;have hj':=FC h j hj;have h1:=C4 h j (Nat.zero_le _) aA;unfold HY at h1;split at h1
  ·rename_i a;exact absurd h1 a
  ·split at h1
   ·cases h1
   ·rename_i a b
    show (l.getD i 0).toNat≠(l.getD j 0).toNat;intro e;refine b (List.any_eq_true.2 ⟨l.getD i 0,?_,decide_eq_true aA⟩);rw [List.mem_iff_getElem];refine ⟨i,by rw [List.length_take];omega,?_⟩;rw [List.getElem_take,List.getD_eq_getElem?_getD,List.getElem?_eq_getElem aA];rfl
def Cj(js:List AI)(l:List Int):Nat->Int
 | 0=>0
 | q+1=>(js.getD (l.getD q 0).toNat AI.z).place
def A5(np:Nat)(ws:List AC)(js:List AI)(p:AB)(l:List Int):Nat->Int
 | 0=>0
 | q+1=>A5 np ws js p l q+(Al np ws p (Cj js l q).toNat (js.getD (l.getD q 0).toNat AI.z).place.toNat+p.works (l.getD q 0).toNat)
def Ev(np:Nat)(ws:List AC)(js:List AI)(p:AB)(l:List Int):Nat->List Int
 | 0=>[]
 | q+1=>Ev np ws js p l q++[A5 np ws js p l (q+1)]
def AR(np:Nat)(ws:List AC)(js:List AI)(p:AB)(l:List Int):Int:=A5 np ws js p l l.length+Al np ws p (Cj js l l.length).toNat 0
theorem JC(np:Nat)(ws:List AC)(js:List AI)(p:AB)(l:List Int):∀q,(Ev np ws js p l q).length=q
 | 0=>rfl
 | q+1=>by rw [Ev,List.length_append,JC np ws js p l q];rfl
theorem Ph(np:Nat)(ws:List AC)(js:List AI)(p:AB)(l:List Int):∀q i,i<q->(Ev np ws js p l q).getD i 0=A5 np ws js p l (i+1)
 | 0,i,h=>absurd h (Nat.not_lt_zero _)
 | q+1,i,h=>by
  have hl:=JC np ws js p l q;rw [Ev,List.getD_eq_getElem?_getD];by_cases e:i<q
  ·rw [List.getElem?_append_left aA,<-List.getD_eq_getElem?_getD];exact Ph np ws js p l q i e
  ·have e2:i=q:=aA
   subst e2;rw [List.getElem?_append_right aA,hl,Nat.sub_self];rfl
section
variable {bag kinds:Int} {ps:List ByteArray} {ws:List AC} {js:List AI} {ns:List AJ} {l:List Int} {p:AB}
theorem SS{np:Nat}(hp:Bs p):(Al np ws p).ok:=VA (LC hp)
theorem Pi(b:A8 bag kinds ps ws js ns)(hr:∀k,k<l.length->0<=l.getD k 0/\l.getD k 0<js.length):∀q,q<=l.length->0<=Cj js l q/\Cj js l q<ps.length
 | 0,_=>by have:=b.plen;show (0:Int)<=0/\(0:Int)<_;omega
 | q+1,h=>by have:=(LD b (hr q aA)).place;show 0<=(js.getD (l.getD q 0).toNat AI.z).place/\(js.getD (l.getD q 0).toNat AI.z).place<ps.length;omega
theorem ST(hp:Bs p):∀q,0<=A5 ps.length ws js p l q/\A5 ps.length ws js p l q<=1048606*(q:Int)
 | 0=>⟨Int.le_refl 0,Int.le_refl 0⟩
 | q+1=>by
  have e:=ST hp q;have f:=SS (np:=ps.length) (ws:=ws) hp (Cj js l q).toNat (js.getD (l.getD q 0).toNat AI.z).place.toNat;have w:=hp.works (l.getD q 0).toNat;unfold A5;omega
end
end Go.Ns
namespace Go.Ns
open Go.Conc
theorem D8.store{h h':GH}{q r np:Nat}{ws:List AC}{pq:List AB}(x:D8 h r np ws pq)(ho:∀b,b≠q->h' b=h b)(n:r≠q):D8 h' r np ws pq:=by
 obtain ⟨pm,M,⟨es,clk,hb,hl⟩,hM⟩:=x;exact ⟨pm,M,⟨es,clk,(ho r n).trans hb,hl⟩,hM⟩
def eSp(x:Int×Int):Array Value:=#[.int .i64 x.1,.int .i64 x.2]
section
variable (np:Nat) (ws:List AC) (js:List AI) (pq:List AB) (l:List Int)
def Kq(i:Nat):Int:=B4 (λx=>A5 np ws js x l (i+1)) pq
def Jh(i:Nat):Int:=BG (λx=>A5 np ws js x l (i+1)) pq
def EI:Nat->List (Int×Int)
 | 0=>[]
 | q+1=>EI q++[(Kq np ws js pq l q,Jh np ws js pq l q)]
theorem Pj:∀q,(EI np ws js pq l q).length=q
 | 0=>rfl
 | q+1=>by rw [EI,List.length_append,Pj q];rfl
def H1(i:Nat):Bool:=decide (Jh np ws js pq l i<=(js.getD (l.getD i 0).toNat AI.z).due)
def Ba(bag kinds:Int):Bool:=decide ((CP kinds js l).sum<=bag) && (List.range l.length).all (H1 np ws js pq l)
variable {np ws js pq l}
theorem Zn{q:Nat}(h:¬(js.getD (l.getD q 0).toNat AI.z).due<BG (λx=>A5 np ws js x l ((q:Int).toNat+1)) pq):H1 np ws js pq l q=true:=decide_eq_true (Int.not_lt.1 h)
theorem Zo{q:Nat}(h:(js.getD (l.getD q 0).toNat AI.z).due<BG (λx=>A5 np ws js x l ((q:Int).toNat+1)) pq):H1 np ws js pq l q=false:=decide_eq_false (Int.not_le.2 h)
variable {bag kinds:Int}
theorem Wy(h:¬(CP kinds js l).sum<=bag):Ba np ws js pq l bag kinds=false:=by unfold Ba;rw [decide_eq_false h];rfl
theorem Zp{k:Nat}(hk:k<l.length)(h:(js.getD (l.getD k 0).toNat AI.z).due<BG (λx=>A5 np ws js x l ((k:Int).toNat+1)) pq):Ba np ws js pq l bag kinds=false:=by
 unfold Ba;rw [Bool.and_eq_false_iff];refine .inr (Bool.eq_false_iff.2 λe=>?_)
 have:=List.all_eq_true.1 e k (List.mem_range.2 hk)
 rw [Zo h] at this;cases this
theorem safe_all{k:Nat}(h:¬¬(CP kinds js l).sum<=bag)(hs:∀j,j<k->H1 np ws js pq l j=true)(hk:l.length<=k):Ba np ws js pq l bag kinds=true:=by
 unfold Ba;rw [decide_eq_true (Decidable.not_not.1 h),Bool.true_and];exact List.all_eq_true.2 λj hj=>hs j (by have:=List.mem_range.1 hj;omega)
end
def CE:Nat->List Int
 | 0=>[]
 | k+1=>CE k++[(k:Int)]
theorem Cz:∀n,(CE n).length=n
 | 0=>rfl
 | n+1=>by rw [CE,List.length_append,Cz n];rfl
def CZ(nj:Nat)(l:List Int)(i:Int):Int:=if¬Ag nj l=0 then Ag nj l else if¬(0<=i/\i<=(l.length:Int)-1) then 1 else 0
theorem VF{nj:Nat}{l:List Int}{i:Int}(h:CZ nj l i=0):Ag nj l=0/\0<=i/\i<l.length:=by
 unfold CZ at h;split at h
 ·rename_i a;exact absurd h a
 ·rename_i a
  split at h
  ·cases h
  ·exact ⟨Decidable.not_not.1 a,aA⟩
section
variable (bag kinds:Int) (ps:List ByteArray) (ws:List AC) (js:List AI) (ns:List AJ) (l:List Int)
def Eg:List (Int×Int):=if¬AU bag kinds ps ws js ns (Ag js.length l)=0 then [] else EI ps.length ws js (AA ws js ns) l l.length
def DB:Bool:=if¬AU bag kinds ps ws js ns (Ag js.length l)=0 then false else Ba ps.length ws js (AA ws js ns) l bag kinds
def Kr(i:Int):Int:=
 if¬AU bag kinds ps ws js ns (CZ js.length l i)=0 then 0 else if (js.getD (l.getD i.toNat 0).toNat AI.z).due<Kq ps.length ws js (AA ws js ns) l i.toNat then 1
 else if Jh ps.length ws js (AA ws js ns) l i.toNat<=(js.getD (l.getD i.toNat 0).toNat AI.z).due then 2 else 0
variable {bag kinds ps ws js ns l} {i:Int}
theorem late_yes(h0:AU bag kinds ps ws js ns (CZ js.length l i)=0)(h:(js.getD (l.getD i.toNat 0).toNat AI.z).due<B4 (λx=>A5 ps.length ws js x l (i.toNat+1)) (AA ws js ns)):(1:Int)=Kr bag kinds ps ws js ns l i:=by
 unfold Kr;rw [if_neg (λx=>x h0)];exact (if_pos h).symm
theorem late_no(h0:AU bag kinds ps ws js ns (CZ js.length l i)=0)(h:¬(js.getD (l.getD i.toNat 0).toNat AI.z).due<B4 (λx=>A5 ps.length ws js x l (i.toNat+1)) (AA ws js ns))
  (h2:BG (λx=>A5 ps.length ws js x l (i.toNat+1)) (AA ws js ns)<=(js.getD (l.getD i.toNat 0).toNat AI.z).due):(2:Int)=Kr bag kinds ps ws js ns l i:=by
 unfold Kr;rw [if_neg (λx=>x h0)];exact ((if_neg h).trans (if_pos h2)).symm
theorem Zq(h0:AU bag kinds ps ws js ns (CZ js.length l i)=0)(h:¬(js.getD (l.getD i.toNat 0).toNat AI.z).due<B4 (λx=>A5 ps.length ws js x l (i.toNat+1)) (AA ws js ns))
  (h2:¬BG (λx=>A5 ps.length ws js x l (i.toNat+1)) (AA ws js ns)<=(js.getD (l.getD i.toNat 0).toNat AI.z).due):(0:Int)=Kr bag kinds ps ws js ns l i:=by
 unfold Kr;rw [if_neg (λx=>x h0)];exact ((if_neg h).trans (if_neg h2)).symm
theorem late_bad(h0:¬AU bag kinds ps ws js ns (CZ js.length l i)=0):(0:Int)=Kr bag kinds ps ws js ns l i:=by unfold Kr;rw [if_pos h0]
end
end Go.Ns
namespace Go.Ns
open Go.Conc
def Gy(i:Nat)(pq:List AB):Nat->List Int
 | 0=>[]
 | k+1=>Gy i pq k++[(pq.getD k AB.zero).works i]
theorem G8(i:Nat)(pq:List AB):∀k,(Gy i pq k).length=k
 | 0=>rfl
 | k+1=>by rw [Gy,List.length_append,G8 i pq k];rfl
theorem Pm{i:Nat}{pq:List AB}{k:Nat}(h:0<k):Gy i pq k≠[]:=λe=>by
 have:=G8 i pq k
 rw [e] at this;simp at this;omega
def My(bag kinds:Int)(ps:List ByteArray)(ws:List AC)(js:List AI)(ns:List AJ)(i:Int):List Int:=
 if¬AU bag kinds ps ws js ns (FB js.length i)=0 then [] else Db (FO (Gy i.toNat (AA ws js ns) (AA ws js ns).length))
end Go.Ns
namespace Go.Ns
open Go.Conc
theorem VG{h:GH}{r:Nat}{M:Int->Option Int}(x:Ci h r Df Df M):∃y,h r=some y:=by
 obtain ⟨es,clk,hb,_⟩:=x;exact ⟨_,hb⟩
def Dr(ns:List AJ)(mask:Int)(k:Nat):List AJ:=((List.range k).filter (Nu mask)).map λ(i:Nat)=>ns.getD i AJ.z
section
variable {ns:List AJ} {mask:Int} {k:Nat} {h:GH}
theorem pickN_t(hb:mask.fdiv (2 ^ k)%2=1):Dr ns mask (k+1)=Dr ns mask k++[ns.getD k AJ.z]:=by
 unfold Dr;rw [Jr (by unfold Nu;rw [decide_eq_true hb]),List.map_append];rfl
theorem pickN_f(hb:¬mask.fdiv (2 ^ k)%2=1):Dr ns mask (k+1)=Dr ns mask k:=by
 unfold Dr;rw [Js (by unfold Nu;rw [decide_eq_false hb])]
theorem SU(ns:List AJ)(mask:Int)(k:Nat):(Dr ns mask k).length<=k:=by
 unfold Dr;rw [List.length_map]
 have:=List.length_filter_le (Nu mask) (List.range k)
 rwa [List.length_range] at this
theorem VH(ns:List AJ)(mask:Int)(k q:Nat)(hq:q<(Dr ns mask k).length):∃i,i<k/\(Dr ns mask k).getD q AJ.z=ns.getD i AJ.z:=by
 have hm:(Dr ns mask k).getD q AJ.z ∈ Dr ns mask k:=BX hq;unfold Dr at hm ⊢;obtain ⟨i,hi,e⟩:=List.mem_map.1 hm;exact ⟨i,List.mem_range.1 (List.mem_filter.1 hi).1,e.symm⟩
theorem Am.pick(x:Am h ns)(mask:Int)(k:Nat):Am h (Dr ns mask k):=λq=>by
 by_cases hq:q<(Dr ns mask k).length
 ·obtain ⟨i,_,e⟩:=VH ns mask k q hq;rw [e];exact x i
 ·rw [List.getD_eq_getElem?_getD,List.getElem?_eq_none aA];exact Am.nil h 0
theorem Am.fine1(x:Am h ns)(k:Nat):(CK (ns.getD k AJ.z)).toList.all (·.oneCell')=true:=by
 show (((ns.getD k AJ.z).wv.oneCell') && (true && (true && true)))=true;rw [(AK.one (x k)).2];rfl
theorem Am.fine(x:Am h ns):∀y ∈ ns,(CK y).toList.all (·.oneCell')=true:=λy hy=>by
 obtain ⟨i,hi,e⟩:=List.mem_iff_getElem.1 hy
 have:=x.fine1 i
 rw [List.getD_eq_getElem?_getD,List.getElem?_eq_getElem hi] at this;rw [<-e];exact this
theorem T5{nw:Nat}{ns ns':List AJ}{k i:Nat}(e:ns'.getD k AJ.z=ns.getD i AJ.z):Dj nw ns' k=Dj nw ns i:=by unfold Dj;rw [e]
theorem A8.pick{bag kinds:Int}{ps:List ByteArray}{ws:List AC}{js:List AI}(b:A8 bag kinds ps ws js ns)(mask:Int):A8 bag kinds ps ws js (Dr ns mask ns.length):=
 { b with
  nlen:=Nat.le_trans (SU ns mask ns.length) b.nlen
  note:=λk hk=>by
   obtain ⟨i,hi,e⟩:=VH ns mask ns.length k hk;rw [T5 e];exact b.note i hi }
end
section
variable (ws:List AC) (js:List AI) (ns:List AJ)
def Fj(x:Bool×List Int)(l:List Int):Bool:=x.1 && (decide ((x.2.length:Int)<l.length) || (decide ((l.length:Int)=x.2.length) && decide (0<HV l x.2)))
def B5:Nat->Bool×List Int
 | 0=>(false,[])
 | q+1=>if Fj (B5 q) (Dg (q:Int) ns.length)=true then B5 q else if (AA ws js (Dr ns (q:Int) ns.length)).length=0 then (true,Dg (q:Int) ns.length) else B5 q
variable {ws js ns} {q:Nat}
theorem IG(h:Fj (B5 ws js ns q) (Dg (q:Int) ns.length)=true):B5 ws js ns (q+1)=B5 ws js ns q:=if_pos h
theorem N5(h:Fj (B5 ws js ns q) (Dg (q:Int) ns.length)=false)(h2:((AA ws js (Dr ns (q:Int) ns.length)).length:Int)=0):B5 ws js ns (q+1)=(true,Dg (q:Int) ns.length):=by
 rw [B5,if_neg (by rw [h];simp),if_pos aA]
theorem N6(h:Fj (B5 ws js ns q) (Dg (q:Int) ns.length)=false)(h2:¬((AA ws js (Dr ns (q:Int) ns.length)).length:Int)=0):B5 ws js ns (q+1)=B5 ws js ns q:=by
 rw [B5,if_neg (by rw [h];simp),if_neg aA]
theorem Zs{x:Bool×List Int}{l:List Int}(h:x.1=false):Fj x l=false:=by unfold Fj;rw [h];rfl
theorem Zt{x:Bool×List Int}{l:List Int}(h:¬(x.2.length:Int)<l.length)(h2:¬(l.length:Int)=x.2.length):Fj x l=false:=by
 unfold Fj;rw [decide_eq_false h,decide_eq_false h2];simp
theorem Zu{x:Bool×List Int}{l:List Int}(h:¬(x.2.length:Int)<l.length)(h2:¬0<HV l x.2):Fj x l=false:=by
 unfold Fj;rw [decide_eq_false h,decide_eq_false h2];simp
theorem SV{x:Bool×List Int}{l:List Int}(h:x.1=true)(h1:(x.2.length:Int)<l.length):Fj x l=true:=by
 unfold Fj;rw [h,decide_eq_true h1];simp
theorem SW{x:Bool×List Int}{l:List Int}(h:x.1=true)(h1:(l.length:Int)=x.2.length)(h2:0<HV l x.2):Fj x l=true:=by
 unfold Fj;rw [h,decide_eq_true h1,decide_eq_true h2];simp
theorem pow_16:∀{n:Nat},n<=4->(1:Int)<=(2:Int) ^ n/\(2:Int) ^ n<=16
 | 0,_=>aC
 | 1,_=>aC
 | 2,_=>aC
 | 3,_=>aC
 | 4,_=>aC
theorem Pn:∀q,(B5 ws js ns q).2.length<=ns.length
 | 0=>Nat.zero_le _
 | q+1=>by
  have e:=Pn q;unfold B5;split
  ·exact e
  ·split
   ·exact SL _ _
   ·exact e
def Gz(bag kinds:Int)(ps:List ByteArray)(ws:List AC)(js:List AI)(ns:List AJ):List Int:=
 if¬A0 bag kinds ps ws js ns=0 then [] else if (0:Int)<(AA ws js ns).length then [] else (B5 ws js ns (2 ^ ns.length)).2
end
section
variable {bag kinds:Int} {ps:List ByteArray} {ws:List AC} {js:List AI} {ns:List AJ} {q:Nat}
theorem VI(h:¬A0 bag kinds ps ws js ns=0):Gz bag kinds ps ws js ns=[]:=if_pos h
theorem T6(h:(0:Int)<(AA ws js ns).length):Gz bag kinds ps ws js ns=[]:=by
 unfold Gz;rw [if_pos h];exact ite_self _
theorem VJ(h:A0 bag kinds ps ws js ns=0)(h1:¬(0:Int)<(AA ws js ns).length)(hq:¬(q:Int)<(2:Int) ^ ((ns.length:Int)).toNat)(hq2:(q:Int)<=(2:Int) ^ ((ns.length:Int)).toNat):Gz bag kinds ps ws js ns=(B5 ws js ns q).2:=by
 have e:((2 ^ ns.length:Nat):Int)=(2:Int) ^ ((ns.length:Int)).toNat:=by rw [Int.toNat_natCast,Int.natCast_pow];rfl
 rw [<-e] at hq hq2
 have:2 ^ ns.length=q:=aA
 unfold Gz;rw [if_neg (λx=>x h),if_neg h1,this]
end
section
variable (ws:List AC) (js:List AI) (ns:List AJ)
abbrev Ke(pq:List AB)(i:Nat):Nat->Int:=λk=>(pq.getD k AB.zero).ways i
def VK(pq:List AB)(i:Nat):Int:=Ko (Ke pq i) pq.length
def HZ(pq:List AB)(k:Nat):Int×Int:=askTo (VK pq) (pq.length:Int) k
theorem SX{pq:List AB}{k:Nat}(h:VK pq k<(HZ pq k).2):HZ pq (k+1)=((k:Int),VK pq k):=if_pos h
theorem SY{pq:List AB}{k:Nat}(h:¬VK pq k<(HZ pq k).2):HZ pq (k+1)=HZ pq k:=if_neg h
def T7(bag kinds:Int)(ps:List ByteArray)(ws:List AC)(js:List AI)(ns:List AJ):Int:=if¬AU bag kinds ps ws js ns 0=0 then 0 else (HZ (AA ws js ns) ws.length).1
def Oj(bag kinds:Int)(ps:List ByteArray)(ws:List AC)(js:List AI)(ns:List AJ):Int:=if¬AU bag kinds ps ws js ns 0=0 then 0 else (HZ (AA ws js ns) ws.length).2
end
end Go.Ns
namespace Go.Ns
open Go.Conc
def Jk(hs:GH)(k0 ln:Nat)(c:Array Value)(t:TypeId)(k:Nat)(v:Value)(h:GH):Prop:=k=k0->∃r,v=.slice (some ⟨r,0,none⟩) ln ln/\hs r=none/\h r=some (true,.cells c t (0,0))
theorem Jk.mono(hs:GH)(k0 ln:Nat)(c:Array Value)(t:TypeId):∀k v h1 h2,GH.Le h1 h2->Jk hs k0 ln c t k v h1->Jk hs k0 ln c t k v h2:=λ_ _ _ _ l x e=>by
 obtain ⟨r,q1,q2,q3⟩:=x e;exact ⟨r,q1,q2,l.keep q3 rfl⟩
theorem Hl{P:Program}{E:GW P}{O:Nat->Value}{ds:List Deferred}{hs hx:GH}{dst:Option Nat}{ty:TypeId}{pos:String}{af:Array Edge}{gd:Option (Nat×Bool)}{t:TypeId}{len n k0 k:Nat}{z cells:Array Value}{e:TypeId}{parts:Array (Nat×Operand)}
  (h0:DN P t=some (n,z,e)) (hl:len*n<=2 ^ 24) (hn:(len*n=0)=False) (hf:Instr.fill (λi=>some (i*n,n)) ((Array.range (len*n)).map (z[·%z.size]!)) (parts.map λ(i,x)=>(i,AN O x)).toList=some cells) (l:hs.Le hx) :
  BR E ⟨dst,.buildSlice t len parts,ty,pos,af,gd⟩ O ds hx λσ' ds' h'=>ds'=ds/\∃v,σ'=putS O dst v/\hx.Le h'/\Jk hs k0 len cells e k v h':=
 AW h0 hl hn hf λr h' hr le bx _=>⟨rfl,_,rfl,le,λ_=>⟨r,rfl,GH.Le.nothing l hr,bx⟩⟩
def LfW(hs:GH)(k0 ln:Nat)(c:Array Value)(t:TypeId)(n:Nat)(Fr:GH->Prop)(k:Nat)(v:Value)(h:GH):Prop:=Jk hs k0 ln c t k v h/\(k=n->Fr h)
theorem LfW.mono(hs:GH)(k0 ln:Nat)(c:Array Value)(t:TypeId)(n:Nat){Fr:GH->Prop}(m:∀h1 h2,GH.Le h1 h2->Fr h1->Fr h2):∀k v h1 h2,GH.Le h1 h2->LfW hs k0 ln c t n Fr k v h1->LfW hs k0 ln c t n Fr k v h2:=λ_ _ _ _ l x=>⟨Jk.mono _ _ _ _ _ _ _ _ _ l x.1,λe=>m _ _ l (x.2 e)⟩
theorem Wz{P:Program}{E:GW P}{O:Nat->Value}{ds:List Deferred}{hs hx:GH}{dst:Option Nat}{ty:TypeId}{pos:String}{af:Array Edge}{gd:Option (Nat×Bool)}{t:TypeId}{len n k0 N:Nat}{z cells:Array Value}{e:TypeId}{parts:Array (Nat×Operand)}{Fr:GH->Prop}(hk:k0≠N)
  (h0:DN P t=some (n,z,e)) (hl:len*n<=2 ^ 24) (hn:(len*n=0)=False) (hf:Instr.fill (λi=>some (i*n,n)) ((Array.range (len*n)).map (z[·%z.size]!)) (parts.map λ(i,x)=>(i,AN O x)).toList=some cells) (l:hs.Le hx) :
  BR E ⟨dst,.buildSlice t len parts,ty,pos,af,gd⟩ O ds hx λσ' ds' h'=>ds'=ds/\∃v,σ'=putS O dst v/\hx.Le h'/\LfW hs k0 len cells e N Fr k0 v h':=
 AW h0 hl hn hf λr h' hr le bx _=>⟨rfl,_,rfl,le,λ_=>⟨r,rfl,GH.Le.nothing l hr,bx⟩,λe=>absurd e hk⟩
theorem tFg{P:Program}{E:GW P}{l:List Oper}{n:Nat}{fl:Bool}{hs:GH}{ds:List Deferred}{Lw:Nat->Value->GH->Prop}{F:(Nat->Value)->GH->Prop}{π:List Nat}{O:Nat->Value}{h:GH}{m k g d:Nat}{dst:Option Nat}{op:Op}{ty:TypeId}{pos:String}{af:Array Edge}{v:Value}{w:Bool}{og:Oper}
  (hk:Ki m=(.p,k)) (ho:l[k]? =some ⟨dst,op,ty,pos,af,some (g,w)⟩) (h1:l[g]? =some og) (h2:og.dst=some d) (h3:O d=.bool w) (x:∀hx,Lw n undef hx->Th E ⟨dst,op,ty,pos,af,some (g,w)⟩ O ds hx v)
  (y:TD E l n fl hs ds Lw F (dK π) (putS O dst v) h):TD E l n fl hs ds Lw F (dK (m ::π)) O h:=by
 unfold dK;rw [hk];exact ⟨_,true,ho,HU h1 h2 h3,λe=>(by cases e),λ_=>⟨v,x,y⟩⟩
theorem tWLg{P:Program}{E:GW P}{l:List Oper}{n:Nat}{hs:GH}{ds:List Deferred}{Lw:Nat->Value->GH->Prop}{F:(Nat->Value)->GH->Prop}{π:List Nat}{O:Nat->Value}{h:GH}{m k g d:Nat}{dst:Option Nat}{op:Op}{ty:TypeId}{pos:String}{af:Array Edge}{w:Bool}{og:Oper}(hk:Ki m=(.w,k))(ho:l[k]? =some ⟨dst,op,ty,pos,af,some (g,w)⟩)(h1:l[g]? =some og)(h2:og.dst=some d)(h3:O d=.bool w)
  (x:BR E ⟨dst,op,ty,pos,af,some (g,w)⟩ O ds h λσ' ds' h'=>ds'=ds/\∃v,σ'=putS O dst v/\Lw n undef h'/\TD E l n false hs ds Lw F (dK π) (putS O dst v) h'):TD E l n false hs ds Lw F (dK (m ::π)) O h:=by
 unfold dK;rw [hk];exact ⟨_,true,ho,HU h1 h2 h3,λe=>(by cases e),λ_ hx hg=>by rw [hg.2 rfl];exact x⟩
def Ty(h:GH)(t:TypeId)(v:Value):Prop:=∀b,CM v=some b->∃p c f,h b=some (p,.cells c t f)
def B9(h:GH)(t:TypeId)(v:Value)(xs:List Int):Prop:=AK h v 1 eI xs/\Ty h t v
theorem B9.le{h h':GH}{t:TypeId}{v:Value}{xs:List Int}(x:B9 h t v xs)(l:h.Le h'):B9 h' t v xs:=⟨x.1.le l,λb hb=>by
 obtain ⟨p,c,f,q⟩:=x.2 b hb;exact ⟨p,c,f,l.keep q rfl⟩⟩
theorem B9.nil(h:GH)(t:TypeId):B9 h t (.slice none 0 0) []:=⟨AK.nil _ _ _,λb hb=>by cases hb⟩
theorem B9.own{h0 h:GH}{t:TypeId}{v:Value}{xs:List Int}(o:AO h0 h v t 1 eI xs):B9 h t v xs:=⟨o.sl,λb hb=>by
 rcases o with ⟨rfl,_⟩ | ⟨b1,cap,c,rfl,_,h2,_⟩
 ·cases hb
 ·simp only [CM,Option.some.injEq] at hb;subst hb;exact ⟨_,_,_,h2⟩⟩
theorem B9.same{h h':GH}{t:TypeId}{w:Value}{xs:List Int}(x:B9 h t w xs)(key:∀b,CM w=some b->h' b=h b):B9 h' t w xs:=by
 refine ⟨?_,λb hb=>by rw [key b hb];exact x.2 b hb⟩;obtain ⟨a,cap,hv,hc,hm,he⟩:=x.1;refine ⟨a,cap,hv,hc,hm,λi hi=>?_⟩;obtain ⟨b,off,h1,h2⟩:=he i hi;exact ⟨b,off,h1,h2.same (key b (by rw [hv,h1];rfl))⟩
theorem B9.grown{V:Type}{h h' h0:GH}{v v':Value}{t t':TypeId}{n:Nat}{enc:V->Array Value}{ys:List V}(g:GX h h' v v')(o:AO h0 h v t' n enc ys)(ne:t'≠t){w:Value}{xs:List Int}(x:B9 h t w xs):B9 h' t w xs:=
 x.same λb hb=>by
  obtain ⟨p,c,f,q⟩:=x.2 b hb;rw [q];refine g.1 b _ q λe=>?_;rcases o with ⟨rfl,_⟩ | ⟨b1,cap,c1,rfl,_,h2,_⟩
  ·cases e
  ·simp only [CM,Option.some.injEq] at e;subst e;rw [q] at h2;cases h2;exact ne rfl
theorem B9.keepX{X:Nat->Prop}{h h':GH}{t:TypeId}{w:Value}{xs:List Int}(x:B9 h t w xs)(k:Bn X h h')(n:∀b,CM w=some b->¬X b):B9 h' t w xs:=
 x.same λb hb=>by
  obtain ⟨p,c,f,q⟩:=x.2 b hb;rw [q];exact k.box q (n b hb) rfl
theorem B9.store{h h':GH}{t t':TypeId}{w:Value}{xs:List Int}{r:Nat}{p:Bool}{c:Array Value}{f:Nat×Nat}(x:B9 h t w xs)(hr:h r=some (p,.cells c t' f))(ne:t'≠t)(ho:∀b,b≠r->h' b=h b):B9 h' t w xs:=
 x.same λb hb=>ho b λe=>by
  obtain ⟨p2,c2,f2,q⟩:=x.2 b hb;rw [e,hr] at q;cases q;exact ne rfl
def Bv(h:GH)(t:TypeId)(l:List Sl):Prop:=∀k,B9 h t (l.getD k Sl.z).1 (l.getD k Sl.z).2
theorem Bv.le{h h':GH}{t:TypeId}{l:List Sl}(x:Bv h t l)(e:h.Le h'):Bv h' t l:=λk=>(x k).le e
theorem Bv.nil(h:GH)(t:TypeId):Bv h t []:=λk=>by
 rw [Bf aD];exact B9.nil _ _
theorem FU{V:Type}(z:V)(a b:List V)(k:Nat):(a++b).getD k z=if k<a.length then a.getD k z else b.getD (k-a.length) z:=by
 simp only [List.getD_eq_getElem?_getD,List.getElem?_append];split <;> rfl
theorem Bv.app{h:GH}{t:TypeId}{l l':List Sl}(a:Bv h t l)(b:Bv h t l'):Bv h t (l++l'):=λk=>by
 rw [FU];split
 ·exact a k
 ·exact b _
theorem Bv.one{h:GH}{t:TypeId}{x:Sl}(a:B9 h t x.1 x.2):Bv h t [x]:=λk=>by
 cases k with
 | zero=>exact a
 | succ k=>rw [Bf aD];exact B9.nil _ _
theorem Bv.fine{h:GH}{t:TypeId}{l:List Sl}(a:Bv h t l):∀y ∈ l,(Jf y).toList.all (·.oneCell')=true:=λy hy=>by
 obtain ⟨i,hi,e⟩:=List.mem_iff_getElem.1 hy;have z:=a i;rw [List.getD_eq_getElem?_getD,List.getElem?_eq_getElem hi] at z;have z2:B9 h t l[i].1 l[i].2:=z;rw [<-e];show ((l[i].1.oneCell') && true)=true;rw [(AK.one z2.1).2];rfl
theorem M0(a b:List Sl):Ax (a++b)=Ax a++Ax b:=by simp [Ax]
section
variable {V:Type} {hB:GH} {I:List V->(Nat->Prop)->GH->Prop} {S:GH->Prop} {X0 X X1:Nat->Prop} {h hc h':GH} {pre l:List V} {v v':Value}
def JD(hB:GH)(X0 X:Nat->Prop)(h:GH)(v:Value):Prop:=∀b,CM v=some b->¬X b/\(X0 b\/h b=none)/\hB b=none
theorem EP.old(y:EP hB I X0 h pre X hc){b:Nat}(e:hc b=none):X0 b\/h b=none:=by
 by_cases q:X0 b
 ·exact .inl q
 ·refine .inr ?_;cases hb:h b with
  | none=>rfl
  | some x=>
   obtain ⟨o',h1,_⟩:=y.keep b x.1 x.2 hb q;rw [e] at h1;cases h1
theorem EP.fresh(P:GT hB I)(y:EP hB I X0 h pre X hc)(o:∀b,CM v=some b->hc b=none):JD hB X0 X h v:=λb hb=>⟨P.off y.inv (o b hb),y.old (o b hb),y.base.nothing (o b hb)⟩
theorem JD.grown(f:JD hB X0 X h v)(P:GT hB I)(y:EP hB I X0 h pre X hc)(g:GX hc h' v v'):JD hB X0 X h v':=λb hb=>by
 rcases g.2 with e | ⟨⟨r,e1,e2⟩,_⟩
 ·exact f b (e▸hb)
 ·rw [e1] at hb;cases hb;exact ⟨P.off y.inv e2,y.old e2,y.base.nothing e2⟩
theorem EP.app(P:GT hB I)(y:EP hB I X0 h pre X hc)(g:GX hc h' v v')(f:JD hB X0 X h v):EP hB I X0 h pre X h':=by
 have lB:hB.Le h':=λb p o hb=>by
  obtain ⟨o1,h1,h2⟩:=y.base b p o hb;exact ⟨o1,g.1 b _ h1 λe=>(by rw [(f b e).2.2] at hb;cases hb),h2⟩
 refine ⟨P.stable _ _ hc h' y.inv (λb hb=>?_) lB,y.sub,λb p o hb hn=>?_,lB⟩
 ·obtain ⟨p,o,h1,_⟩:=P.dom _ _ _ b y.inv hb;rw [h1];exact g.1 b _ h1 λe=>(f b e).1 hb
 ·obtain ⟨o1,h1,h2⟩:=y.keep b p o hb hn;exact ⟨o1,g.1 b _ h1 λe=>(f b e).2.1.elim hn λq=>(by rw [q] at hb;cases hb),h2⟩
theorem EP.callL(y:EP hB I X0 h pre X hc)(f:JD hB X0 X h v){u:Value}(r:EY hB I S pre (λb=>X b\/CM v=some b) hc l u h') :
  ∃ok X',u=.bool ok/\(∀b,X' b->(X b\/CM v=some b)\/hc b=none)/\Bn (λb=>X b\/CM v=some b) hc h'/\(ok=true->EP hB I X0 h (pre++l) X' h')/\(ok=false->∀l',EY hB I S pre X0 h l' (.bool false) h'):=by
 obtain ⟨ok,X',hv,hs,hk,hl,h1,h2⟩:=r;have s:∀b,(X b\/CM v=some b)->X0 b\/h b=none:=λb q=>q.elim (y.sub b) λe=>(f b e).2.1;have kk:Bn X0 h h':=y.keep.trans s hk;have ss:=subX s y.keep hs;exact ⟨ok,X',hv,hs,hk,λe=>⟨h1 e,ss,kk,hl⟩,λe l'=>⟨false,X',rfl,ss,kk,hl,(λx=>by cases x),λ_=>h2 e⟩⟩
end
structure Po{P:Program}(W:Wk P)(hB:GH)(yv:Value)(t:TypeId)(I:List (List Int)->(Nat->Prop)->GH->Prop)(S:GH->Prop)(all:List (List Int)):Prop where
 prom:GT hB I
 one:yv.cells=#[yv]
 call:∀pre p post X h v,all=pre++p ::post->I pre X h->hB.Le h->B9 h t v p->(∀b,CM v=some b->¬X b/\hB b=none)->Br W yv #[v] h (EY hB I S pre (λb=>X b\/CM v=some b) h [p])
section
variable {P:Program} {E:GW P} {O:Nat->Value} {ds:List Deferred}
theorem SZ{t0:TypeId}{all:List (List Int)}{hB hc:GH}{J:List (List Int)->(Nat->Prop)->GH->Prop}{Stop:Code->GH->Prop}{Y0:Nat->Prop}{par:Tmp}{f:Operand}{assign body:Code}{Q:Post}
  (hrd:E.rd=none) (hpar:Nat.blt par E.N=true) (hJ:GT hB J) (hB0:hB.Le hc) (j0:J [] Y0 hc)
  (hS:∀c (h h':GH) l lo,Stop c h->h l=some (true,.loop lo)->(∀b,b≠l->h' b=h b)->Stop c h')
  (src:∀(yv:Value)(I:List (List Int)->(Nat->Prop)->GH->Prop)(Sp:GH->Prop)(X:Nat->Prop)(h:GH),Po E.wk hB yv t0 I Sp all->hB.Le h->I [] X h->Br E.wk (AN O f) #[yv] h λ_ h'=>YEnd hB I Sp all X h h')
  (round:∀(l d:Nat)(lo:Loop)(pre:List (List Int))(p:List Int)(post:List (List Int))(Y:Nat->Prop)(h:GH)(v:Value),all=pre++p ::post->J pre Y h->hB.Le h->hB l=none->¬Y l->h l=some (true,.loop lo)->B9 h t0 v p->(∀b,CM v=some b->¬Y b/\hB b=none)->
   Tr ⟨E.wk,E.fn,some l,E.N⟩ assign (upd O par v) [] h λe σ' ds' h1=>e=.normal/\h1 l=some (true,.loop lo)/\∀h2,h2 l=some (true,.loop { lo with state:=.busy })->(∀b,b≠l->h2 b=h1 b)->
    Tr ⟨E.wk,E.fn,some l,E.N⟩ body σ' ds' h2 (Uy hB J Stop (pre++[p]) (λb=>Y b\/CM v=some b) h l lo))
  (fin:∀(d l:Nat)(h':GH),hB.Le h'->hB d=none->hB l=none->hc d=none->h' d=some (true,.deferred (some []))->
   (∀Y,J all Y h'->(∀b,Y b->b≠d)->Q .normal O ({ target:=.collected d,args:=#[] } ::ds) h')/\
   (∀c,Stop c h'->match c with
    | .exit id=>Q (.exit id) O ({ target:=.collected d,args:=#[] } ::ds) h'
    | .ret=>Q .ret O ({ target:=.collected d,args:=#[] } ::ds) h'
    | _=>False)):Tr E (.rangeFunc f #[par] assign body) O ds hc Q:=by
 refine Ll hrd λt d l hs hd hl hne=>?_;have hl':hB l=none:=hB0.nothing hl;have hd':hB d=none:=hB0.nothing hd;let lo:Loop:={ state:=.ready,pending:=none,fn:=E.fn,tmps:=t,params:=#[par],assign,body,defers:=d };have nYl:¬Y0 l:=hJ.off j0 hl;have nYd:¬Y0 d:=hJ.off j0 hd;have hL1:((hc.set d true (.deferred (some []))).set l true (.loop lo)) l=some (true,.loop lo):=GH.set_same _ _ _ _;have hL2:((hc.set d true (.deferred (some []))).set l true (.loop lo)) d=some (true,.deferred (some [])):=by rw [GH.set_ne _ _ _ (Ne.symm hne)];exact GH.set_same _ _ _ _
 have hL3:∀b,b≠l->b≠d->((hc.set d true (.deferred (some []))).set l true (.loop lo)) b=hc b:=λb h1 h2=>by rw [GH.set_ne _ _ _ h1,GH.set_ne _ _ _ h2]
 have hLB:hB.Le ((hc.set d true (.deferred (some []))).set l true (.loop lo)):=(hB0.trans (GH.Le.new hd _ _)).trans (GH.Le.new (by rw [GH.set_ne _ _ _ hne];exact hl) _ _);have hI0:Nt J l d lo [] (λb=>Y0 b\/b=l\/b=d) ((hc.set d true (.deferred (some []))).set l true (.loop lo)):=by
  refine ⟨Y0,hJ.stable _ _ hc _ j0 (λb hb=>hL3 b (λe=>nYl (e▸hb)) (λe=>nYd (e▸hb))) hLB,λb=>Iff.rfl,nYl,nYd,hL1,hL2⟩
 have prom:GT hB (Nt J l d lo):=by
  refine ⟨?_,?_⟩
  ·rintro pre X h b ⟨Y,j,hX,_,_,h1,h2⟩ hb;rcases (hX b).1 hb with h3 | rfl | rfl
   ·exact hJ.dom _ _ _ _ j h3
   ·exact ⟨_,_,h1,rfl⟩
   ·exact ⟨_,_,h2,rfl⟩
  ·rintro pre X h h' ⟨Y,j,hX,n1,n2,h1,h2⟩ same lB;refine ⟨Y,hJ.stable _ _ h h' j (λb hb=>same b ((hX b).2 (.inl hb))) lB,hX,n1,n2,?_,?_⟩
   ·rw [same l ((hX l).2 (.inr (.inl rfl)))];exact h1
   ·rw [same d ((hX d).2 (.inr (.inr rfl)))];exact h2
 have yk:Po E.wk hB (.func (.yield l) #[] #[]) t0 (Nt J l d lo) (SJ Stop l d lo) all:=by
  refine ⟨prom,rfl,?_⟩;rintro pre p post X h v hall ⟨Y,j,hX,n1,n2,h1,h2⟩ lB hsv hvX;have nvl:CM v≠some l:=λe=>by obtain ⟨_,_,_,q⟩:=hsv.2 l e;rw [h1] at q;cases q
  have nvd:CM v≠some d:=λe=>by obtain ⟨_,_,_,q⟩:=hsv.2 d e;rw [h2] at q;cases q
  refine O6 h1 rfl ?_;have ef:(lo.params.zip #[v]).foldl (λtmps x=>tmps.setIfInBounds x.1 x.2) lo.tmps=t.setIfInBounds par v:=by simp [lo]
  rw [ef];show BV E.wk l E.fn (t.setIfInBounds par v) assign body h _;have hs':=hs.put hpar v;refine Nm (N:=E.N) hs'.1 ?_;have e0:(λi=>(t.setIfInBounds par v).getD i undef)=upd O par v:=funext hs'.2;rw [e0];refine KN ?_ (round l d lo pre p post Y h v hall j lB hl' n1 h1 hsv λb hb=>⟨λq=>(hvX b hb).1 ((hX b).2 (.inl q)),(hvX b hb).2⟩);rintro e σ' ds' ha ⟨rfl,ha1,hb⟩;refine ⟨rfl,lo,ha1,rfl,?_⟩;refine KN ?_ (hb _ (GH.set_same _ _ _ _) λb hb=>GH.set_ne _ _ _ hb);rintro e σ2 ds2 h3 ⟨g1,Y',g2,g3,g4,g5⟩;have hd3:h3 d=some (true,.deferred (some [])):=g3.box h2 (λq=>q.elim (λq=>q.elim n2 nvd) (λe=>hne e.symm)) rfl;have nl:¬Y' l:=λq=>(g2 l q).elim (λq=>q.elim n1 nvl) λe=>by rw [h1] at e;cases e
  have nd:¬Y' d:=λq=>(g2 d q).elim (λq=>q.elim n2 nvd) λe=>by rw [h2] at e;cases e
  have key:∀(lo2:Loop)(ok:Bool),(if ok then J (pre++[p]) Y' (h3.set l true (.loop lo2))/\lo2=lo else SJ Stop l d lo (h3.set l true (.loop lo2)))->EY hB (Nt J l d lo) (SJ Stop l d lo) pre (λb=>X b\/CM v=some b) h [p] (.bool ok) (h3.set l true (.loop lo2)):=by
   intro lo2 ok hok;refine ⟨ok,λb=>Y' b\/b=l\/b=d,rfl,?_,?_,?_,?_,?_⟩
   ·rintro b (hb | rfl | rfl)
    ·exact (g2 b hb).imp (λq=>q.imp (λq=>(hX b).2 (.inl q)) id) id
    ·exact .inl (.inl ((hX _).2 (.inr (.inl rfl))))
    ·exact .inl (.inl ((hX _).2 (.inr (.inr rfl))))
   ·intro b q o hb hn;have nb:b≠l:=λe=>hn (.inl ((hX b).2 (.inr (.inl e))));rw [GH.set_ne _ _ _ nb];exact g3 b q o hb λq=>q.elim (λz=>z.elim (λz=>hn (.inl ((hX b).2 (.inl z)))) λz=>hn (.inr z)) nb
   ·exact g4.upd hl' λb hb=>GH.set_ne _ _ _ hb
   ·rintro rfl;simp only [if_true] at hok;obtain ⟨hj,rfl⟩:=hok;exact ⟨Y',hj,λb=>Iff.rfl,nl,nd,GH.set_same _ _ _ _,by rw [GH.set_ne _ _ _ (Ne.symm hne)];exact hd3⟩
   ·rintro rfl;simpa using hok
  have js:∀(lo2:Loop),J (pre++[p]) Y' h3->J (pre++[p]) Y' (h3.set l true (.loop lo2)):=λlo2 hj=>hJ.store hj nl (λb hb=>GH.set_ne _ _ _ hb) (g4.upd hl' λb hb=>GH.set_ne _ _ _ hb);have ss:∀c (lo2:Loop),Stop c h3->Stop c (h3.set l true (.loop lo2)):=λc lo2 hc=>hS c h3 _ l _ hc g1 λb hb=>GH.set_ne _ _ _ hb;refine ⟨_,g1,?_⟩;cases e with
  | normal=>exact key _ true (by simp only [if_true];exact ⟨js _ g5,rfl⟩)
  | exit id=>exact key _ false (by simp only [Bool.false_eq_true,if_false];exact ⟨_,ss _ _ g5,GH.set_same _ _ _ _,by rw [GH.set_ne _ _ _ (Ne.symm hne)];exact hd3⟩)
  | ret=>exact key _ false (by simp only [Bool.false_eq_true,if_false];exact ⟨_,ss _ _ g5,GH.set_same _ _ _ _,by rw [GH.set_ne _ _ _ (Ne.symm hne)];exact hd3⟩)
  | goto _=>exact g5.elim
  | panic _=>exact g5.elim
  | outgrown=>exact g5.elim
 refine (src _ _ _ _ _ yk hLB hI0).mono ?_;rintro v h' ⟨X',hs',hk,hl2,hor⟩;rcases hor with ⟨Y,j,hX,n1,n2,h1,h2⟩ | ⟨c,hst,h1,h2⟩
 ·refine ⟨lo,h1,rfl,?_⟩;show Q .normal O _ _;have hB':=hl2.upd hl' (λb hb=>GH.set_ne h' true (.loop { lo with state:=.exhausted }) hb);refine (fin d l _ hB' hd' hl' hd (by rw [GH.set_ne _ _ _ (Ne.symm hne)];exact h2)).1 Y (hJ.store j n1 (λb hb=>GH.set_ne _ _ _ hb) hB') λb hb e=>n2 (e▸hb)
 ·refine ⟨_,h1,rfl,?_⟩;have hB':=hl2.upd hl' (λb hb=>GH.set_ne h' true (.loop { { lo with state:=.done,pending:=some c } with state:=.exhausted }) hb)
  have:=(fin d l _ hB' hd' hl' hd (by rw [GH.set_ne _ _ _ (Ne.symm hne)];exact h2)).2 c (hS c h' _ l _ hst h1 λb hb=>GH.set_ne _ _ _ hb)
  cases c with
  | exit id=>exact this
  | ret=>exact this
  | _=>exact this.elim
end
def Ha(l:List Int)(k:Int):Bool:=l.any (λx=>decide (k=x))
def BC(jobs:List Int):Nat->List Int->List (List Int)
 | 0,l=>[l]
 | f+1,l=>l ::jobs.flatMap λk=>if Ha l k=true then [] else BC jobs f (l++[k])
def CB(jobs:List Int):Nat->List Int->Int->List (List Int)
 | 0,_,_=>[]
 | f+1,l,k=>if Ha l k=true then [] else BC jobs f (l++[k])
theorem FV(jobs:List Int)(f:Nat)(l:List Int):BC jobs f l=l ::jobs.flatMap (CB jobs f l):=by
 cases f with
 | zero=>simp [BC,CB]
 | succ f=>rfl
def C0(jobs:List Int):List (List Int):=BC jobs jobs.length []
def LH(jobs l:List Int):Nat:=(jobs.filter λk=> !Ha l k).length
theorem hasI_app(l:List Int)(k j:Int):Ha (l++[k]) j=(Ha l j || decide (j=k)):=by simp [Ha]
theorem N7{jobs l:List Int}{k:Int}(hk:k ∈ jobs)(h:Ha l k=false):LH jobs (l++[k])<LH jobs l:=by
 unfold LH;have key:∀js:List Int,(js.filter λj=> !Ha (l++[k]) j).length<=(js.filter λj=> !Ha l j).length/\(k ∈ js->(js.filter λj=> !Ha (l++[k]) j).length<(js.filter λj=> !Ha l j).length):=by
  intro js
  induction js with
  | nil=>exact ⟨Nat.le_refl _,λe=>by cases e⟩
  | cons j js ih=>
   obtain ⟨ih1,ih2⟩:=ih;rw [List.filter_cons,List.filter_cons,hasI_app];by_cases e:j=k
   ·subst e;simp only [h,Bool.false_or,decide_true,Bool.not_true,Bool.false_eq_true,if_false,Bool.not_false,if_true,List.length_cons];exact ⟨aA,λ_=>aA⟩
   ·rw [decide_eq_false e,Bool.or_false];split
    ·simp only [List.length_cons];exact ⟨aA,λq=>by have:=ih2 ((List.mem_cons.1 q).resolve_left λz=>e z.symm);omega⟩
    ·exact ⟨ih1,λq=>ih2 ((List.mem_cons.1 q).resolve_left λz=>e z.symm)⟩
 exact (key jobs).2 hk
theorem W0{jobs:List Int}{i:Nat}{F:Int->List (List Int)}(hi:i<jobs.length):(jobs.take (i+1)).flatMap F=(jobs.take i).flatMap F++F (jobs.getD i 0):=by
 rw [D6 0 hi,List.flatMap_append];simp
theorem CJ.job{all pre:List (List Int)}{jobs:List Int}{f i:Nat}{l:List Int}(w:CJ all pre (BC jobs f l))(hi:i<jobs.length):CJ all (pre++[l]++(jobs.take i).flatMap (CB jobs f l)) (CB jobs f l (jobs.getD i 0)):=by
 rw [FV] at w;have w2:CJ all pre ([l]++((jobs.take i).flatMap (CB jobs f l)++(CB jobs f l (jobs.getD i 0)++(jobs.drop (i+1)).flatMap (CB jobs f l)))):=by
  rw [<-List.append_assoc (List.flatMap _ _),<-W0 hi,<-List.flatMap_append,List.take_append_drop];exact w
 exact (w2.right.right).left
theorem CJ.head{all pre:List (List Int)}{jobs:List Int}{f:Nat}{l:List Int}(w:CJ all pre (BC jobs f l)):CJ all pre [l]:=by
 rw [FV] at w;exact CJ.left (a:=[l]) w
section
variable {jobs l:List Int} {f f' i:Nat} {k:Int} {all pre:List (List Int)}
theorem W1(hk:k ∈ jobs)(h:Ha l k=false)(hu:LH jobs l<=f):∃f',f=f'+1:=⟨f-1,by have:=N7 hk h;omega⟩
theorem L9(hf:f=f'+1)(h:Ha l k=false):CB jobs f l k=BC jobs f' (l++[k]):=by
 subst hf;exact if_neg (by rw [h];simp)
theorem Ro(h:Ha l k=true):CB jobs f l k=[]:=by
 cases f with
 | zero=>rfl
 | succ f=>exact if_pos h
theorem Rp(hi:i<jobs.length)(h:Ha l (jobs.getD i 0)=true):pre++[l]++(jobs.take (i+1)).flatMap (CB jobs f l)=pre++[l]++(jobs.take i).flatMap (CB jobs f l):=by
 rw [W0 hi,Ro h,List.append_nil]
theorem T8(hi:i<jobs.length)(hf:f=f'+1)(h:Ha l (jobs.getD i 0)=false):pre++[l]++(jobs.take (i+1)).flatMap (CB jobs f l)=(pre++[l]++(jobs.take i).flatMap (CB jobs f l))++BC jobs f' (l++[jobs.getD i 0]):=by
 rw [W0 hi,L9 hf h,<-List.append_assoc]
theorem Zv(hi:jobs.length<=i):pre++BC jobs f l=pre++[l]++(jobs.take i).flatMap (CB jobs f l):=by
 rw [List.take_of_length_le hi,FV];simp
theorem CJ.go(w:CJ all pre (BC jobs f l))(hi:i<jobs.length)(hf:f=f'+1)(h:Ha l (jobs.getD i 0)=false):CJ all (pre++[l]++(jobs.take i).flatMap (CB jobs f l)) (BC jobs f' (l++[jobs.getD i 0])):=by
 have z:=w.job hi
 rwa [L9 hf h] at z
end
end Go.Ns
namespace Go.Ns
open Go.Conc
theorem HK.mem{h:GH}{l:List Sl}(a:HK h l){x:Sl}(hx:x ∈ l):AK h x.1 1 eI x.2:=by
 obtain ⟨i,hi,e⟩:=List.mem_iff_getElem.1 hx;have z:=a i;rw [List.getD_eq_getElem?_getD,List.getElem?_eq_getElem hi] at z;have z2:AK h l[i].1 1 eI l[i].2:=z;rw [<-e];exact z2
theorem Bv.all{h:GH}{t:TypeId}{l:List Sl}(a:Bv h t l):HK h l:=λk=>(a k).1
theorem Bv.drop1{h:GH}{t:TypeId}{l:List Sl}(a:Bv h t l):Bv h t (l.drop 1):=λk=>by
 rw [List.getD_eq_getElem?_getD,List.getElem?_drop,<-List.getD_eq_getElem?_getD];exact a (1+k)
theorem W3{l:List Sl}{k:Nat}(h:k<l.length-1):(l.drop 1).getD k Sl.z ∈ l:=List.mem_of_mem_drop (BX (by rw [List.length_drop];exact h))
section
variable (G:List Int->Int) (l:List (List Int))
def C7:Nat->List Int×Int
 | 0=>(l.getD 0 [],G (l.getD 0 []))
 | k+1=>if G ((l.drop 1).getD k [])<(C7 k).2 then ((l.drop 1).getD k [],G ((l.drop 1).getD k [])) else C7 k
def Cp:List Int:=(C7 G l (l.length-1)).1
end
section
variable {G:List Int->Int} {l:List Sl} {k:Nat}
theorem W4(l:List Sl):(Ax l).length=l.length:=List.length_map _
theorem N8(hk:k<l.length-1):((Ax l).drop 1).getD k []=((l.drop 1).getD k Sl.z).2:=by
 have e:(Ax l).drop 1=Ax (l.drop 1):=by unfold Ax;rw [List.map_drop]
 rw [e,Fh (by rw [List.length_drop];exact hk)]
theorem MA(hk:k<l.length-1)(h:G ((l.drop 1).getD k Sl.z).2<(C7 G (Ax l) k).2):C7 G (Ax l) (k+1)=(((l.drop 1).getD k Sl.z).2,G ((l.drop 1).getD k Sl.z).2):=by
 rw [C7,N8 hk,if_pos h]
theorem MB(hk:k<l.length-1)(h:¬G ((l.drop 1).getD k Sl.z).2<(C7 G (Ax l) k).2):C7 G (Ax l) (k+1)=C7 G (Ax l) k:=by
 rw [C7,N8 hk,if_neg h]
theorem VL(hk:k=l.length-1):Cp G (Ax l)=(C7 G (Ax l) k).1:=by unfold Cp;rw [W4,hk]
end
theorem N9{G:List Int->Int}{l:List (List Int)}:∀k,k<l.length->(C7 G l k).1 ∈ l
 | 0,h=>BX h
 | k+1,h=>by
  unfold C7;split
  ·exact List.mem_of_mem_drop (BX (by rw [List.length_drop];omega))
  ·exact N9 k aA
theorem W5{G:List Int->Int}{l:List (List Int)}(h:0<l.length):Cp G l ∈ l:=N9 _ aA
theorem Pp:∀(n k:Nat),k<n->(CE n).getD k 0=(k:Int)
 | 0,k,h=>absurd h (Nat.not_lt_zero _)
 | n+1,k,h=>by
  have hl:=Cz n;rw [CE,List.getD_eq_getElem?_getD];by_cases e:k<n
  ·rw [List.getElem?_append_left aA,<-List.getD_eq_getElem?_getD];exact Pp n k e
  ·have e2:k=n:=aA
   subst e2;rw [List.getElem?_append_right aA,hl,Nat.sub_self];rfl
theorem JE{n:Nat}{x:Int}(h:x ∈ CE n):0<=x/\x<n:=by
 obtain ⟨i,hi,e⟩:=List.mem_iff_getElem.1 h;have hl:=Cz n
 have:=Pp n i aA
 rw [List.getD_eq_getElem?_getD,List.getElem?_eq_getElem hi,Option.getD_some,e] at this;omega
theorem J1{jobs:List Int}:∀(f:Nat)(l:List Int),(∀x ∈ l,x ∈ jobs)->∀r ∈ BC jobs f l,(∀x ∈ r,x ∈ jobs)/\r.length<=l.length+f
 | 0,l,h,r,hr=>by
  rw [BC,List.mem_singleton] at hr;subst hr;exact ⟨h,Nat.le_refl _⟩
 | f+1,l,h,r,hr=>by
  rw [BC,List.mem_cons] at hr;rcases hr with rfl | hr
  ·exact ⟨h,aA⟩
  ·obtain ⟨k,hk,hr⟩:=List.mem_flatMap.1 hr;split at hr
   ·cases hr
   ·have:=J1 f (l++[k]) (λx hx=>by
     rcases List.mem_append.1 hx with hx | hx
     ·exact h x hx
     ·rw [List.mem_singleton.1 hx];exact hk) r hr
    refine ⟨this.1,?_⟩;have e:=this.2;rw [List.length_append,List.length_singleton] at e;omega
theorem T9{jobs r:List Int}(h:r ∈ C0 jobs):(∀x ∈ r,x ∈ jobs)/\r.length<=jobs.length:=by
 have:=J1 jobs.length [] (λx hx=>by cases hx) r h
 simpa using this
def UA(nj:Nat)(l:List Int):Prop:=(∀k,k<l.length->0<=l.getD k 0/\l.getD k 0<nj)/\l.length<=4
theorem J2{n:Nat}{jobs r:List Int}(hj:∀x ∈ jobs,0<=x/\x<(n:Int))(hl:jobs.length<=4)(h:r ∈ C0 jobs):UA n r:=by
 obtain ⟨h1,h2⟩:=T9 h;exact ⟨λk hk=>hj _ (h1 _ (BX hk)),aA⟩
theorem J3{jobs:List Int}(hj:jobs.length<=4):∀(f:Nat)(l:List Int),f<=4->(BC jobs f l).length<=5 ^ f*1
 | 0,l,_=>Nat.le_refl _
 | f+1,l,hf=>by
  have key:∀js:List Int,(js.flatMap λk=>if Ha l k=true then [] else BC jobs f (l++[k])).length<=js.length*5 ^ f:=by
   intro js
   induction js with
   | nil=>simp
   | cons j js ih=>
    rw [List.flatMap_cons,List.length_append,List.length_cons,Nat.add_mul,Nat.one_mul,Nat.add_comm];refine Nat.add_le_add ih ?_;split
    ·exact Nat.zero_le _
    ·have:=J3 hj f (l++[j]) aA;omega
  rw [BC,List.length_cons];have h1:=key jobs;have h2:jobs.length*5 ^ f<=4*5 ^ f:=Nat.mul_le_mul_right _ hj;have h3:1<=5 ^ f:=Nat.one_le_pow _ _ aC;rw [Nat.pow_succ];omega
theorem Hb{jobs:List Int}(hj:jobs.length<=4):(C0 jobs).length<=625:=by
 have h:=J3 hj jobs.length [] hj;have h2:5 ^ jobs.length<=5 ^ 4:=Nat.pow_le_pow_right aC hj;unfold C0;omega
end Go.Ns
namespace Go.Ns
open Go.Conc
section
variable {P:Program} {M:Type} {F:Mn P M} {i:Option (Cf M)} {O:Nat->Value} {ds:List Deferred} {h:GH} {Q:PS M}
theorem trI_td{id:Nat}{l:List Oper}(n:Nat)(fl:Bool)(π:List Nat)(hm:P.follows .mixedOrders=true)
  (ok:PC l (l.take n) 0 [] (λcls=>PD P F.N l n cls fl (dK π))=true) (x:TD (F.env i) l n fl h ds (λ_ _ _=>True) (λσ' h'=>GU F l.toArray (l.drop n) i σ' ds h' Q) (dK π) O h):OV F (.region id l.toArray true) i O ds h Q:=by
 obtain ⟨cls,h1⟩:=Hs ok;intro b k cs L t hb hr hl hs hq;exact Yr (E:=F.env i) n cls fl (dK π) hm (λ_ _ _ _ _ y=>y) trivial h1 x hb hr hs λσ' h' f t' ht'=>f n b k cs L t' (λj=>aD) hb hr hl ht' hq
def JF(P:Program):Frame:={ (default:Frame) with fn:=P.funcs.size,defers:=[],mode:=.panicking [goexitEntry] }
theorem quit_bot:QuitsIn P 1 (G (JF P) []):=.inr ⟨rfl,{ G (JF P) [] with status:=.finished },λw=>by
 show unwind P false (JF P) [] none w=_;have hcat:(JF P).catches P=false:=by
  unfold Frame.catches
  have:P.funcs[(JF P).fn]? =none:=Array.getElem?_eq_none (Nat.le_refl _)
  rw [this];rfl
 have hd:(JF P).defers=[]:=rfl;have hmd:(JF P).mode=.panicking [goexitEntry]:=rfl;unfold unwind;simp only [hd,hmd,hcat]
 rfl,rfl⟩
theorem VM{fn:Func}{f:FuncId}{args:Array Value}{t:Array Value}{ops:Array Oper}(hf:P.funcs[f]? =some fn)(hres:fn.results=#[]):QuitsIn P 4 (G (Ca (Frame.enter P f args .deferred) t [] [.inRegion ops []]) [JF P]):=by
 refine .inr ⟨rfl,G (Ca (Frame.enter P f args .deferred) t [] []) [JF P],λw=>by rw [Ay];simp [stepG.exec,Ca,G],?_⟩;refine .inr ⟨rfl,G (EX (Frame.enter P f args .deferred) t [] []) [JF P],λw=>by rw [Ay];simp [stepG.exec,Ca,EX,G,Frame.enter],?_⟩;refine .inr ⟨rfl,G (JF P) [],λw=>?_,quit_bot⟩;show unwind P false (EX (Frame.enter P f args .deferred) t [] []) [JF P] none w=_;have hfn:(EX (Frame.enter P f args .deferred) t [] []).fn=f:=rfl;have hk:(EX (Frame.enter P f args .deferred) t [] []).kind=.deferred:=rfl;have hmd:(EX (Frame.enter P f args .deferred) t [] []).mode=.returning:=rfl;have hd:(EX (Frame.enter P f args .deferred) t [] []).defers=[]:=rfl;have r1:∀t,(results fn t).runT P w #[]=(.ok (.tuple #[]) w,#[]):=λt=>by
  unfold results;rw [hres];simp only [Array.mapM_empty];rfl
 unfold unwind;simp only [hd,hmd,hfn,hf,r1,GStep.after,doReturn,hk,seen_none];rfl
def JG(F:Mn P M)(R:Code)(args:Array Value)(i:Option (Cf M))(O:Nat->Value)(h:GH):Prop:=∀t,BU t F.N O->(F.wk i).K (G (Ca (Frame.enter P F.fn args .deferred) t [] [.code R]) [JF P]) h
theorem M1{fn:Func}{c R:Code}{s:Cf M}{ars cap args:Array Value}(hm:F.main=false)(hrd:F.rd=none)(ha:ars++cap=args)(hf:P.funcs[F.fn]? =some fn)(hc:AM fn=true)(hb:fn.body=some (.seq c R))(hN:F.N=fn.ntmps)(hsz:args.size<=fn.ntmps)(hs:¬s.isDone)
  (x:OV F c (some s) (λi=>args.getD i undef) [] h λi e O ds h=>e=.normal/\ds=[]/\JG F R args i O h):FJ P F.Rep F.W.K s false (born P { target:=.fn (.func F.fn) cap,args:=ars }) h:=by
 have hwk:∀s,(F.wk (some s)).K=EC P false (IQ P F.Rep F.W.K s false):=λs=>by show EC P F.main (IQ P F.Rep F.W.K s F.main)=_;rw [hm]
 rw [G2 hs];refine LZ _ _ _ _ rfl λw f=>⟨G (Frame.enter P F.fn args .deferred) [JF P],w,#[],h,?_,Be.refl f,?_⟩
 ·subst ha;have hi:(invoke (.fn (.func F.fn) cap) ars).runT P w #[]=(.ok (.enter F.fn (ars++cap)) w,#[]):=Tv hf hc w;show callDeferred P (JF P) [] none { target:=.fn (.func F.fn) cap,args:=ars } w=_;unfold callDeferred;rw [if_neg aD];simp only [hi,seen_none];rfl
 have e0:Frame.enter P F.fn args .deferred=Ca (Frame.enter P F.fn args .deferred) (args++Array.replicate (fn.ntmps-args.size) undef) [] [.code (.seq c R)]:=by simp [Frame.enter,Ca,hf,hb]
 rw [e0,<-hwk s];refine Wk.go (Ca (Frame.enter P F.fn args .deferred) (args++Array.replicate (fn.ntmps-args.size) undef) [] (.code c ::.code R ::[])) (λw=>by rw [Ay];simp [stepG.exec,Ca,G]) ?_;refine x (Frame.enter P F.fn args .deferred) [.code R] [JF P] (λ_ _ _ _ _=>False) _ rfl hrd.symm (λi=>⟨λ_ _ _ q=>q.elim,λ_ _ _ _ q=>q.elim,λ_ _ _ _ _ _ q=>q.elim⟩) ⟨by rw [hN];simp;omega,λi=>?_⟩ ?_
 ·by_cases hi:i<args.size
  ·simp [Array.getD_eq_getD_getElem?,Array.getElem?_append_left hi]
  ·simp only [Array.getD_eq_getD_getElem?];rw [Array.getElem?_append_right aA,Array.getElem?_eq_none (show args.size<=i by omega),Array.getElem?_replicate];split <;> rfl
 ·rintro i e O ds h' ⟨rfl,rfl,z⟩ t' ht';exact z t' ht'
theorem Zw{fn:Func}{id:Nat}{o1 o2:Oper}{args:Array Value}{c:Nat}{m:M}{v z:Value}{hm:GH}{h1:GH}(hmn:F.main=false)(hrd:F.rd=none)(hf:P.funcs[F.fn]? =some fn)(hres:fn.results=#[])
  (hg1:o1.guard=none) (hd1:Cr o1.dst F.N=true) (hg2:o2.guard=none) (hdf1:Cv o1.op=false) (hdf:Cv o2.op=false) (hd2:Cr o2.dst F.N=true)
  (x:BR (F.env (some (.send c m .done))) o1 O [] h λσ' ds' h'=>ds'=[]/\(∀w,(execOp (AN σ') o2).runT P w #[]=(.ok (.comm #[scase c v z] true .send) w,#[]))/\GH.Split h' h1 hm/\F.Rep c m v hm) :
  JG F (.region id [o1,o2].toArray false) args (some (.send c m .done)) O h:=by
 intro t hs;refine Wk.go (Ca (Frame.enter P F.fn args .deferred) t [] (.inRegion [o1,o2].toArray [0,1] ::[])) (λw=>by rw [Ay];simp [stepG.exec,Ca,G,List.range_eq_range',Array.range];rfl) ?_;refine KO (E:=F.env (some (.send c m .done))) (o:=o1) (rest:=[1]) rfl (by simp [Region.wanted,hg1]) (.inr hdf1) hd1 hs x ?_;rintro σ' ds' h' ⟨rfl,hr,hsp,hrep⟩ t' ht';refine EC.stop ⟨_,[JF P],v,z,hm,h1,rfl,⟨λw fw=>?_,hsp,hrep,4,?_⟩⟩
 ·rw [hmn];exact Tt ht' rfl (by simp [Region.wanted,hg2]) (.inr hdf) (hr w)
 ·rw [Cw (ops:=[o1,o2].toArray) (i:=1) (o:=o2) rfl];exact VM hf hres
theorem Zx{dst:Option Nat}{x:Operand}{tys:Array TypeId}{ty:TypeId}{pos:String}{af:Array Edge}{gd:Option (Nat×Bool)}{ch s r:Nat}{w:World}(hx:AN O x=.chan (some ch))(hw:w.heap[ch]? =some (.chan 0 #[] false s r false)) :
  (execOp (AN O) ⟨dst,.call ⟨.builtin .close,#[x],tys⟩,ty,pos,af,gd⟩).runT P w #[]=(.ok (.value (.tuple #[])) { w with heap:=w.heap.setIfInBounds ch (.chan 0 #[] true s r false) },#[⟨.obj ch,false,true⟩,⟨.obj ch,true,true⟩]):=by
 have q:execOp (AN O) ⟨dst,.call ⟨.builtin .close,#[x],tys⟩,ty,pos,af,gd⟩=builtin .close tys ty (#[x].map fun | .const _=>true | _=>false) (#[x].map (AN O)):=by
  show (resolve (AN O) _ ty).bind _=_;unfold resolve;rfl
 have e:(#[x].map (AN O))=#[Value.chan (some ch)]:=by simp [hx]
 rw [q,e];show Sem.runT P (.getObj ch λo=>_) w #[]=_;unfold Sem.runT;rw [hw];show Sem.runT P (.setObj ch (.chan 0 #[] true s r false) _) w _=_;unfold Sem.runT;rw [hw];rfl
theorem Pq{fn:Func}{id:Nat}{o1:Oper}{dst:Option Nat}{xo:Operand}{tys:Array TypeId}{ty:TypeId}{pos:String}{af:Array Edge}{args:Array Value}{c:Nat}(hmn:F.main=false)(hf:P.funcs[F.fn]? =some fn)(hres:fn.results=#[])
  (hg1:o1.guard=none) (hd1:Cr o1.dst F.N=true) (hdf1:Cv o1.op=false)
  (x:BR (F.env (some (.close c .done))) o1 O [] h λσ' ds' _=>ds'=[]/\AN σ' xo=.chan (some c)) :
  JG F (.region id [o1,⟨dst,.call ⟨.builtin .close,#[xo],tys⟩,ty,pos,af,none⟩].toArray false) args (some (.close c .done)) O h:=by
 intro t hs;refine Wk.go (Ca (Frame.enter P F.fn args .deferred) t [] (.inRegion [o1,⟨dst,.call ⟨.builtin .close,#[xo],tys⟩,ty,pos,af,none⟩].toArray [0,1] ::[])) (λw=>by rw [Ay];simp [stepG.exec,Ca,G,List.range_eq_range',Array.range];rfl) ?_;refine KO (E:=F.env (some (.close c .done))) (o:=o1) (rest:=[1]) rfl (by simp [Region.wanted,hg1]) (.inr hdf1) hd1 hs x ?_;rintro σ' ds' h' ⟨rfl,hx⟩ t' ht';refine EC.stop ⟨_,[JF P],Ca (Frame.enter P F.fn args .deferred) (WP t' dst (.tuple #[])) [] [.inRegion [o1,⟨dst,.call ⟨.builtin .close,#[xo],tys⟩,ty,pos,af,none⟩].toArray []],[JF P],rfl,⟨λw s r fw hw=>?_,rfl,4,VM hf hres⟩⟩;rw [hmn,PT ht' (ops:=[o1,⟨dst,.call ⟨.builtin .close,#[xo],tys⟩,ty,pos,af,none⟩].toArray) (n:=1) (o:=⟨dst,.call ⟨.builtin .close,#[xo],tys⟩,ty,pos,af,none⟩) rfl (by simp [Region.wanted]) (.inr rfl)];simp only [stepG.apply,Zx hx hw,if_true];have hk:((Ca (Frame.enter P F.fn args .deferred) t' [] [.inRegion [o1,⟨dst,.call ⟨.builtin .close,#[xo],tys⟩,ty,pos,af,none⟩].toArray [1]]).kind==CallKind.early)=false:=rfl;rw [Cw (ops:=[o1,⟨dst,.call ⟨.builtin .close,#[xo],tys⟩,ty,pos,af,none⟩].toArray) (i:=1) rfl];simp only [hk,Bool.false_eq_true,if_false];show GStep.go _ _ (seen P _ _++ #[])=_;rw [Wi];rfl
end
end Go.Ns
namespace Go.Ns
open Go.Conc
theorem Bv.at{h:GH}{t:TypeId}{l:List Sl}(a:Bv h t l){x:Sl}(hx:x ∈ l):B9 h t x.1 x.2:=by
 obtain ⟨i,hi,e⟩:=List.mem_iff_getElem.1 hx;have z:=a i;rw [List.getD_eq_getElem?_getD,List.getElem?_eq_getElem hi] at z;have z2:B9 h t l[i].1 l[i].2:=z;rw [<-e];exact z2
theorem Bv.of{h:GH}{t:TypeId}{l:List Sl}(a:∀x ∈ l,B9 h t x.1 x.2):Bv h t l:=λk=>by
 by_cases hk:k<l.length
 ·exact a _ (BX hk)
 ·rw [Bf aA];exact B9.nil _ _
theorem Bv.grown{V:Type}{h h' h0:GH}{v v':Value}{t t':TypeId}{n:Nat}{enc:V->Array Value}{ys:List V}(g:GX h h' v v')(o:AO h0 h v t' n enc ys)(ne:t'≠t){l:List Sl}(x:Bv h t l):Bv h' t l:=λk=>(x k).grown g o ne
theorem Bv.store{h h':GH}{t t':TypeId}{l:List Sl}{r:Nat}{p:Bool}{c:Array Value}{f:Nat×Nat}(x:Bv h t l)(hr:h r=some (p,.cells c t' f))(ne:t'≠t)(ho:∀b,b≠r->h' b=h b):Bv h' t l:=λk=>(x k).store hr ne ho
theorem B9.storeL{h h':GH}{t:TypeId}{w:Value}{xs:List Int}{r:Nat}{p:Bool}{lo:Loop}(x:B9 h t w xs)(hr:h r=some (p,.loop lo))(ho:∀b,b≠r->h' b=h b):B9 h' t w xs:=
 x.same λb hb=>ho b λe=>by
  obtain ⟨p2,c2,f2,q⟩:=x.2 b hb;rw [e,hr] at q;cases q
def Sa(hB:GH)(r:Nat)(T t t0:TypeId)(F:List Int->Bool)(pre:List (List Int))(Y:Nat->Prop)(h:GH):Prop:=
 ∃w l',h r=some (true,.cells #[w] T (0,0))/\AO hB h w t 1 Jf l'/\An w r/\hB r=none/\Ax l'=pre.filter F/\Bv h t0 l'/\∀b,Y b↔b=r\/CM w=some b\/∃x ∈ l',CM x.1=some b
section
variable {hB h h' ha hb:GH} {r:Nat} {T t t0:TypeId} {F:List Int->Bool} {pre:List (List Int)} {p:List Int} {w w' v:Value} {Y:Nat->Prop} {l':List Sl}
theorem Pr(hB:GH)(r:Nat)(T t t0:TypeId)(F:List Int->Bool):GT hB (Sa hB r T t t0 F):=by
 refine ⟨?_,?_⟩
 ·rintro pre Y h b ⟨w,l',h1,h2,h3,h0,h5,h6,h4⟩ hb;rcases (h4 b).1 hb with rfl | h7 | ⟨x,hx,h7⟩
  ·exact ⟨_,_,h1,rfl⟩
  ·obtain ⟨c,hc⟩:=h2.cellsAt b h7;exact ⟨_,_,hc,rfl⟩
  ·obtain ⟨q,c,f,hc⟩:=(h6.at hx).2 b h7;exact ⟨_,_,hc,rfl⟩
 ·rintro pre Y h h' ⟨w,l',h1,h2,h3,h0,h5,h6,h4⟩ same lB;refine ⟨w,l',by rw [same r ((h4 r).2 (.inl rfl))];exact h1,h2.keep λb o hb ho=>by rw [same b ((h4 b).2 (.inr (.inl hb)))];exact ho,h3,h0,h5,.of λx hx=>(h6.at hx).same λb hb=>same b ((h4 b).2 (.inr (.inr ⟨x,hx,hb⟩))),h4⟩
theorem OA(x:h r=some (true,.cells #[.slice none 0 0] T (0,0)))(h0:hB r=none):Sa hB r T t t0 F [] (λb=>b=r) h:=
 ⟨_,[],x,AO.nil _ _ _ _ _,An.nil,h0,rfl,Bv.nil _ _,λ_=>⟨.inl,λq=>q.elim id λe=>e.elim (λe=>by cases e) λ⟨_,e,_⟩=>by cases e⟩⟩
theorem Sb(hY:∀b,Y b↔b=r\/CM w=some b\/∃x ∈ l',CM x.1=some b)(g:GX ha hb w w')(hn:∀q,ha q=none->h q=none)(x:h' r=some (true,.cells #[w'] T (0,0)))(o:AO hB h' w' t 1 Jf (l'++[(v,p)]))(f:An w' r)(h0:hB r=none)
  (hl:Ax l'=pre.filter F) (hp:F p=true) (ta:Bv h' t0 (l'++[(v,p)])):∃Y',(∀b,Y' b->(Y b\/CM v=some b)\/h b=none)/\Sa hB r T t t0 F (pre++[p]) Y' h':=by
 refine ⟨λb=>b=r\/CM w'=some b\/∃x ∈ l'++[(v,p)],CM x.1=some b,?_,w',_,x,o,f,h0,?_,ta,λ_=>Iff.rfl⟩
 ·rintro b (rfl | hb | ⟨y,hy,hb⟩)
  ·exact .inl (.inl ((hY _).2 (.inl rfl)))
  ·rcases g.2 with e | ⟨⟨q,e1,e2⟩,_⟩
   ·exact .inl (.inl ((hY _).2 (.inr (.inl (by rw [<-e];exact hb)))))
   ·rw [e1] at hb;cases hb;exact .inr (hn _ e2)
  ·rcases List.mem_append.1 hy with hy | hy
   ·exact .inl (.inl ((hY _).2 (.inr (.inr ⟨y,hy,hb⟩))))
   ·rw [List.mem_singleton.1 hy] at hb;exact .inl (.inr hb)
 ·rw [M0,hl,List.filter_append];simp [Ax,hp]
theorem W6(hY:∀b,Y b↔b=r\/CM w=some b\/∃x ∈ l',CM x.1=some b)(x:h' r=some (true,.cells #[w] T (0,0)))(o:AO hB h' w t 1 Jf l')(f:An w r)(h0:hB r=none)(hl:Ax l'=pre.filter F)(hp:F p=false)(ta:Bv h' t0 l') :
  ∃Y',(∀b,Y' b->(Y b\/CM v=some b)\/h b=none)/\Sa hB r T t t0 F (pre++[p]) Y' h':=
 ⟨Y,λ_ q=>.inl (.inl q),w,l',x,o,f,h0,by rw [hl,List.filter_append];simp [hp],ta,hY⟩
end
def tVal:Dc->Value
 | .job i=>.int .i64 i
 | .res i b=>.agg #[.int .i64 i,.bool b]
 | .tick=>.bool true
def tOK(n:Nat):Dc->Prop
 | .job i=>i<n
 | .res i _=>i<n
 | .tick=>True
def OW(n:Nat):Nat->Dc->Value->GH->Prop:=λ_ m v hm=>v=tVal m/\tOK n m/\hm=λ_=>none
theorem GH.split_none(h:GH):GH.Split h h (λ_=>none) where
 left:=λb p o hb=>⟨p,hb,id⟩
 right:=λb p o hb=>by cases hb
 one:=λ_ _ _ _ hb=>by cases hb
 two:=λ_ _ _ hb _=>by cases hb
section
variable {cj co cd n k:Nat} {ok:Nat->Bool}
theorem Zy(h:k<n):some (HL cj (n-k) k)=some (.send cj (.job k) (HL cj (n-(k+1)) (k+1))):=by
 rw [show n-k=(n-(k+1))+1 by omega];rfl
theorem feed_end(h:n<=k):some (HL cj (n-k) k)=some (.close cj .done):=by rw [show n-k=0 by omega];rfl
theorem VN:∀m k,¬(HL cj m k).isDone
 | 0,_=>id
 | _+1,_=>id
theorem VO:∀m,¬(FQ cj co cd ok m).isDone
 | 0=>id
 | _+1=>id
theorem Zz{m:Nat}:∀o,¬(U5 co cd ok (FQ cj co cd ok m) o).isDone
 | none=>id
 | some (.job _)=>id
 | some (.res _ _)=>id
 | some .tick=>id
theorem Sd:∀t,¬(D7 co cd t).isDone
 | 0=>id
 | _+1=>id
theorem W7{t:Nat}:∀o,¬(Mp (D7 co cd t) o).isDone
 | none=>id
 | some (.job _)=>id
 | some (.res _ _)=>id
 | some .tick=>Sd t
theorem VP:∀m R,¬(FR co ok m R).isDone
 | 0,_=>id
 | _+1,_=>id
theorem Y4{c:Prop}[Decidable c]{a b:Cf Dc}(ha:¬a.isDone)(hb:¬b.isDone):¬(if c then a else b).isDone:=by split <;> assumption
theorem Z0{m:Nat}{R:List Nat}:∀o,¬(IF ok R (FR co ok m) o).isDone
 | none=>Y4 id id
 | some (.job _)=>id
 | some .tick=>id
 | some (.res _ _)=>Y4 (VP _ _) id
theorem VQ:∀m,¬(Hy cj co cd n ok m).isDone
 | 0=>id
 | _+1=>id
theorem W8(h:k<3):some (D7 co cd (3-k))=some (.recv cd (Mp (D7 co cd (3-(k+1))))):=by
 rw [show 3-k=(3-(k+1))+1 by omega];rfl
theorem Z1(h:3<=k):some (D7 co cd (3-k))=some (.close co .done):=by rw [show 3-k=0 by omega];rfl
theorem Z2(h:k<3):some (Hy cj co cd n ok (3-k))=some (.spawn (FQ cj co cd ok (n+1)) (Hy cj co cd n ok (3-(k+1)))):=by
 rw [show 3-k=(3-(k+1))+1 by omega];rfl
theorem crew_end(h:3<=k):some (Hy cj co cd n ok (3-k))=some (.spawn (D7 co cd 3) (FR co ok (n+1) (List.range n))):=by rw [show 3-k=0 by omega];rfl
end
def UB(n:Nat)(ok:Nat->Bool)(R:List Nat):List Bool:=(List.range n).map λi=>if i ∈ R then false else ok i
theorem Y5(n:Nat)(ok:Nat->Bool)(R:List Nat):(UB n ok R).length=n:=by unfold UB;rw [List.length_map,List.length_range]
theorem Z3(n:Nat)(ok:Nat->Bool):UB n ok (List.range n)=List.replicate n false:=by
 unfold UB;refine List.ext_getElem aD λi h1 h2=>?_
 have:i<n:=by simpa using h1
 simp [this]
theorem isL_put{n i:Nat}{ok:Nat->Bool}{R:List Nat}(hR:R.Nodup):(UB n ok R).set i (ok i)=UB n ok (R.erase i):=by
 unfold UB;refine List.ext_getElem aD λj h1 h2=>?_;rw [List.getElem_set];simp only [List.getElem_map,List.getElem_range,List.Nodup.mem_erase_iff hR];by_cases e:i=j
 ·subst e;simp
 ·rw [if_neg e]
  have:j≠i:=λq=>e q.symm
  simp [this]
theorem Y6{n:Nat}{ok:Nat->Bool}{k:Nat}(hk:k<n):(UB n ok []).getD k false=ok k:=by
 unfold UB;rw [List.getD_eq_getElem?_getD,List.getElem?_map,List.getElem?_range hk];simp
def JH(fl:List Sl)(ok:Nat->Bool):Nat->List Sl
 | 0=>[]
 | k+1=>if ok k=true then JH fl ok k++[fl.getD k Sl.z] else JH fl ok k
theorem selS_t{fl:List Sl}{ok:Nat->Bool}{k:Nat}(h:ok k=true):JH fl ok (k+1)=JH fl ok k++[fl.getD k Sl.z]:=if_pos h
theorem selS_f{fl:List Sl}{ok:Nat->Bool}{k:Nat}(h:ok k=false):JH fl ok (k+1)=JH fl ok k:=if_neg (by rw [h];simp)
theorem VR(fl:List Sl)(ok:Nat->Bool):∀k,(JH fl ok k).length<=k
 | 0=>Nat.le_refl _
 | k+1=>by
  have:=VR fl ok k
  unfold JH;split
  ·rw [List.length_append,List.length_singleton];omega
  ·omega
theorem Ps{fl:List Sl}{G:List Int->Bool}:∀k,k<=fl.length->Ax (JH fl (λi=>G (fl.getD i Sl.z).2) k)=((Ax fl).take k).filter G
 | 0,_=>rfl
 | k+1,h=>by
  have ih:=Ps (fl:=fl) (G:=G) k aA;have e:(Ax fl).take (k+1)=(Ax fl).take k++[(fl.getD k Sl.z).2]:=by rw [D6 [] (by rw [B7];omega),Fh (l:=fl) aA]
  unfold JH;rw [e,List.filter_append];by_cases q:G (fl.getD k Sl.z).2=true
  ·rw [if_pos q,M0,ih,List.filter_cons_of_pos q];rfl
  ·rw [if_neg q,ih,List.filter_cons_of_neg q,List.filter_nil,List.append_nil]
end Go.Ns
namespace Go.Ns
open Go.Conc
section
variable {P:Program} {M:Type} {F:Mn P M} {i i':Option (Cf M)} {O:Nat->Value} {ds:List Deferred} {h:GH} {Q:PS M}
theorem trI_ix{c:Code}(e:i=i')(x:OV F c i' O ds h Q):OV F c i O ds h Q:=e▸x
theorem JI{ops:Array Oper}{l:List Oper}(e:i=i')(x:GU F ops l i' O ds h Q):GU F ops l i O ds h Q:=e▸x
theorem Z4{c:Code}{Q:Post}(x:OV F c none O ds h λi e O ds h=>i=none/\Q e O ds h):Tr ⟨F.W,F.fn,F.rd,F.N⟩ c O ds h Q:=by
 intro b k cs L t hb hr hl hs hc;refine x b k cs (λi=>match i with | none=>L | some _=>λ_ _ _ _=>False) t hb hr (λi=>?_) hs λi e σ' ds' h' q t' ht'=>?_
 ·cases i with
  | none=>exact hl
  | some s=>exact ⟨λ_ _ _ x=>x.elim,λ_ _ _ _ x=>x.elim,λ_ _ _ _ _ _ x=>x.elim⟩
 ·obtain ⟨rfl,q⟩:=q;exact hc e σ' ds' h' q t' ht'
theorem trI_end{c:Code}{Q:Post}(x:Tr (F.env none) c O ds h Q):OV F c none O ds h λi e O ds h=>i=none/\Q e O ds h:=
 Ii (KN (λ_ _ _ _ q=>⟨rfl,q⟩) x)
variable {dst:Option Nat} {ty:TypeId} {pos:String} {af:Array Edge} {gd:Option (Nat×Bool)}
theorem Pu{a x:Operand}{c:Nat}{v:Value}(ha:AN O a=.chan (some c))(hx:AN O x=v)(w:World):(execOp (AN O) ⟨dst,.send a x,ty,pos,af,gd⟩).runT P w #[]=(.ok (.comm #[scase c v (.tuple #[])] true .send) w,#[]):=by
 subst hx;show (Result.ok (Next.comm #[{ chan:=AN O a,send:=some (AN O x),zero:=.tuple #[] }] true .send) w,#[])=_;rw [ha];rfl
theorem run_recv{a:Operand}{c:Nat}{t e:TypeId}{d:ChanDir}{ok:Bool}{z:Value}{inf:TypeInfo}(ht:P.underlying t=some (.chan d e))(hi:P.info? e=some inf)(hz:inf.zero=some z)(ha:AN O a=.chan (some c))(w:World) :
  (execOp (AN O) ⟨dst,.recv t a ok,ty,pos,af,gd⟩).runT P w #[]=(.ok (.comm #[rcase c z] true (.recv ok)) w,#[]):=by
 have h1:(zeroValue e).run P w=.ok z w:=by
  unfold zeroValue typeInfo;simp only [Sem.run_bind,program,hi];simp [Sem.run,hi,hz]
 have h2:(underlying t).run P w=.ok (.chan d e) w:=run_underlying ht w;rw [Sem.runT_eq];unfold execOp;simp [h1,h2,ha,rcase]
theorem M3{a:Operand}{c:Nat}{t e:TypeId}{d:ChanDir}{ok:Bool}{z:Value}(ht:P.underlying t=some (.chan d e))(hz:(P.info? e).map (·.zero)=some (some z))(ha:AN O a=.chan (some c))(w:World) :
  (execOp (AN O) ⟨dst,.recv t a ok,ty,pos,af,gd⟩).runT P w #[]=(.ok (.comm #[rcase c z] true (.recv ok)) w,#[]):=by
 obtain ⟨inf,hi,h2⟩:=Option.map_eq_some_iff.1 hz;exact run_recv ht hi h2 ha w
theorem W9{x:Operand}{f:Fn}{cap:Array Value}{tys:Array TypeId}(hx:AN O x=.func f #[] cap)(w:World):(execOp (AN O) ⟨dst,.go ⟨.value x,#[],tys⟩,ty,pos,af,gd⟩).runT P w #[]=(.ok (.spawn { target:=.fn f cap,args:=#[] }) w,#[]):=by
 have e:resolve (AN O) ⟨.value x,#[],tys⟩ ty=(pure { target:=.fn f cap,args:=#[] }:Sem Deferred):=by
  unfold resolve;simp only [hx,Deferred.ofValue];simp
 unfold execOp;simp only [e];rfl
variable {E:GW P} {T:(Nat->Value)->List Deferred->GH->Prop}
theorem J4{t e:TypeId}{d:ChanDir}{n:Operand}(ht:P.underlying t=some (.chan d e))(hi0:(P.info? e).isSome=true)(hn:AN O n=.int .i64 0)
  (k:∀r h',h r=none->h.Le h'->h' r=some (true,.chan 0 #[] false 0 0 false)->(∀b,b≠r->h' b=h b)->T (putS O dst (.chan (some r))) ds h'):BR E ⟨dst,.makeChan t n,ty,pos,af,gd⟩ O ds h T:=by
 unfold BR execOp;refine F2 ?_;unfold Instr.makeChan;rw [hn];refine AE _ _ (Ap ?_);refine AE _ _ (Ai ht ?_);simp only [];obtain ⟨inf,hi⟩:=Option.isSome_iff_exists.1 hi0;refine AE _ _ (Cd hi ?_);rw [if_neg (by simp [IntKind.max];decide)];refine AE _ _ ?_;exact λr hr=>k r _ hr (GH.Le.new hr _ _) (GH.set_same _ _ _ _) λb hb=>GH.set_ne _ _ _ hb
end
section
variable {P:Program} {F:Mn P Dc} {i i':Option (Cf Dc)} {O:Nat->Value} {ds:List Deferred} {h:GH} {Q:PS Dc} {ops:Array Oper} {o:Oper} {l:List Oper} {n:Nat} {cj co cd c m k:Nat} {ok:Nat->Bool} {R:List Nat} {z:Value}
theorem JG.ix{X:Code}{args:Array Value}(e:i=i')(x:JG F X args i' O h):JG F X args i O h:=e▸x
theorem Hc:GU F ops l (some .never) O ds h Q:=λ_ _ _ _ _ _ _ _ _ _ _ _=>EC.stop rfl
theorem GH.join_none(h:GH):h.join (λ_=>none)=h:=by
 funext b;unfold GH.join;cases h b <;> rfl
theorem VS{s:Dc}{nx:Cf Dc}(hR:F.Rep=OW n)(hg:o.guard=none)(hdf:Cv o.op=false)(hd:Cr o.dst F.N=true)(hr:∀w,(execOp (AN O) o).runT P w #[]=(.ok (.comm #[scase c (tVal s) z] true .send) w,#[]))(hs:tOK n s)(hnx:¬nx.isDone)
  (x:GU F ops l (some nx) (putS O o.dst undef) ds h Q):GU F ops (o ::l) (some (.send c s nx)) O ds h Q:=
 Za hg hdf hd hr (GH.split_none h) (by rw [hR];exact ⟨rfl,hs,rfl⟩) hnx x
theorem M4{f:Option Dc->Cf Dc}{r:Bool}(hR:F.Rep=OW n)(hg:o.guard=none)(hdf:Cv o.op=false)(hd:Cr o.dst F.N=true)(hr:∀w,(execOp (AN O) o).runT P w #[]=(.ok (.comm #[rcase c z] true (.recv r)) w,#[]))(hnx:∀o,¬(f o).isDone)
  (x:∀s,tOK n s->GU F ops l (some (f (some s))) (putS O o.dst (recvd r (tVal s) true)) ds h Q) (y:GU F ops l (some (f none)) (putS O o.dst (recvd r z false)) ds h Q):GU F ops (o ::l) (some (.recv c f)) O ds h Q:=
 Zb hg hdf hd hr hnx (λs v hm hrep _=>by
  rw [hR] at hrep;obtain ⟨rfl,h2,rfl⟩:=hrep;rw [GH.join_none];exact x s h2) y
theorem VT(hR:F.Rep=OW n)(hg:o.guard=none)(hdf:Cv o.op=false)(hd:Cr o.dst F.N=true)(hr:∀w,(execOp (AN O) o).runT P w #[]=(.ok (.comm #[rcase cj z] true (.recv true)) w,#[]))
  (x:∀i,i<n->GU F ops l (some (.send co (.res i (ok i)) (FQ cj co cd ok m))) (putS O o.dst (.tuple #[.int .i64 i,.bool true])) ds h Q) (y:GU F ops l (some (.send cd .tick .done)) (putS O o.dst (.tuple #[z,.bool false])) ds h Q) :
  GU F ops (o ::l) (some (FQ cj co cd ok (m+1))) O ds h Q:=
 M4 (f:=U5 co cd ok (FQ cj co cd ok m)) hR hg hdf hd hr Zz (λs hs=>by
  cases s with
  | job i=>exact x i hs
  | res i b=>exact Hc
  | tick=>exact Hc) y
theorem VU(hR:F.Rep=OW n)(hg:o.guard=none)(hdf:Cv o.op=false)(hd:Cr o.dst F.N=true)(hr:∀w,(execOp (AN O) o).runT P w #[]=(.ok (.comm #[rcase cd z] true (.recv false)) w,#[]))(hk:k<3)
  (x:GU F ops l (some (D7 co cd (3-(k+1)))) (putS O o.dst (.bool true)) ds h Q):GU F ops (o ::l) (some (D7 co cd (3-k))) O ds h Q:=
 JI (W8 hk) (M4 (f:=Mp (D7 co cd (3-(k+1)))) hR hg hdf hd hr W7 (λs _=>by
  cases s with
  | job i=>exact Hc
  | res i b=>exact Hc
  | tick=>exact x) Hc)
theorem Z5(hR:F.Rep=OW n)(hg:o.guard=none)(hdf:Cv o.op=false)(hd:Cr o.dst F.N=true)(hr:∀w,(execOp (AN O) o).runT P w #[]=(.ok (.comm #[rcase co z] true (.recv true)) w,#[]))
  (x:∀i,i<n->i ∈ R->GU F ops l (some (FR co ok m (R.erase i))) (putS O o.dst (.tuple #[.agg #[.int .i64 i,.bool (ok i)],.bool true])) ds h Q) (y:R=[]->GU F ops l (some .stop) (putS O o.dst (.tuple #[z,.bool false])) ds h Q) :
  GU F ops (o ::l) (some (FR co ok (m+1) R)) O ds h Q:=
 M4 (f:=IF ok R (FR co ok m)) hR hg hdf hd hr Z0 (λs hs=>by
  cases s with
  | job i=>exact Hc
  | tick=>exact Hc
  | res i b=>
   by_cases e:i ∈ R/\b=ok i
   ·obtain ⟨e1,rfl⟩:=e;exact JI (show some (IF ok R (FR co ok m) (some (.res i (ok i))))=some (FR co ok m (R.erase i)) by unfold IF;simp [e1]) (x i hs e1)
   ·exact JI (show some (IF ok R (FR co ok m) (some (.res i b)))=some .never by show some (if i ∈ R/\b=ok i then _ else _)=_;rw [if_neg e]) Hc) (by
  by_cases e:R=[]
  ·exact JI (show some (IF ok R (FR co ok m) none)=some .stop by unfold IF;rw [if_pos e]) (y e)
  ·exact JI (show some (IF ok R (FR co ok m) none)=some .never by unfold IF;rw [if_neg e]) Hc)
end
theorem BI.flags{h h':GH}{js:List AI}(s:h.Same h')(x:BI h js):BI h' js:=λk=>(x k).flags s
theorem Am.flags{h h':GH}{ns:List AJ}(s:h.Same h')(x:Am h ns):Am h' ns:=λk=>(x k).flags s
theorem HK.flags{h h':GH}{l:List Sl}(s:h.Same h')(a:HK h l):HK h' l:=λk=>(a k).flags s
theorem D8.flags{h h':GH}{r np:Nat}{ws:List AC}{pq:List AB}(s:h.Same h')(x:D8 h r np ws pq):D8 h' r np ws pq:=by
 obtain ⟨pm,M,⟨es,clk,hb,hl⟩,hM⟩:=x;obtain ⟨p',hb'⟩:=s _ _ _ hb;exact ⟨p',M,⟨es,clk,hb',hl⟩,hM⟩
theorem tr_lays5{P:Program}{E:GW P}{id:Nat}{a0 a1 a2 a3 a4:Oper}{rest:List Oper}{d0 d1 d2 d3:Nat}{O:Nat->Value}{ds:List Deferred}{h:GH}{Q:Post}(o0 o1 o2 o3:Obj)(o4:Nat->Obj)(v0 v1 v2 v3:Nat->Value)(hm:P.follows .mixedOrders=true)
  (ok:F5 E.N (a0 ::a1 ::a2 ::a3 ::a4 ::rest) 5 [[],[],[],[],[0,2,3]]=true)
  (g0:a0.guard=none) (g1:a1.guard=none) (g2:a2.guard=none) (g3:a3.guard=none) (g4:a4.guard=none) (e0:a0.dst=some d0) (e1:a1.dst=some d1) (e2:a2.dst=some d2) (e3:a3.dst=some d3)
  (l0:∀σ' h',BR E a0 σ' ds h' λσ'' ds'' h''=>ds''=ds/\∃r,σ''=putS σ' a0.dst (v0 r)/\h' r=none/\h'.Le h''/\h'' r=some (true,o0)) (l1:∀σ' h',BR E a1 σ' ds h' λσ'' ds'' h''=>ds''=ds/\∃r,σ''=putS σ' a1.dst (v1 r)/\h' r=none/\h'.Le h''/\h'' r=some (true,o1))
  (l2:∀σ' h',BR E a2 σ' ds h' λσ'' ds'' h''=>ds''=ds/\∃r,σ''=putS σ' a2.dst (v2 r)/\h' r=none/\h'.Le h''/\h'' r=some (true,o2)) (l3:∀σ' h',BR E a3 σ' ds h' λσ'' ds'' h''=>ds''=ds/\∃r,σ''=putS σ' a3.dst (v3 r)/\h' r=none/\h'.Le h''/\h'' r=some (true,o3))
  (l4:∀r0 r2 σ' h',σ' d0=v0 r0->σ' d2=v2 r2->h' r2=some (true,o2)->BR E a4 σ' ds h' λσ'' ds'' h''=>ds''=ds/\σ''=σ'/\h'' r2=some (true,o4 r0)/\∀b,b≠r2->h'' b=h' b)
  (fin:∀(r0 r1 r2 r3:Nat) σ' h',h.Le h'->(h r0=none/\h' r0=some (true,o0)/\σ' d0=v0 r0)->(h r1=none/\h' r1=some (true,o1)/\σ' d1=v1 r1)->(h r2=none/\h' r2=some (true,o4 r0)/\σ' d2=v2 r2)->(h r3=none/\h' r3=some (true,o3)/\σ' d3=v3 r3)->
   (r0≠r1/\r0≠r2/\r0≠r3/\r1≠r2/\r1≠r3/\r2≠r3)->(∀t,(DQ (a0 ::a1 ::a2 ::a3 ::a4 ::rest) 5).contains t=false->σ' t=O t)->DK E (a0 ::a1 ::a2 ::a3 ::a4 ::rest).toArray rest σ' ds h' Q):Tr E (.region id (a0 ::a1 ::a2 ::a3 ::a4 ::rest).toArray true) O ds h Q:=by
 let l:=a0 ::a1 ::a2 ::a3 ::a4 ::rest;let obj:Nat->Obj:=λi=>match i with | 0=>o0 | 1=>o1 | 2=>o2 | _=>o3
 let val:Nat->Nat->Value:=λi=>match i with | 0=>v0 | 1=>v1 | 2=>v2 | _=>v3
 have lay:∀i o,i<4->l[i]? =some o->∀σ' h',BR E o σ' ds h' λσ'' ds'' h''=>ds''=ds/\∃r,σ''=putS σ' o.dst (val i r)/\h' r=none/\h'.Le h''/\h'' r=some (true,obj i):=by
  intro i o hi ho σ' h';rcases i with _ | _ | _ | _ | i
  ·cases ho;exact l0 σ' h'
  ·cases ho;exact l1 σ' h'
  ·cases ho;exact l2 σ' h'
  ·cases ho;exact l3 σ' h'
  ·omega
 have nd:(DQ l 5).Nodup:=by
  have:=ok
  unfold F5 at this;simp only [Bool.and_eq_true] at this;exact of_decide_eq_true this.1.2
 refine Us 5 [[],[],[],[],[0,2,3]] (λD σ' h'=>h.Le h'/\(D 4=true->D 0=true/\D 2=true)/\∃rs:Nat->Nat,(∀i,i<4->D i=true->h (rs i)=none/\h' (rs i)=some (true,if i=2/\D 4=true then o4 (rs 0) else obj i)/\∀o d,l[i]? =some o->o.dst=some d->σ' d=val i (rs i))/\
  (∀i j,i<4->j<4->D i=true->D j=true->i≠j->rs i≠rs j)/\∀t,(DQ l 5).contains t=false->σ' t=O t) hm ok ⟨GH.Le.refl _,(λe=>by cases e),λ_=>0,(λ_ _ q=>by cases q),(λ_ _ _ _ q=>by cases q),λ_ _=>rfl⟩ ?_ ?_
 ·rintro D σ' h' i o ⟨l1',hD4,rs,h1,h2,h3⟩ hi hD ho hcl _;have hgd:o.guard=none:=by
   rcases i with _ | _ | _ | _ | _ | i
   ·cases ho;exact g0
   ·cases ho;exact g1
   ·cases ho;exact g2
   ·cases ho;exact g3
   ·cases ho;exact g4
   ·omega
  refine ⟨λ_=>?_,λq=>absurd (by unfold DG;rw [hgd];trivial) q⟩;by_cases hi4:i=4
  ·subst hi4;have c0:D 0=true:=hcl 0 aD;have c2:D 2=true:=hcl 2 aD;cases ho;obtain ⟨q1,q2,q3⟩:=h1 0 aC c0;obtain ⟨p1,p2,p3⟩:=h1 2 aC c2;rw [if_neg (λe=>by rw [hD] at e;cases e.2)] at p2;refine (l4 (rs 0) (rs 2) σ' h' (q3 a0 d0 rfl e0) (p3 a2 d2 rfl e2) p2).mono λσ'' ds'' h'' q=>?_;obtain ⟨rfl,rfl,k1,k2⟩:=q;refine ⟨rfl,λb p x hb=>?_,λ_=>⟨by rw [Bc aC];exact c0,by rw [Bc aC];exact c2⟩,rs,λj hj hDj=>?_,λa b ha hb hDa hDb hab=>?_,h3⟩
   ·rw [k2 b λe=>by subst e;rw [p1] at hb;cases hb];exact l1' b p x hb
   ·rw [Bc aA] at hDj;obtain ⟨u1,u2,u3⟩:=h1 j hj hDj;refine ⟨u1,?_,u3⟩;by_cases ej:j=2
    ·subst ej;rw [if_pos ⟨rfl,if_pos rfl⟩];exact k1
    ·rw [if_neg (λe=>ej e.1),k2 _ (h2 j 2 hj aC hDj c2 ej)];rw [if_neg (λe=>ej e.1)] at u2;exact u2
   ·rw [Bc aA] at hDa hDb;exact h2 a b ha hb hDa hDb hab
  ·have hi':i<4:=aA
   refine (lay i o hi' ho σ' h').mono λσ'' ds'' h'' q=>?_;obtain ⟨rfl,r,rfl,hr,l2',hr2⟩:=q;have h4e:HE D i 4=D 4:=Bc (λe=>hi4 e.symm);have hne:∀j,j<4->D j=true->rs j≠r:=λj hj hDj e=>by
    have:=(h1 j hj hDj).2.1
    rw [e,hr] at this;cases this
   refine ⟨rfl,l1'.trans l2',λe=>?_,λj=>if j=i then r else rs j,λj hj hDj=>?_,λa b ha hb hDa hDb hab=>?_,λt ht=>?_⟩
   ·rw [h4e] at e;obtain ⟨c0,c2⟩:=hD4 e;exact ⟨by rw [Bc (λq=>by subst q;rw [hD] at c0;cases c0)];exact c0,by rw [Bc (λq=>by subst q;rw [hD] at c2;cases c2)];exact c2⟩
   ·by_cases e:j=i
    ·subst e;dsimp only;rw [if_pos rfl];refine ⟨l1'.nothing hr,?_,λo' d ho' hd=>?_⟩
     ·rw [if_neg (λe=>by have e2:=e.2;rw [h4e] at e2;have e3:=(hD4 e2).2;rw [<-e.1,hD] at e3;cases e3)];exact hr2
     ·obtain rfl:o'=o:=Option.some.inj (ho'.symm.trans ho);rw [hd];exact upd_same _ _ _
    ·dsimp only;rw [if_neg e];rw [Bc e] at hDj;obtain ⟨q1,q2,q3⟩:=h1 j hj hDj;refine ⟨q1,?_,λo' d ho' hd=>by rw [Cl λd' hd'=>Du nd hi (aA:j<5) (λq=>e q.symm) ho ho' hd' hd];exact q3 o' d ho' hd⟩;rw [h4e];by_cases hc:j=2/\D 4=true
     ·rw [if_pos hc] at q2 ⊢;rw [if_neg (λq=>by have c0:=(hD4 hc.2).1;rw [q,hD] at c0;cases c0)];exact l2'.keep q2 rfl
     ·rw [if_neg hc] at q2 ⊢;exact l2'.keep q2 rfl
   ·show (if a=i then r else rs a)≠(if b=i then r else rs b);by_cases ea:a=i
    ·by_cases eb:b=i
     ·exact absurd (ea.trans eb.symm) hab
     ·rw [if_pos ea,if_neg eb];rw [Bc eb] at hDb;exact (hne b hb hDb).symm
    ·rw [Bc ea] at hDa;by_cases eb:b=i
     ·rw [if_neg ea,if_pos eb];exact hne a ha hDa
     ·rw [if_neg ea,if_neg eb];rw [Bc eb] at hDb;exact h2 a b ha hb hDa hDb hab
   ·rw [Cl (HR hi ho ht)];exact h3 t ht
 ·rintro D σ' h' ⟨l1',hD4,rs,h1,h2,h3⟩ hall;have A:∀i,i<5->D i=true:=hall;have f0:=h1 0 aC (A 0 aC);have f1:=h1 1 aC (A 1 aC);have f2:=h1 2 aC (A 2 aC);have f3:=h1 3 aC (A 3 aC);rw [if_neg (λe=>by have:=e.1;omega)] at f0;rw [if_neg (λe=>by have:=e.1;omega)] at f1;rw [if_pos ⟨rfl,A 4 aC⟩] at f2;rw [if_neg (λe=>by have:=e.1;omega)] at f3;have ne:=λi j (hi:i<4) (hj:j<4)=>h2 i j hi hj (A i aA) (A j aA);exact fin (rs 0) (rs 1) (rs 2) (rs 3) σ' h' l1' ⟨f0.1,f0.2.1,f0.2.2 a0 d0 rfl e0⟩ ⟨f1.1,f1.2.1,f1.2.2 a1 d1 rfl e1⟩ ⟨f2.1,f2.2.1,f2.2.2 a2 d2 rfl e2⟩ ⟨f3.1,f3.2.1,f3.2.2 a3 d3 rfl e3⟩
   ⟨ne 0 1 aC aC aC,ne 0 2 aC aC aC,ne 0 3 aC aC aC,ne 1 2 aC aC aC,ne 1 3 aC aC aC,ne 2 3 aC aC aC⟩ h3
section
variable {h h' h0:GH} {r:Nat}
theorem GH.cut_ne{b:Nat}(e:b≠r):h.cut r b=h b:=if_neg e
theorem GH.Le.cut(l:h0.Le h)(n:h0 r=none):h0.Le (h.cut r):=λb p o hb=>by
 rw [GH.cut_ne λe=>by subst e;rw [n] at hb;cases hb];exact l b p o hb
theorem AO.cut{V:Type}{v:Value}{t:TypeId}{n:Nat}{enc:V->Array Value}{xs:List V}(x:AO h0 h v t n enc xs)(f:An v r):AO h0 (h.cut r) v t n enc xs:=
 x.keep λb o hb ho=>by rw [GH.cut_ne λe=>by subst e;exact f hb];exact ho
theorem AO.del'{V:Type}{v:Value}{t:TypeId}{n:Nat}{enc:V->Array Value}{xs:List V}(x:AO h0 h v t n enc xs)(f:An v r):AO h0 (h.del r) v t n enc xs:=
 x.keep λb o hb ho=>by rw [GH.del_ne λe=>by subst e;exact f hb];exact ho
theorem B9.keep3{X:Nat->Prop}{t0 T t:TypeId}{n l:Nat}{w v:Value}{p q:Bool}{c:Array Value}{f:Nat×Nat}{lo:Loop}{ys:List Sl}{hB:GH}{ys':List Int}(x:B9 h t0 v ys')(k:Bn X h h')(hX:∀b,X b->(b=r\/CM w=some b)\/b=l)(hr:h r=some (p,.cells c T f))(ow:AO hB h w t n Jf ys)(hl:h l=some (q,.loop lo))(n1:T≠t0)(n2:t≠t0):B9 h' t0 v ys':=
 x.keepX k λb hb q2=>by
  obtain ⟨p2,c2,f2,e⟩:=x.2 b hb;rcases hX b q2 with (rfl | q3) | rfl
  ·rw [hr] at e;cases e;exact n1 rfl
  ·rcases ow with ⟨rfl,_⟩ | ⟨b1,cap,c1,rfl,_,h2,_⟩
   ·cases q3
   ·simp only [CM,Option.some.injEq] at q3;subst q3;rw [h2] at e;cases e;exact n2 rfl
  ·rw [hl] at e;cases e
theorem Bn.mono{X Y:Nat->Prop}(k:Bn X h h')(s:∀b,X b->Y b):Bn Y h h':=λb p o hb hn=>k b p o hb λx=>hn (s b x)
end
theorem Z6{n:Nat}{fl:List Sl}(h:Ax fl=C0 (CE n))(hn:n<=4)(i:Nat):UA n (fl.getD i Sl.z).2:=by
 by_cases hi:i<fl.length
 ·refine J2 (λx hx=>JE hx) (by rw [Cz];exact hn) (r:=(fl.getD i Sl.z).2) ?_;rw [<-h,<-Fh hi];exact BX (by rw [B7];exact hi)
 ·rw [Bf aA];exact ⟨λk hk=>absurd hk (Nat.not_lt_zero _),Nat.zero_le _⟩
theorem B9.storeD{h h':GH}{t:TypeId}{v:Value}{xs:List Int}{r:Nat}{p:Bool}{q:Option (List Deferred)}(x:B9 h t v xs)(hr:h r=some (p,.deferred q))(ho:∀b,b≠r->h' b=h b):B9 h' t v xs:=
 x.same λb hb=>ho b λe=>by
  obtain ⟨p2,c2,f2,z⟩:=x.2 b hb;rw [e,hr] at z;cases z
theorem Bv.storeD{h h':GH}{t:TypeId}{l:List Sl}{r:Nat}{p:Bool}{q:Option (List Deferred)}(x:Bv h t l)(hr:h r=some (p,.deferred q))(ho:∀b,b≠r->h' b=h b):Bv h' t l:=λk=>
 (x k).same λb hb=>ho b λe=>by
  obtain ⟨p2,c2,f2,z⟩:=(x k).2 b hb;rw [e,hr] at z;cases z
theorem selS_all{fl:List Sl}{G:List Int->Bool}{all:List (List Int)}{k:Nat}(h:Ax fl=all)(h1:k<=fl.length)(h2:fl.length<=k):Ax (JH fl (λi=>G (fl.getD i Sl.z).2) k)=all.filter G:=by
 rw [Ps k h1,List.take_of_length_le (by rw [B7];exact h2),h]
theorem Bv.sel{h:GH}{t:TypeId}{fl:List Sl}{ok:Nat->Bool}{k:Nat}(a:Bv h t fl):Bv h t (JH fl ok k):=by
 induction k with
 | zero=>exact Bv.nil h t
 | succ k ih=>
  unfold JH;split
  ·exact Bv.app ih (Bv.one (a k))
  ·exact ih
end Go.Ns
namespace Go.Ns
theorem UC{P:Program}{O:Nat->Value}{h:GH}{fn:Func}{R:Value->GH->Prop}{a u s:Tmp}{t:TypeId}{b off:Nat}{v v' v2:Value}(hr:fn.results=#[.tmp u,.cell a t,.tmp s])(hv:O u=v)(ha:O a=.pointer (some ⟨b,off,none⟩))(hv':Rd P h t b off v')(hv2:O s=v2)(x:R (.tuple #[v,v',v2]) h):Ga P fn O R [] h:=by
 unfold Ga;rw [hr];subst hv;subst hv2;exact ⟨b,off,v',ha,hv',x⟩
section
variable (np:Nat) (ws:List AC) (js:List AI) (pq:List AB) (bag kinds:Int)
def FK:List (List Int):=(C0 (CE js.length)).filter (λq=>Ba np ws js pq q bag kinds)
end
def JJ(g:List (List Int))(x:List Int):List (List Int):=if 0<g.length/\(g.getD 0 []).length<x.length then [] else g
def JK(g:List (List Int))(x:List Int):List (List Int):=if g.length=0\/x.length=(g.getD 0 []).length then g++[x] else g
def Ew(g:List (List Int))(x:List Int):List (List Int):=JK (JJ g x) x
def JL(l:List (List Int)):Nat->List (List Int)
 | 0=>[]
 | k+1=>Ew (JL l k) (l.getD k [])
def G9(g:List Sl)(x:Sl):List Sl:=if 0<g.length/\(g.getD 0 Sl.z).2.length<x.2.length then [] else g
def H2(g:List Sl)(x:Sl):List Sl:=if g.length=0\/x.2.length=(g.getD 0 Sl.z).2.length then g++[x] else g
def C2(g:List Sl)(x:Sl):List Sl:=H2 (G9 g x) x
def A6(l:List Sl):Nat->List Sl
 | 0=>[]
 | k+1=>C2 (A6 l k) (l.getD k Sl.z)
section
variable {l g:List Sl} {x:Sl} {k:Nat}
theorem Pv(h0:0<g.length)(h1:(g.getD 0 Sl.z).2.length<x.2.length):C2 g x=[x]:=by
 unfold C2 G9;rw [if_pos ⟨h0,h1⟩];rfl
theorem Pw(h0:0<g.length)(h1:x.2.length=(g.getD 0 Sl.z).2.length):C2 g x=g++[x]:=by
 unfold C2 G9;rw [if_neg (λe=>by have:=e.2;omega)];unfold H2;rw [if_pos (.inr h1)]
theorem Px(h0:0<g.length)(h1:x.2.length<(g.getD 0 Sl.z).2.length):C2 g x=g:=by
 unfold C2 G9;rw [if_neg (λe=>by have:=e.2;omega)];unfold H2;rw [if_neg];rintro (e | e) <;> omega
theorem P0(h0:g.length=0):C2 g x=g++[x]:=by
 unfold C2 G9;rw [if_neg (λe=>by have:=e.1;omega)];unfold H2;rw [if_pos (.inl h0)]
theorem goodS_a(h0:0<(A6 l k).length)(h1:((A6 l k).getD 0 Sl.z).2.length<(l.getD k Sl.z).2.length):A6 l (k+1)=[l.getD k Sl.z]:=Pv h0 h1
theorem goodS_b(h0:0<(A6 l k).length)(h1:(l.getD k Sl.z).2.length=((A6 l k).getD 0 Sl.z).2.length):A6 l (k+1)=A6 l k++[l.getD k Sl.z]:=Pw h0 h1
theorem goodS_c(h0:0<(A6 l k).length)(h1:¬((A6 l k).getD 0 Sl.z).2.length<(l.getD k Sl.z).2.length)(h2:¬(l.getD k Sl.z).2.length=((A6 l k).getD 0 Sl.z).2.length):A6 l (k+1)=A6 l k:=Px h0 aA
theorem goodS_d(h0:(A6 l k).length=0):A6 l (k+1)=A6 l k++[l.getD k Sl.z]:=P0 h0
theorem goodS_t(h1:¬(0<(A6 l k).length/\((A6 l k).getD 0 Sl.z).2.length<(l.getD k Sl.z).2.length))(h2:(A6 l k).length=0\/(l.getD k Sl.z).2.length=((A6 l k).getD 0 Sl.z).2.length):A6 l (k+1)=A6 l k++[l.getD k Sl.z]:=by
 by_cases h0:(A6 l k).length=0
 ·exact goodS_d h0
 ·exact goodS_b aA aA
theorem goodS_f(h1:¬(0<(A6 l k).length/\((A6 l k).getD 0 Sl.z).2.length<(l.getD k Sl.z).2.length))(h2:¬((A6 l k).length=0\/(l.getD k Sl.z).2.length=((A6 l k).getD 0 Sl.z).2.length)):A6 l (k+1)=A6 l k:=goodS_c aA aA aA
theorem H3(g:List Sl)(x:Sl):C2 g x=[x]\/C2 g x=g++[x]\/(C2 g x=g/\0<g.length):=by
 by_cases h0:g.length=0
 ·exact .inr (.inl (P0 h0))
 ·by_cases h1:(g.getD 0 Sl.z).2.length<x.2.length
  ·exact .inl (Pv aA h1)
  ·by_cases h2:x.2.length=(g.getD 0 Sl.z).2.length
   ·exact .inr (.inl (Pw aA h2))
   ·exact .inr (.inr ⟨Px aA aA,aA⟩)
theorem Z7:∀k,0<k->0<(A6 l k).length
 | k+1,_=>by
  show 0<(C2 (A6 l k) (l.getD k Sl.z)).length;rcases H3 (A6 l k) (l.getD k Sl.z) with e | e | ⟨e,h⟩ <;> rw [e]
  ·exact Nat.zero_lt_one
  ·rw [List.length_append];exact Nat.succ_pos _
  ·exact h
theorem Se:∀k,(A6 l k).length<=k
 | 0=>Nat.le_refl _
 | k+1=>by
  have ih:=Se k;show (C2 (A6 l k) (l.getD k Sl.z)).length<=_;rcases H3 (A6 l k) (l.getD k Sl.z) with e | e | ⟨e,_⟩ <;> rw [e]
  ·simp
  ·rw [List.length_append,List.length_singleton];omega
  ·omega
theorem M5:∀k,k<=l.length->∀y ∈ A6 l k,y ∈ l
 | 0,_,y,hy=>by cases hy
 | k+1,hk,y,hy=>by
  have ih:=M5 k aA;have hx:l.getD k Sl.z ∈ l:=BX aA;change y ∈ C2 (A6 l k) (l.getD k Sl.z) at hy;rcases H3 (A6 l k) (l.getD k Sl.z) with e | e | ⟨e,_⟩ <;> rw [e] at hy
  ·rw [List.mem_singleton.1 hy];exact hx
  ·rcases List.mem_append.1 hy with hy | hy
   ·exact ih y hy
   ·rw [List.mem_singleton.1 hy];exact hx
  ·exact ih y hy
theorem OB:∀k,k<=l.length->Ax (A6 l k)=JL (Ax l) k
 | 0,_=>rfl
 | k+1,hk=>by
  have ih:=OB k aA;have hg:∀g:List Sl,(g.getD 0 Sl.z).2=(Ax g).getD 0 []:=λg=>by cases g <;> rfl
  show Ax (C2 (A6 l k) (l.getD k Sl.z))=Ew (JL (Ax l) k) ((Ax l).getD k []);rw [<-ih,Fh aA];have hc:Ax (G9 (A6 l k) (l.getD k Sl.z))=JJ (Ax (A6 l k)) (l.getD k Sl.z).2:=by
   unfold G9 JJ;rw [hg,B7];split <;> rfl
  have ha:∀g:List Sl,Ax (H2 g (l.getD k Sl.z))=JK (Ax g) (l.getD k Sl.z).2:=λg=>by
   unfold H2 JK;rw [hg,B7];split
   ·rw [M0];rfl
   ·rfl
  show Ax (H2 (G9 (A6 l k) (l.getD k Sl.z)) (l.getD k Sl.z))=JK (JJ (Ax (A6 l k)) _) _;rw [ha,hc]
end
theorem Bv.good{h:GH}{t:TypeId}{l:List Sl}{k:Nat}(a:Bv h t l)(hk:k<=l.length):Bv h t (A6 l k):=.of λx hx=>a.at (M5 k hk x hx)
section
variable {np:Nat} {ws:List AC} {js:List AI} {pq:List AB} {bag kinds:Int} {fs:List Sl}
theorem Y7(h:Ax fs=FK np ws js pq bag kinds)(hn:js.length<=4):∀x ∈ fs,UA js.length x.2:=λx hx=>by
 have:x.2 ∈ Ax fs:=List.mem_map_of_mem hx
 rw [h] at this;exact J2 (λy hy=>JE hy) (by rw [Cz];exact hn) (List.mem_filter.1 this).1
theorem VV(h:Ax fs=FK np ws js pq bag kinds)(hn:js.length<=4)(i:Nat):UA js.length (fs.getD i Sl.z).2:=by
 by_cases hi:i<fs.length
 ·exact Y7 h hn _ (BX hi)
 ·rw [Bf aA];exact ⟨λk hk=>absurd hk (Nat.not_lt_zero _),Nat.zero_le _⟩
theorem safe_nil(hb:0<=bag):Ba np ws js pq [] bag kinds=true:=by
 unfold Ba;have e:(CP kinds js []).sum=0:=by
  show (List.replicate kinds.toNat (0:Int)).sum=0;generalize kinds.toNat=n
  induction n with
  | zero=>rfl
  | succ n ih=>rw [List.replicate_succ,List.sum_cons,ih];rfl
 rw [e,decide_eq_true hb];rfl
theorem P1(hb:0<=bag):0<(FK np ws js pq bag kinds).length:=by
 refine List.length_pos_of_mem (a:=[]) (List.mem_filter.2 ⟨?_,safe_nil hb⟩);unfold C0;rw [FV];exact List.mem_cons_self
theorem P2(hn:js.length<=4):(FK np ws js pq bag kinds).length<=625:=
 Nat.le_trans (List.length_filter_le _ _) (Hb (by rw [Cz];exact hn))
theorem Sf{G:List Int->Int}:∀(l:List (List Int)),0<l.length->∀k,k<=l.length-1->(C7 G l k).1 ∈ l
 | l,h,0,_=>BX h
 | l,h,k+1,hk=>by
  unfold C7;split
  ·exact List.mem_of_mem_drop (BX (by rw [List.length_drop];omega))
  ·exact Sf l h k aA
theorem MC{n:Nat}{G:List Int->Int}{l:List Sl}(h:∀x ∈ l,UA n x.2)(hl:0<l.length):UA n (Cp G (Ax l)):=by
 have:=Sf (G:=G) (Ax l) (by rw [B7];exact hl) ((Ax l).length-1) (Nat.le_refl _)
 obtain ⟨x,hx,e⟩:=List.mem_map.1 this;unfold Cp;rw [<-e];exact h x hx
end
section
variable (bag kinds:Int) (ps:List ByteArray) (ws:List AC) (js:List AI) (ns:List AJ)
def UD:List Int:=Cp (λl=>BG (λx=>AR ps.length ws js x l) (AA ws js ns)) (JL (FK ps.length ws js (AA ws js ns) bag kinds) (FK ps.length ws js (AA ws js ns) bag kinds).length)
def BO:List Int:=if¬AU bag kinds ps ws js ns 0=0 then [] else UD bag kinds ps ws js ns
end
section
variable {bag kinds:Int} {ps:List ByteArray} {ws:List AC} {js:List AI} {ns:List AJ} {fs:List Sl} {k:Nat}
theorem best_end(h:Ax fs=FK ps.length ws js (AA ws js ns) bag kinds)(h1:k<=fs.length)(h2:fs.length<=k):UD bag kinds ps ws js ns=Cp (λl=>BG (λx=>AR ps.length ws js x l) (AA ws js ns)) (Ax (A6 fs k)):=by
 unfold UD;rw [OB k h1,h,<-h,B7,show fs.length=k by omega]
theorem VW(h0:¬¬AU bag kinds ps ws js ns 0=0)(h:Ax fs=FK ps.length ws js (AA ws js ns) bag kinds)(h1:k<=fs.length)(h2:fs.length<=k):BO bag kinds ps ws js ns=Cp (λl=>BG (λx=>AR ps.length ws js x l) (AA ws js ns)) (Ax (A6 fs k)):=(if_neg h0).trans (best_end h h1 h2)
end
def UE(c:GY)(l:List Int):Nat->GY
 | 0=>c
 | i+1=>(UE c l i).set (l.getD i 0).toNat true
def Gm(ls:List (List Int)):Nat->GY
 | 0=>GY.none
 | k+1=>UE (Gm ls k) (ls.getD k []) (ls.getD k []).length
def Ey(c:GY):Nat->List Int
 | 0=>[]
 | q+1=>if c q=true then Ey c q else Ey c q++[(q:Int)]
theorem neverL_t{c:GY}{q:Nat}(h:c q=true):Ey c (q+1)=Ey c q:=if_pos h
theorem neverL_f{c:GY}{q:Nat}(h:c q=false):Ey c (q+1)=Ey c q++[(q:Int)]:=if_neg (by rw [h];simp)
theorem P3(c:GY):∀q,(Ey c q).length<=q
 | 0=>Nat.le_refl _
 | q+1=>by
  have:=P3 c q
  unfold Ey;split
  ·omega
  ·rw [List.length_append,List.length_singleton];omega
section
variable (bag kinds:Int) (ps:List ByteArray) (ws:List AC) (js:List AI) (ns:List AJ)
def J5:List Int:=if¬AU bag kinds ps ws js ns 0=0 then [] else Ey (Gm (FK ps.length ws js (AA ws js ns) bag kinds) (FK ps.length ws js (AA ws js ns) bag kinds).length) js.length
end
section
variable {bag kinds:Int} {ps:List ByteArray} {ws:List AC} {js:List AI} {ns:List AJ} {fs:List Sl} {k q:Nat}
theorem Z8{i:Nat}(hk:k<fs.length)(h1:i<=(fs.getD k Sl.z).2.length)(h2:(fs.getD k Sl.z).2.length<=i):Gm (Ax fs) (k+1)=UE (Gm (Ax fs) k) (fs.getD k Sl.z).2 i:=by
 unfold Gm;rw [Fh hk,show (fs.getD k Sl.z).2.length=i by omega];cases k <;> rfl
theorem Z9(h0:¬¬AU bag kinds ps ws js ns 0=0)(h:Ax fs=FK ps.length ws js (AA ws js ns) bag kinds)(h1:k<=fs.length)(h2:fs.length<=k)(h3:q<=js.length)(h4:js.length<=q):J5 bag kinds ps ws js ns=Ey (Gm (Ax fs) k) q:=
 (if_neg h0).trans (by rw [<-h,B7,show fs.length=k by omega,show js.length=q by omega])
end
end Go.Ns
namespace Go.Ns
theorem VX{nj:Nat}{l:List Int}(h:Ag nj l=0):l.Nodup:=by
 rw [List.nodup_iff_pairwise_ne];rw [List.pairwise_iff_getElem];intro i j hi hj hij e;have h1:=C4 h j (Nat.zero_le _) aA;unfold HY at h1;split at h1
 ·rename_i a;exact a h1
 ·split at h1
  ·cases h1
  ·rename_i a
   refine a (List.any_eq_true.2 ⟨l[i],List.mem_take_iff_getElem.2 ⟨i,aA,rfl⟩,?_⟩);rw [List.getD_eq_getElem?_getD,List.getElem?_eq_getElem hj];exact decide_eq_true e.symm
theorem OC{jobs:List Int}(nd:jobs.Nodup):∀(rest done:List Int),jobs=done++rest->jobs ∈ BC jobs rest.length done
 | [],done,e=>by rw [e,List.append_nil];exact List.mem_singleton.2 rfl
 | k ::rest,done,e=>by
  have ih:=OC nd rest (done++[k]) (by rw [e];simp);show jobs ∈ done ::jobs.flatMap _;refine List.mem_cons_of_mem _ (List.mem_flatMap.2 ⟨k,by rw [e];simp,?_⟩);have hn:Ha done k=false:=by
   cases hh:Ha done k with
   | false=>rfl
   | true=>
    exfalso;obtain ⟨x,hx,hk⟩:=List.any_eq_true.1 hh;have hk':k=x:=of_decide_eq_true hk;rw [e,List.nodup_append] at nd;exact nd.2.2 x hx k List.mem_cons_self hk'.symm
  rw [if_neg (by rw [hn];simp)];exact ih
def Y8(jobs:List Int)(n:Nat):List (List Int):=(C0 jobs).filter λq=>decide (q.length=n)
theorem AAA{l:List Int}(nd:l.Nodup):0<(Y8 (FO l) l.length).length:=by
 have hs:(FO l).Nodup:=by rw [PP];exact (List.mergeSort_perm l _).nodup_iff.2 nd
 have:=OC hs (FO l) [] rfl
 exact List.length_pos_of_mem (List.mem_filter.2 ⟨this,decide_eq_true (EF l)⟩)
section
variable (bag kinds:Int) (ps:List ByteArray) (ws:List AC) (js:List AI) (ns:List AJ) (l:List Int)
def swiftL:List Int:=Cp (λl=>BG (λx=>AR ps.length ws js x l) (AA ws js ns)) (Y8 (FO l) l.length)
def JM:List Int:=if¬AU bag kinds ps ws js ns (Ag js.length l)=0 then [] else swiftL ps ws js ns l
end
section
variable {bag kinds:Int} {ps:List ByteArray} {ws:List AC} {js:List AI} {ns:List AJ} {l:List Int} {fl:List Sl} {nj:Nat}
theorem Sg(h0:¬¬AU bag kinds ps ws js ns (Ag js.length l)=0)(h:Ax fl=Y8 (FO l) l.length):JM bag kinds ps ws js ns l=Cp (λl=>BG (λx=>AR ps.length ws js x l) (AA ws js ns)) (Ax fl):=(if_neg h0).trans (by unfold swiftL;rw [h])
theorem full_ok(h:Ax fl=Y8 (FO l) l.length)(hr:∀k,k<l.length->0<=l.getD k 0/\l.getD k 0<nj)(h4:l.length<=4):∀x ∈ fl,UA nj x.2:=λx hx=>by
 have:x.2 ∈ Ax fl:=List.mem_map_of_mem hx
 rw [h] at this;refine J2 (λy hy=>?_) (by rw [EF];exact h4) (List.mem_filter.1 this).1;rw [PP,List.mem_mergeSort] at hy;obtain ⟨i,hi,e⟩:=List.mem_iff_getElem.1 hy
 have:=hr i hi
 rw [List.getD_eq_getElem?_getD,List.getElem?_eq_getElem hi,Option.getD_some,e] at this;exact this
end
end Go.Ns
namespace Go.Ns
def PV(h:GH)(t:TypeId)(f:Nat->Value)(L:Nat->List Int)(k:Nat):Prop:=∀i,i<k->B9 h t (f i) (L i)
section
variable {h h' h0:GH} {t t':TypeId} {f:Nat->Value} {L:Nat->List Int} {k r:Nat} {w v v':Value} {p:Bool} {c:Array Value} {g:Nat×Nat}
theorem PV.zero:PV h t f L 0:=λ_ hi=>absurd hi (Nat.not_lt_zero _)
theorem PV.le(x:PV h t f L k)(l:h.Le h'):PV h' t f L k:=λi hi=>(x i hi).le l
theorem PV.store(x:PV h t f L k)(hr:h r=some (p,.cells c t' g))(ne:t'≠t)(ho:∀b,b≠r->h' b=h b):PV h' t f L k:=λi hi=>(x i hi).store hr ne ho
theorem PV.next(x:PV h t f L k)(y:B9 h t w (L k)):PV h t (λi=>if i=k then w else f i) L (k+1):=λi hi=>by
 show B9 h t (if i=k then w else f i) (L i);by_cases e:i=k
 ·rw [if_pos e,e];exact y
 ·rw [if_neg e];exact x i aA
end
def AI.re(j:AI)(v:Value):AI:={ j with pv:=v }
def AJ.re(j:AJ)(v:Value):AJ:={ j with wv:=v }
def GS(js:List AI)(f:Nat->Value)(k:Nat):List AI:=(List.range js.length).map λi=>if i<k then (js.getD i AI.z).re (f i) else js.getD i AI.z
def HH(ns:List AJ)(f:Nat->Value)(k:Nat):List AJ:=(List.range ns.length).map λi=>if i<k then (ns.getD i AJ.z).re (f i) else ns.getD i AJ.z
section
variable {V:Type} {z:V} {l:List V} {F:Nat->V->V} {k:Nat}
def reL(z:V)(l:List V)(F:Nat->V->V)(k:Nat):List V:=(List.range l.length).map λi=>if i<k then F i (l.getD i z) else l.getD i z
theorem KV:(reL z l F k).length=l.length:=by unfold reL;rw [List.length_map,List.length_range]
theorem G0{i:Nat}(hi:i<l.length):(reL z l F k).getD i z=if i<k then F i (l.getD i z) else l.getD i z:=by
 unfold reL;rw [List.getD_eq_getElem?_getD,List.getElem?_map,List.getElem?_range hi];rfl
theorem UF{i:Nat}(hi:i<(reL z l F k).length):(reL z l F k)[i]=if i<k then F i (l.getD i z) else l.getD i z:=by
 have e:=G0 (z:=z) (F:=F) (k:=k) (show i<l.length by rw [<-KV (z:=z) (F:=F) (k:=k)];exact hi);rw [List.getD_eq_getElem?_getD,List.getElem?_eq_getElem hi] at e;exact e
theorem reL_0:reL z l F 0=l:=by
 refine List.ext_getElem KV λi h1 h2=>?_;rw [UF,if_neg (Nat.not_lt_zero _),List.getD_eq_getElem?_getD,List.getElem?_eq_getElem h2];rfl
theorem Y9{G:Nat->V->V}(hk:k<l.length)(hG:∀i,i<k->∀x,G i x=F i x):(reL z l F k).set k (G k ((reL z l F k).getD k z))=reL z l G (k+1):=by
 rw [G0 hk,if_neg (Nat.lt_irrefl _)];refine List.ext_getElem (by rw [List.length_set,KV,KV]) λi h1 h2=>?_;rw [List.getElem_set,UF];by_cases e:k=i
 ·subst e;rw [if_pos rfl,UF,if_pos aA]
 ·rw [if_neg e,UF];by_cases e2:i<k
  ·rw [if_pos e2,if_pos aA,hG i e2]
  ·rw [if_neg e2,if_neg aA]
end
section
variable {h:GH} {t:TypeId} {f:Nat->Value} {js:List AI} {ns:List AJ} {k:Nat} {w:Value}
theorem M6:GS js f k=reL AI.z js (λi j=>j.re (f i)) k:=rfl
theorem M7:HH ns f k=reL AJ.z ns (λi j=>j.re (f i)) k:=rfl
theorem Fe(js:List AI)(f:Nat->Value)(k:Nat):(GS js f k).length=js.length:=by rw [M6];exact KV
theorem IH(ns:List AJ)(f:Nat->Value)(k:Nat):(HH ns f k).length=ns.length:=by rw [M7];exact KV
theorem reJ_0:GS js f 0=js:=by rw [M6];exact reL_0
theorem reN_0:HH ns f 0=ns:=by rw [M7];exact reL_0
theorem reJ_put(hk:k<js.length):(GS js f k).set k (((GS js f k).getD k AI.z).re w)=GS js (λi=>if i=k then w else f i) (k+1):=by
 have:=Y9 (z:=AI.z) (l:=js) (F:=λi j=>j.re (f i)) (G:=λi j=>j.re (if i=k then w else f i)) hk (λi hi x=>by rw [if_neg aA])
 rw [if_pos rfl] at this;exact this
theorem reN_put(hk:k<ns.length):(HH ns f k).set k (((HH ns f k).getD k AJ.z).re w)=HH ns (λi=>if i=k then w else f i) (k+1):=by
 have:=Y9 (z:=AJ.z) (l:=ns) (F:=λi j=>j.re (f i)) (G:=λi j=>j.re (if i=k then w else f i)) hk (λi hi x=>by rw [if_neg aA])
 rw [if_pos rfl] at this;exact this
theorem Sh(js:List AI)(f:Nat->Value)(k i:Nat):((GS js f k).getD i AI.z).parts=(js.getD i AI.z).parts:=by
 by_cases hi:i<js.length
 ·rw [M6,G0 hi];split <;> rfl
 ·rw [Bf (by rw [Fe];omega),Bf aA]
theorem VY(ns:List AJ)(f:Nat->Value)(k i:Nat):((HH ns f k).getD i AJ.z).ways=(ns.getD i AJ.z).ways:=by
 by_cases hi:i<ns.length
 ·rw [M7,G0 hi];split <;> rfl
 ·rw [Bf (by rw [IH];omega),Bf aA]
theorem BI.re(x:BI h js)(y:PV h t f (λi=>(js.getD i AI.z).parts) k):BI h (GS js f k):=λi=>by
 by_cases hi:i<js.length
 ·rw [M6,G0 hi];by_cases e:i<k
  ·rw [if_pos e];exact (y i e).1
  ·rw [if_neg e];exact x i
 ·rw [Bf (by rw [Fe];omega)];exact AK.nil _ _ _
theorem Am.re(x:Am h ns)(y:PV h t f (λi=>(ns.getD i AJ.z).ways) k):Am h (HH ns f k):=λi=>by
 by_cases hi:i<ns.length
 ·rw [M7,G0 hi];by_cases e:i<k
  ·rw [if_pos e];exact (y i e).1
  ·rw [if_neg e];exact x i
 ·rw [Bf (by rw [IH];omega)];exact AK.nil _ _ _
def CQ(h:GH)(t:TypeId)(js:List AI):Prop:=∀k,B9 h t (js.getD k AI.z).pv (js.getD k AI.z).parts
def C6(h:GH)(t:TypeId)(ns:List AJ):Prop:=∀k,B9 h t (ns.getD k AJ.z).wv (ns.getD k AJ.z).ways
theorem CQ.jobs(x:CQ h t js):BI h js:=λk=>(x k).1
theorem C6.notes(x:C6 h t ns):Am h ns:=λk=>(x k).1
theorem CQ.le{h':GH}(x:CQ h t js)(l:h.Le h'):CQ h' t js:=λk=>(x k).le l
theorem C6.le{h':GH}(x:C6 h t ns)(l:h.Le h'):C6 h' t ns:=λk=>(x k).le l
theorem CQ.store{h':GH}{t':TypeId}{r:Nat}{p:Bool}{c:Array Value}{g:Nat×Nat}(x:CQ h t js)(hr:h r=some (p,.cells c t' g))(ne:t'≠t)(ho:∀b,b≠r->h' b=h b):CQ h' t js:=λk=>(x k).store hr ne ho
theorem C6.store{h':GH}{t':TypeId}{r:Nat}{p:Bool}{c:Array Value}{g:Nat×Nat}(x:C6 h t ns)(hr:h r=some (p,.cells c t' g))(ne:t'≠t)(ho:∀b,b≠r->h' b=h b):C6 h' t ns:=λk=>(x k).store hr ne ho
theorem CQ.of(y:PV h t f (λi=>(js.getD i AI.z).parts) k)(hk:js.length<=k):CQ h t (GS js f k):=λi=>by
 by_cases hi:i<js.length
 ·rw [M6,G0 hi,if_pos aA];exact y i aA
 ·rw [Bf (by rw [Fe];omega)];exact B9.nil _ _
theorem C6.of(y:PV h t f (λi=>(ns.getD i AJ.z).ways) k)(hk:ns.length<=k):C6 h t (HH ns f k):=λi=>by
 by_cases hi:i<ns.length
 ·rw [M7,G0 hi,if_pos aA];exact y i aA
 ·rw [Bf (by rw [IH];omega)];exact B9.nil _ _
theorem BI.fine1(x:BI h js)(k:Nat):(CO (js.getD k AI.z)).toList.all (·.oneCell')=true:=by
 show (true && (true && (true && (true && (((js.getD k AI.z).pv.oneCell') && true)))))=true;rw [(AK.one (x k)).2];rfl
theorem BI.fine(x:BI h js):∀y ∈ js,(CO y).toList.all (·.oneCell')=true:=λy hy=>by
 obtain ⟨i,hi,e⟩:=List.mem_iff_getElem.1 hy
 have:=x.fine1 i
 rw [List.getD_eq_getElem?_getD,List.getElem?_eq_getElem hi] at this;rw [<-e];exact this
theorem Am.snoc{x:AJ}(a:Am h ns)(b:AK h x.wv 1 eI x.ways):Am h (ns++[x]):=λk=>by
 rw [FU];split
 ·exact a k
 ·cases hk:k-ns.length with
  | zero=>exact b
  | succ n=>rw [Bf aD];exact AK.nil _ _ _
end
theorem A8.copy{bag kinds:Int}{ps:List ByteArray}{ws:List AC}{js:List AI}{ns:List AJ}(b:A8 bag kinds ps ws js ns):(∀i,(js.getD i AI.z).parts.length<=1000)/\∀i,(ns.getD i AJ.z).ways.length<=1000:=by
 refine ⟨λi=>?_,λi=>Nat.le_trans (Pe b.note i).1 aC⟩;by_cases hi:i<js.length
 ·have:=(L0 (b.job i hi)).len
  have:=b.hkin
  omega
 ·rw [Bf aA];exact Nat.zero_le _
end Go.Ns
namespace Go.Ns
section
variable {P:Program} {E:GW P} {O:Nat->Value} {ds:List Deferred} {h:GH} {T:(Nat->Value)->List Deferred->GH->Prop} {dst:Option Nat} {ty:TypeId} {pos:String} {af:Array Edge} {gd:Option (Nat×Bool)}
theorem XA{s:ByteArray}{i:Nat}(h:i<s.size):((s[i]'h).toNat:Int)=(bytesOf s).getD i 0:=by
 have h2:i<(bytesOf s).length:=by rw [Cy];exact h
 rw [D2 0 h2];exact (List.getElem_map (l:=s.data.toList) (f:=λb=>(b.toNat:Int)) (h:=h2)).symm
theorem P4{t:TypeId}{x ix:Operand}{s:ByteArray}{kd:IntKind}{i:Int}(ht:Ox P t=true)(hx:AN O x=.string s)(hi:AN O ix=.int kd i)(h0:0<=i)(h1:i<s.size)(k:T (putS O dst (.int .u8 ((bytesOf s).getD i.toNat 0))) ds h) :
  BR E ⟨dst,.index t x ix,ty,pos,af,gd⟩ O ds h T:=SC ht hx hi h0 h1 (by rw [XA];exact k)
end
theorem VZ{s:ByteArray}(h:¬(1<=(s.size:Int)/\(s.size:Int)<=10)):Ep s=false:=by unfold Ep;rw [decide_eq_false h,Bool.and_false]
theorem Va{a b:List UInt8}{v:Bool}(h:(a==b)=v):(b==a)=v:=by rw [<-h];exact BEq.comm
def HI(l:List Int)(k:Nat)(p q:Int):List Int:=if p=l.getD k 0/\¬q ∈ l then l++[q] else l
def Cg(l:List Int)(k:Nat)(x:AC):List Int:=HI (HI l k x.a x.b) k x.b x.a
def Ac(ws:List AC)(l:List Int)(k:Nat):Nat->List Int
 | 0=>l
 | j+1=>Cg (Ac ws l k j) k (ws.getD j AC.z)
def Aj(ws:List AC):Nat->List Int
 | 0=>[0]
 | k+1=>if k<(Aj ws k).length then Ac ws (Aj ws k) k ws.length else Aj ws k
def Cq(ws:List AC):List Int:=Aj ws 4
def HA(np:Nat)(l:List Int):Prop:=l.Nodup/\(∀x ∈ l,0<=x/\x<np)/\0<l.length
def LI(np:Nat)(ws:List AC):Prop:=∀k,k<ws.length->(0<=(ws.getD k AC.z).a/\(ws.getD k AC.z).a<np)/\0<=(ws.getD k AC.z).b/\(ws.getD k AC.z).b<np
section
variable {np:Nat} {l:List Int} {ws:List AC} {k j:Nat} {x:Int} {w:AC}
theorem HA.len(h:HA np l):l.length<=np:=by
 refine T4 np l.length (λk=>(l.getD k 0).toNat) (λi hi=>?_) λi j hij hj=>?_
 ·have:=h.2.1 _ (BX (d:=(0:Int)) hi)
  show (l.getD i 0).toNat<np;omega
 ·have h1:=h.2.1 _ (BX (d:=(0:Int)) hj);have h2:=h.2.1 _ (BX (d:=(0:Int)) (show i<l.length by omega));show (l.getD i 0).toNat≠(l.getD j 0).toNat;intro e;have e2:l.getD i 0=l.getD j 0:=aA
  rw [List.getD_eq_getElem?_getD,List.getD_eq_getElem?_getD,List.getElem?_eq_getElem aA,List.getElem?_eq_getElem hj,Option.getD_some,Option.getD_some] at e2
  have:=(List.pairwise_iff_getElem.1 (List.nodup_iff_pairwise_ne.1 h.1)) i j aA hj hij
  exact this e2
theorem HA.snoc(h:HA np l)(hx:0<=x/\x<np)(n:¬x ∈ l):HA np (l++[x]):=
 ⟨List.nodup_append.2 ⟨h.1,aD,λa ha b hb e=>by rw [List.mem_singleton.1 hb] at e;exact n (e▸ha)⟩,λy hy=>by
  rcases List.mem_append.1 hy with hy | hy
  ·exact h.2.1 y hy
  ·rw [List.mem_singleton.1 hy];exact hx,aD⟩
theorem MD{p q:Int}(h1:p=l.getD k 0)(h2:¬q ∈ l):HI l k p q=l++[q]:=if_pos ⟨h1,h2⟩
theorem ME{p q:Int}(h:¬(p=l.getD k 0/\¬q ∈ l)):HI l k p q=l:=if_neg h
theorem rs_tt(h1:w.a=l.getD k 0/\¬w.b ∈ l)(h2:w.b=(l++[w.b]).getD k 0/\¬w.a ∈ l++[w.b]):Cg l k w=l++[w.b]++[w.a]:=by unfold Cg;rw [MD h1.1 h1.2,MD h2.1 h2.2]
theorem rs_tf(h1:w.a=l.getD k 0/\¬w.b ∈ l)(h2:¬(w.b=(l++[w.b]).getD k 0/\¬w.a ∈ l++[w.b])):Cg l k w=l++[w.b]:=by unfold Cg;rw [MD h1.1 h1.2,ME h2]
theorem rs_ft(h1:¬(w.a=l.getD k 0/\¬w.b ∈ l))(h2:w.b=l.getD k 0/\¬w.a ∈ l):Cg l k w=l++[w.a]:=by unfold Cg;rw [ME h1,MD h2.1 h2.2]
theorem rs_ff(h1:¬(w.a=l.getD k 0/\¬w.b ∈ l))(h2:¬(w.b=l.getD k 0/\¬w.a ∈ l)):Cg l k w=l:=by unfold Cg;rw [ME h1,ME h2]
theorem Si{p q:Int}(h:HA np l)(hq:0<=q/\q<np):HA np (HI l k p q):=by
 unfold HI;split
 ·rename_i c;exact h.snoc hq c.2
 ·exact h
theorem H4(l:List Int)(k:Nat)(p q:Int):l<+:HI l k p q:=by
 unfold HI;split
 ·exact List.prefix_append _ _
 ·exact List.prefix_refl _
theorem UG(h:HA np l)(ha:0<=w.a/\w.a<np)(hb:0<=w.b/\w.b<np):HA np (Cg l k w):=Si (Si h hb) ha
theorem Ia(l:List Int)(k:Nat)(w:AC):l<+:Cg l k w:=(H4 _ _ _ _).trans (H4 _ _ _ _)
theorem P5{a b:List Int}(h:a<+:b)(hk:k<a.length):b.getD k 0=a.getD k 0:=by
 obtain ⟨t,rfl⟩:=h;rw [FU,if_pos hk]
theorem JN(h:HA np l)(hw:LI np ws):∀j,j<=ws.length->HA np (Ac ws l k j)
 | 0,_=>h
 | j+1,hj=>UG (JN h hw j aA) (hw j aA).1 (hw j aA).2
theorem FX:∀j,l<+:Ac ws l k j
 | 0=>List.prefix_refl _
 | j+1=>(FX j).trans (Ia _ _ _)
theorem Ik(hn:0<np)(hw:LI np ws):∀k,HA np (Aj ws k)
 | 0=>⟨by simp [Aj],λx hx=>by rw [List.mem_singleton.1 hx];omega,Nat.zero_lt_one⟩
 | k+1=>by
  unfold Aj;split
  ·exact JN (Ik hn hw k) hw _ (Nat.le_refl _)
  ·exact Ik hn hw k
theorem J6(hk:k<(Aj ws k).length):Aj ws (k+1)=Ac ws (Aj ws k) k ws.length:=if_pos hk
theorem OD(hk:(Aj ws k).length<=k):∀m,k<=m->Aj ws m=Aj ws k
 | 0,h=>by rw [show k=0 by omega]
 | m+1,h=>by
  by_cases e:m+1=k
  ·rw [e]
  ·have ih:=OD hk m aA
   have:Aj ws (m+1)=Aj ws m:=by
    conv=>lhs;unfold Aj
    rw [if_neg (by rw [ih];omega)]
   rw [this,ih]
theorem Sj(hk:(Aj ws k).length<=k)(hk4:k<=4):Cq ws=Aj ws k:=OD hk 4 hk4
end
def Ez(np:Nat)(ws:List AC):Int:=if (5:Int)<ws.length then 2 else if¬Cn (C5 np ws) 0 ws.length=0 then Cn (C5 np ws) 0 ws.length else if (Cq ws).length<np then 8 else 0
def DX(bag kinds:Int)(ps:List ByteArray)(ws:List AC)(js:List AI)(ns:List AJ):Int:=
 if¬GB bag kinds=0 then GB bag kinds else if¬BJ ps=0 then BJ ps else if¬Ez ps.length ws=0 then Ez ps.length ws else if¬B1 ps.length kinds js=0 then B1 ps.length kinds js else CW ws.length ns
section
variable {V:Type} {p:V->Bool} {l:List V} {d:V} {k j:Nat}
theorem M8(hk:k<l.length)(e:p (l.getD k d)=true):l.any p=true:=List.any_eq_true.2 ⟨_,BX hk,e⟩
theorem KW(h:(l.take k).any p=false)(hk:l.length<=k):l.any p=false:=by rwa [List.take_of_length_le hk] at h
theorem Vb(hj:j<k)(hk:k<=l.length)(e:p (l.getD j d)=true):(l.take k).any p=true:=by
 refine M8 (k:=j) (d:=d) (by rw [List.length_take];omega) ?_;rw [List.getD_eq_getElem?_getD,List.getElem?_take,if_pos hj,<-List.getD_eq_getElem?_getD];exact e
end
section
variable {np nw:Nat} {ws:List AC} {js:List AI} {ns:List AJ} {k:Nat} {kinds:Int}
theorem MF{a b:Int}(ha:0<=a/\a<=(np:Int)-1)(hb:0<=b/\b<=(np:Int)-1):B0 np [a,b]=0:=by
 have h0:Ea np [a,b] 0=0:=if_neg (λe=>e ha);have h1:Ea np [a,b] 1=0:=if_neg (λe=>e hb);show Cn (Ea np [a,b]) 0 2=0;simp [Cn,h0,h1]
theorem miss_no{a b:Int}(h:¬(0<=a/\a<=(np:Int)-1)\/¬(0<=b/\b<=(np:Int)-1)):B0 np [a,b]=6:=by
 show Cn (Ea np [a,b]) 0 2=6;by_cases ha:0<=a/\a<=(np:Int)-1
 ·have h0:Ea np [a,b] 0=0:=if_neg (λe=>e ha);have h1:Ea np [a,b] 1=6:=if_pos (h.resolve_left λe=>e ha);simp [Cn,h0,h1]
 ·have h0:Ea np [a,b] 0=6:=if_pos ha;simp [Cn,h0]
theorem P6{a:Int}(ha:0<=a/\a<=(np:Int)-1):B0 np [a]=0:=by
 have h0:Ea np [a] 0=0:=if_neg (λe=>e ha);show Cn (Ea np [a]) 0 1=0;simp [Cn,h0]
theorem miss_no1{a:Int}(ha:¬(0<=a/\a<=(np:Int)-1)):B0 np [a]=6:=by
 have h0:Ea np [a] 0=6:=if_pos ha;show Cn (Ea np [a]) 0 1=6;simp [Cn,h0]
variable (ws k) in
def waP(np:Nat):Prop:=(0<=(ws.getD k AC.z).a/\(ws.getD k AC.z).a<=(np:Int)-1)/\(0<=(ws.getD k AC.z).b/\(ws.getD k AC.z).b<=(np:Int)-1)
theorem wy6(h:¬(0<=(ws.getD k AC.z).a/\(ws.getD k AC.z).a<=(np:Int)-1)\/¬(0<=(ws.getD k AC.z).b/\(ws.getD k AC.z).b<=(np:Int)-1)):C5 np ws k=6:=by
 unfold C5;rw [miss_no h,if_pos aC]
theorem wyP(h:¬(¬(0<=(ws.getD k AC.z).a/\(ws.getD k AC.z).a<=(np:Int)-1)\/¬(0<=(ws.getD k AC.z).b/\(ws.getD k AC.z).b<=(np:Int)-1))):waP ws k np:=⟨Decidable.byContradiction λe=>h (.inl e),Decidable.byContradiction λe=>h (.inr e)⟩
theorem wy7(h:waP ws k np)(h2:(ws.getD k AC.z).b<=(ws.getD k AC.z).a):C5 np ws k=7:=by
 unfold C5;rw [MF h.1 h.2,if_neg aD,if_pos h2]
theorem wy5(h:waP ws k np)(h2:¬(ws.getD k AC.z).b<=(ws.getD k AC.z).a)(h3:(ws.take k).any (λy=>decide (y.a=(ws.getD k AC.z).a/\y.b=(ws.getD k AC.z).b))=true):C5 np ws k=5:=by
 unfold C5;rw [MF h.1 h.2,if_neg aD,if_neg h2,if_pos h3]
theorem wy1(h:waP ws k np)(h2:¬(ws.getD k AC.z).b<=(ws.getD k AC.z).a)(h3:(ws.take k).any (λy=>decide (y.a=(ws.getD k AC.z).a/\y.b=(ws.getD k AC.z).b))=false)(h4:¬(((0<=(ws.getD k AC.z).low/\(ws.getD k AC.z).low<=(ws.getD k AC.z).high)/\(ws.getD k AC.z).high<=30)/\(ws.getD k AC.z).high-(ws.getD k AC.z).low<2)):C5 np ws k=1:=by
 unfold C5;rw [MF h.1 h.2,if_neg aD,if_neg h2,if_neg (by rw [h3];simp)];exact if_pos h4
theorem wy0(h:waP ws k np)(h2:¬(ws.getD k AC.z).b<=(ws.getD k AC.z).a)(h3:(ws.take k).any (λy=>decide (y.a=(ws.getD k AC.z).a/\y.b=(ws.getD k AC.z).b))=false)(h4:(((0<=(ws.getD k AC.z).low/\(ws.getD k AC.z).low<=(ws.getD k AC.z).high)/\(ws.getD k AC.z).high<=30)/\(ws.getD k AC.z).high-(ws.getD k AC.z).low<2)):C5 np ws k=0:=by
 unfold C5;rw [MF h.1 h.2,if_neg aD,if_neg h2,if_neg (by rw [h3];simp)];exact if_neg (λe=>e h4)
theorem UH(h:∀k,k<ws.length->C5 np ws k=0):LI np ws:=λk hk=>by
 have:=h k hk
 unfold C5 at this;split at this
 ·rename_i a;exact absurd this a
 ·rename_i a
  have q:=FT (Decidable.not_not.1 a);have q1:=q _ List.mem_cons_self;have q2:=q _ (List.mem_cons_of_mem _ List.mem_cons_self);omega
theorem rw2(h:(5:Int)<ws.length):Ez np ws=2:=if_pos h
theorem UI{c:Int}(h5:¬(5:Int)<ws.length)(hs:∀j,j<k->C5 np ws j=0)(hk:k<ws.length)(e:C5 np ws k=c)(hc:c≠0):Ez np ws=c:=by
 have h1:=BM hs hk e hc;rw [Ez,if_neg h5,h1,if_pos hc]
theorem rw8(h5:¬(5:Int)<ws.length)(hs:∀j,j<k->C5 np ws j=0)(hk:ws.length<=k)(h:((Cq ws).length:Int)<np):Ez np ws=8:=by
 rw [Ez,if_neg h5,Bi hs hk,if_neg aD,if_pos aA]
theorem rw0(h5:¬(5:Int)<ws.length)(hs:∀j,j<k->C5 np ws j=0)(hk:ws.length<=k)(h:¬((Cq ws).length:Int)<np):Ez np ws=0:=by
 rw [Ez,if_neg h5,Bi hs hk,if_neg aD,if_neg aA]
theorem jb6(h:¬(0<=(js.getD k AI.z).place/\(js.getD k AI.z).place<=(np:Int)-1)):FS np kinds js k=6:=by
 unfold FS;rw [miss_no1 h,if_pos aC]
theorem jb1(h:0<=(js.getD k AI.z).place/\(js.getD k AI.z).place<=(np:Int)-1)(h2:¬(((0<=(js.getD k AI.z).low/\(js.getD k AI.z).low<=(js.getD k AI.z).high)/\(js.getD k AI.z).high<=30)/\(js.getD k AI.z).high-(js.getD k AI.z).low<2)\/¬(0<=(js.getD k AI.z).due/\(js.getD k AI.z).due<=200)):FS np kinds js k=1:=by
 unfold FS;rw [P6 h,if_neg aD];exact if_pos h2
theorem jb2(h:0<=(js.getD k AI.z).place/\(js.getD k AI.z).place<=(np:Int)-1)(h2:¬(¬(((0<=(js.getD k AI.z).low/\(js.getD k AI.z).low<=(js.getD k AI.z).high)/\(js.getD k AI.z).high<=30)/\(js.getD k AI.z).high-(js.getD k AI.z).low<2)\/¬(0<=(js.getD k AI.z).due/\(js.getD k AI.z).due<=200)))(h3:¬((js.getD k AI.z).parts.length:Int)=kinds):FS np kinds js k=2:=by
 unfold FS;rw [P6 h,if_neg aD];exact (if_neg h2).trans (if_pos h3)
theorem jb3(h:0<=(js.getD k AI.z).place/\(js.getD k AI.z).place<=(np:Int)-1)(h2:¬(¬(((0<=(js.getD k AI.z).low/\(js.getD k AI.z).low<=(js.getD k AI.z).high)/\(js.getD k AI.z).high<=30)/\(js.getD k AI.z).high-(js.getD k AI.z).low<2)\/¬(0<=(js.getD k AI.z).due/\(js.getD k AI.z).due<=200)))(h3:((js.getD k AI.z).parts.length:Int)=kinds):FS np kinds js k=if (js.getD k AI.z).parts.any (λn=>decide (¬(0<=n/\n<=5))) then 1 else 0:=by
 unfold FS;rw [P6 h,if_neg aD];exact (if_neg h2).trans (if_neg (λe=>e h3))
theorem nt2(h:(5:Int)<(ns.getD k AJ.z).ways.length):Dj nw ns k=2:=if_pos h
theorem nt6(h:¬(5:Int)<(ns.getD k AJ.z).ways.length)(h2:(ns.getD k AJ.z).ways.any (λn=>decide (¬(0<=n/\n<=(nw:Int)-1)))=true):Dj nw ns k=6:=by
 unfold Dj;rw [if_neg h,if_pos h2]
theorem nt1(h:¬(5:Int)<(ns.getD k AJ.z).ways.length)(h2:(ns.getD k AJ.z).ways.any (λn=>decide (¬(0<=n/\n<=(nw:Int)-1)))=false)(h3:¬((0<=(ns.getD k AJ.z).low/\(ns.getD k AJ.z).low<=(ns.getD k AJ.z).high)/\(ns.getD k AJ.z).high<=200)):Dj nw ns k=1:=by
 unfold Dj;rw [if_neg h,if_neg (by rw [h2];simp),if_pos (λe=>h3 e.1)]
theorem nt0(h:¬(5:Int)<(ns.getD k AJ.z).ways.length)(h2:(ns.getD k AJ.z).ways.any (λn=>decide (¬(0<=n/\n<=(nw:Int)-1)))=false)(h3:(0<=(ns.getD k AJ.z).low/\(ns.getD k AJ.z).low<=(ns.getD k AJ.z).high)/\(ns.getD k AJ.z).high<=200):Dj nw ns k=0:=by
 unfold Dj;rw [if_neg h,if_neg (by rw [h2];simp),if_neg (λe=>e ⟨h3,aA⟩)]
end
section
variable {ps:List ByteArray} {k:Nat} {a b:List (Int×Int)}
theorem pa4(h:Ep (ps.getD k (⟨#[]⟩:ByteArray))=false):E9 ps k=4:=by unfold E9;rw [if_pos h]
theorem pa5(h:Ep (ps.getD k (⟨#[]⟩:ByteArray))=true)(h2:0<=idxOf (λx=>(ps.getD k (⟨#[]⟩:ByteArray)).toList==x.toList) (ps.take k)):E9 ps k=5:=by
 unfold E9;rw [if_neg (by rw [h];simp),if_pos ((E7 _ _).1 h2)]
theorem pa0(h:Ep (ps.getD k (⟨#[]⟩:ByteArray))=true)(h2:¬0<=idxOf (λx=>(ps.getD k (⟨#[]⟩:ByteArray)).toList==x.toList) (ps.take k)):E9 ps k=0:=by
 unfold E9;rw [if_neg (by rw [h];simp),if_neg λe=>h2 ((E7 _ _).2 e)]
theorem Rq(hs:a.take k=b.take k)(hk:k<=a.length)(h:¬(k:Int)<a.length)(hl:(a.length:Int)=b.length):a=b:=by
 rw [List.take_of_length_le aA,List.take_of_length_le aA] at hs;exact hs
theorem eq_getDP{k:Nat}(h:((a.getD k (0,0)).1==(b.getD k (0,0)).1 && ((a.getD k (0,0)).2==(b.getD k (0,0)).2 && true))=true):a.getD k (0,0)=b.getD k (0,0):=by
 simp only [Bool.and_true,Bool.and_eq_true,beq_iff_eq] at h;exact Prod.ext h.1 h.2
theorem ne_getDP{k:Nat}(h:(!((a.getD k (0,0)).1==(b.getD k (0,0)).1 && ((a.getD k (0,0)).2==(b.getD k (0,0)).2 && true)))=true):¬a=b:=λe=>by rw [e] at h;simp at h
end
section
variable (bag kinds:Int) (ps:List ByteArray) (ws:List AC) (js:List AI) (ns:List AJ)
def D9:Bool:=decide ((((20:Int)<ps.length\/(20:Int)<ws.length)\/(20:Int)<js.length)\/(20:Int)<ns.length) || ps.any (λs=>decide ((100:Int)<s.size)) || js.any (λj=>decide ((20:Int)<j.parts.length)) || ns.any λn=>decide ((20:Int)<n.ways.length)
def UJ:Bool:= !D9 ps ws js ns && decide (DX bag kinds ps ws js ns=0)
end
section
variable {ps:List ByteArray} {ws:List AC} {js:List AI} {ns:List AJ} {k:Nat}
theorem MG(h:D9 ps ws js ns=false)(k:Nat):(ps.getD k (⟨#[]⟩:ByteArray)).size<=1000:=by
 unfold D9 at h;simp only [Bool.or_eq_false_iff] at h;by_cases hk:k<ps.length
 ·have:=List.any_eq_false.1 h.1.1.2 _ (BX (d:=(⟨#[]⟩:ByteArray)) hk)
  have:=of_decide_eq_false (Bool.eq_false_iff.2 this)
  omega
 ·rw [Bf aA];decide
end
section
variable {bag kinds:Int} {ps:List ByteArray} {ws:List AC} {js:List AI} {ns:List AJ}
theorem H5(h:BJ ps=0):0<ps.length/\ps.length<=4:=by
 unfold BJ at h;split at h
 ·cases h
 ·omega
theorem rc1(h:¬(0<=bag/\bag<=9)\/¬(0<=kinds/\kinds<=3)):DX bag kinds ps ws js ns=1:=by
 have e:GB bag kinds=1:=if_pos h;unfold DX;rw [e,if_pos aC]
theorem tb0(h:¬(¬(0<=bag/\bag<=9)\/¬(0<=kinds/\kinds<=3))):GB bag kinds=0:=if_neg h
theorem rc2(h0:¬(¬(0<=bag/\bag<=9)\/¬(0<=kinds/\kinds<=3)))(h:¬BJ ps=0):DX bag kinds ps ws js ns=BJ ps:=by unfold DX;rw [tb0 h0,if_neg aD,if_pos h]
theorem rc3(h0:¬(¬(0<=bag/\bag<=9)\/¬(0<=kinds/\kinds<=3)))(h1:¬¬BJ ps=0)(h:¬Ez ps.length ws=0):DX bag kinds ps ws js ns=Ez ps.length ws:=by unfold DX;rw [tb0 h0,if_neg aD,if_neg h1,if_pos h]
theorem rc4(h0:¬(¬(0<=bag/\bag<=9)\/¬(0<=kinds/\kinds<=3)))(h1:¬¬BJ ps=0)(h2:¬¬Ez ps.length ws=0)(h:¬B1 ps.length kinds js=0):DX bag kinds ps ws js ns=B1 ps.length kinds js:=by unfold DX;rw [tb0 h0,if_neg aD,if_neg h1,if_neg h2,if_pos h]
theorem rc5(h0:¬(¬(0<=bag/\bag<=9)\/¬(0<=kinds/\kinds<=3)))(h1:¬¬BJ ps=0)(h2:¬¬Ez ps.length ws=0)(h:¬¬B1 ps.length kinds js=0):DX bag kinds ps ws js ns=CW ws.length ns:=by unfold DX;rw [tb0 h0,if_neg aD,if_neg h1,if_neg h2,if_neg h]
theorem gr_len(h:(((20:Int)<ps.length\/(20:Int)<ws.length)\/(20:Int)<js.length)\/(20:Int)<ns.length):D9 ps ws js ns=true:=by unfold D9;rw [decide_eq_true h];rfl
theorem gr_p(h:ps.any (λs=>decide ((100:Int)<s.size))=true):D9 ps ws js ns=true:=by unfold D9;rw [h];simp
theorem gr_j(h:js.any (λj=>decide ((20:Int)<j.parts.length))=true):D9 ps ws js ns=true:=by unfold D9;rw [h];simp
theorem gr_n(h:ns.any (λn=>decide ((20:Int)<n.ways.length))=true):D9 ps ws js ns=true:=by unfold D9;rw [h];simp
theorem gr_0(h:¬((((20:Int)<ps.length\/(20:Int)<ws.length)\/(20:Int)<js.length)\/(20:Int)<ns.length))(h1:ps.any (λs=>decide ((100:Int)<s.size))=false)(h2:js.any (λj=>decide ((20:Int)<j.parts.length))=false)(h3:ns.any (λn=>decide ((20:Int)<n.ways.length))=false):D9 ps ws js ns=false:=by
 unfold D9;rw [decide_eq_false h,h1,h2,h3];rfl
end
end Go.Ns
namespace Go.Ns
def Cs:List ByteArray:=[⟨#[119,111,114,107,115]⟩,⟨#[97,121,114]⟩,⟨#[98,117,116,101]⟩]
theorem C3:∀k,(Cs.getD k (⟨#[]⟩:ByteArray)).size<=1000
 | 0=>aC
 | 1=>aC
 | 2=>aC
 | k+3=>by rw [Bf (by simp [Cs])];decide
def Co:List AC:=[⟨0,1,2,3⟩,⟨1,2,4,4⟩,⟨0,2,5,5⟩]
def CL(a b c:Value):List AI:=[⟨1,1,1,5,a,[2]⟩,⟨2,1,2,12,b,[1]⟩,⟨0,1,1,20,c,[1]⟩]
theorem CQ.ex{h:GH}{t:TypeId}{a b c:Value}(x:B9 h t a [2])(y:B9 h t b [1])(z:B9 h t c [1]):CQ h t (CL a b c):=λk=>by
 match k with
 | 0=>exact x
 | 1=>exact y
 | 2=>exact z
 | k+3=>rw [Bf (by show 3<=_;omega)];exact B9.nil _ _
theorem AK.isSl{V:Type}{h:GH}{v:Value}{n:Nat}{enc:V->Array Value}{xs:List V}(x:AK h v n enc xs):∀k i,v≠.int k i:=by
 obtain ⟨a,cap,rfl,_⟩:=x;intro k i e;cases e
theorem AK.across9{h h':GH}{v:Value}{xs:List Int}{r:Nat}{a b c d:Value}{T:TypeId}(x:AK h v 1 eI xs)(hb:h r=some (true,.cells #[.int .i64 3,.int .i64 1,a,b,c,d] T (0,0)))(ho:∀y,y≠r->h' y=h y)
  (ha:∀k i,a≠.int k i) (hb':∀k i,b≠.int k i) (hc:∀k i,c≠.int k i) (hd:∀k i,d≠.int k i) (hx:∀o,o<6->∃i:Fin xs.length,(o+i.val=0->xs[i.val]≠3)/\(o+i.val=1->xs[i.val]≠1)):AK h' v 1 eI xs:=by
 obtain ⟨ad,cap,hv,hcap,hm,he⟩:=x;refine ⟨ad,cap,hv,hcap,hm,λi hi=>?_⟩;obtain ⟨y,off,h1,h2⟩:=he i hi;refine ⟨y,off,h1,h2.same (ho y ?_)⟩;rintro rfl;have key:∀j (hj:j<xs.length),off+j<6/\(#[Value.int .i64 3,.int .i64 1,a,b,c,d]:Array Value).extract (off+j) (off+j+1)=eI xs[j]:=λj hj=>by
  obtain ⟨y2,off2,h3,h4⟩:=he j hj;rw [h1] at h3;simp only [Option.some.injEq,Addr.mk.injEq,and_true] at h3;obtain ⟨rfl,rfl⟩:=h3;obtain ⟨p,cc,t,f,q1,q2,q3⟩:=h4;rw [hb] at q1;simp only [Option.some.injEq,Prod.mk.injEq,Obj.cells.injEq] at q1;obtain ⟨_,rfl,_⟩:=q1;rw [Nat.mul_one] at q2 q3;exact ⟨by simp at q2;omega,q3⟩
 obtain ⟨⟨j,hj⟩,e0,e1⟩:=hx off (by have:=(key i hi).1;omega);obtain ⟨k1,k2⟩:=key j hj;simp only at e0 e1;generalize off+j=o at k1 k2 e0 e1;generalize xs[j]=z at k2 e0 e1
 have:o=0\/o=1\/o=2\/o=3\/o=4\/o=5:=aA
 rcases this with rfl | rfl | rfl | rfl | rfl | rfl
 ·have k3:(#[.int .i64 3]:Array Value)=#[.int .i64 z]:=k2;simp at k3;exact e0 rfl k3.symm
 ·have k3:(#[.int .i64 1]:Array Value)=#[.int .i64 z]:=k2;simp at k3;exact e1 rfl k3.symm
 ·have k3:(#[a]:Array Value)=#[.int .i64 z]:=k2;simp at k3;exact ha _ _ k3
 ·have k3:(#[b]:Array Value)=#[.int .i64 z]:=k2;simp at k3;exact hb' _ _ k3
 ·have k3:(#[c]:Array Value)=#[.int .i64 z]:=k2;simp at k3;exact hc _ _ k3
 ·have k3:(#[d]:Array Value)=#[.int .i64 z]:=k2;simp at k3;exact hd _ _ k3
end Go.Ns
namespace Go.Ns
section
variable {m:EH} {b np i k n:Nat}
structure EH.Sym(m:EH):Prop where
 ok:m.ok
 diag:∀i,m i i=0
 sym:∀i k,m i k=m k i
theorem Vc(b i:Nat)(m:EH)(hd:m b b=0)(h0:m.ok):∀n x y,HX b i m n x y=if x=i/\y<n then min (m i y) (m i b+m b y) else m x y
 | 0,x,y=>by rw [if_neg aA];rfl
 | n+1,x,y=>by
  have ih:=Vc b i m hd h0 n;have e:HX b i m (n+1)=Og b i (HX b i m n) n:=Au _ _ _;rw [e];unfold Og EH.set;by_cases hxy:x=i/\y=n
  ·obtain ⟨rfl,rfl⟩:=hxy;rw [if_pos ⟨rfl,rfl⟩,if_pos ⟨rfl,Nat.lt_succ_self _⟩,ih x y,if_neg aA,ih x b,ih b y];have hb:=h0 x b;have hby:=h0 b y;have hd2:=hd;by_cases h1:x=x/\b<y
   ·rw [if_pos h1];by_cases h2:b=x/\y<y
    ·omega
    ·rw [if_neg h2];rw [hd2];omega
   ·rw [if_neg h1];by_cases h2:b=x/\y<y
    ·omega
    ·rw [if_neg h2]
  ·rw [if_neg hxy,ih x y];by_cases h1:x=i/\y<n
   ·rw [if_pos h1,if_pos ⟨h1.1,aA⟩]
   ·rw [if_neg h1,if_neg (λe=>h1 ⟨e.1,aA⟩)]
theorem AAB(b i:Nat)(m:EH)(hd:m b b=0)(h0:m.ok)(x y:Nat):Nz b np m i x y=if x=i/\y<np then min (m i y) (m i b+m b y) else m x y:=by
 unfold Nz;split
 ·rename_i e
  by_cases h1:x=i/\y<np
  ·obtain ⟨rfl,h2⟩:=h1;rw [if_pos ⟨rfl,h2⟩,e]
   have:=h0 x y
   have:=h0 b y
   omega
  ·rw [if_neg h1]
 ·exact Vc b i m hd h0 np x y
theorem Vd(b:Nat)(m:EH)(hd:m b b=0)(h0:m.ok):∀n x y,Ei b np m n x y=if x<n/\y<np then min (m x y) (m x b+m b y) else m x y
 | 0,x,y=>by rw [if_neg aA];rfl
 | n+1,x,y=>by
  have ih:=Vd b m hd h0 n;have e:Ei b np m (n+1)=Nz b np (Ei b np m n) n:=Au _ _ _;have hd2:Ei b np m n b b=0:=by rw [ih b b,hd];split <;> omega
  rw [e,AAB b n _ hd2 (Oh h0)];by_cases h1:x=n/\y<np
  ·obtain ⟨rfl,h2⟩:=h1;rw [if_pos ⟨rfl,h2⟩,if_pos ⟨Nat.lt_succ_self _,h2⟩,ih x y,if_neg aA,ih x b,if_neg aA,ih b y];have h3:=h0 x b;have h4:=h0 b y;by_cases h5:b<x/\y<np
   ·rw [if_pos h5,hd];omega
   ·rw [if_neg h5]
  ·rw [if_neg h1,ih x y];by_cases h2:x<n/\y<np
   ·rw [if_pos h2,if_pos ⟨aA,h2.2⟩]
   ·rw [if_neg h2,if_neg (λe=>aA)]
structure FW(np n:Nat)(m0 m:EH):Prop where
 s:m.Sym
 tri:∀c,c<n->∀i k,i<np->k<np->m i k<=m i c+m c k
 le:∀i k,m i k<=m0 i k
theorem FW.step{m0:EH}(h:FW np n m0 m)(hn:n<np):FW np (n+1) m0 (Ei n np m np):=by
 have g:=Vd (np:=np) n m (h.s.diag n) h.s.ok np;have s:=h.s;have p:=λi k=>s.ok i k;refine ⟨⟨Oh s.ok,λi=>?_,λi k=>?_⟩,λc hc i k hi hk=>?_,λi k=>?_⟩
 ·rw [g i i];have:=p i n;have:=p n i;have:=s.diag i;split <;> omega
 ·rw [g i k,g k i];have h1:=s.sym i k;have h2:=s.sym i n;have h3:=s.sym k n;by_cases c:i<np/\k<np
  ·rw [if_pos c,if_pos ⟨c.2,c.1⟩];omega
  ·rw [if_neg c,if_neg (λe=>c ⟨e.2,e.1⟩)];exact h1
 ·rw [g i k,g i c,g c k,if_pos ⟨hi,hk⟩,if_pos ⟨hi,aA⟩,if_pos ⟨aA,hk⟩];have d:=s.diag n
  have:=p i n
  have:=p n k
  have:=p n c
  have:=p c n
  rcases Nat.lt_or_ge c n with q | q
  ·have t1:=h.tri c q i k hi hk;have t2:=h.tri c q i n hi hn;have t3:=h.tri c q n k hn hk;omega
  ·have:c=n:=aA
   subst this;omega
 ·rw [g i k];have:=h.le i k;split <;> omega
theorem FW.all{m0:EH}(s:m0.Sym):∀n,n<=np->FW np n m0 (DA np m0 n)
 | 0,_=>⟨s,λc hc=>absurd hc (Nat.not_lt_zero _),λ_ _=>Int.le_refl _⟩
 | n+1,h=>by
  have ih:=FW.all s n aA;have e:DA np m0 (n+1)=Ei n np (DA np m0 n) np:=Au _ _ _;rw [e];exact ih.step aA
end
theorem Sm(i:Nat)(m:EH):∀n x y,G7 i m n x y=if x=i/\y<n/\i≠y then 1048576 else m x y
 | 0,x,y=>by rw [if_neg aA];rfl
 | n+1,x,y=>by
  have ih:=Sm i m n;have e:G7 i m (n+1)=LB i (G7 i m n) n:=Au _ _ _;rw [e];unfold LB;by_cases h:(i:Int)=(n:Int)
  ·rw [if_neg (λq=>q h),ih x y];by_cases c:x=i/\y<n/\i≠y
   ·rw [if_pos c,if_pos ⟨c.1,aA,c.2.2⟩]
   ·rw [if_neg c,if_neg (λq=>c ⟨q.1,aA,q.2.2⟩)]
  ·rw [if_pos h];show (if x=i/\y=n then 1048576 else G7 i m n x y)=_;by_cases c:x=i/\y=n
   ·rw [if_pos c,if_pos ⟨c.1,aA,aA⟩]
   ·rw [if_neg c,ih x y];by_cases d:x=i/\y<n/\i≠y
    ·rw [if_pos d,if_pos ⟨d.1,aA,d.2.2⟩]
    ·rw [if_neg d,if_neg (λq=>d ⟨q.1,aA,q.2.2⟩)]
theorem MH:∀n x y,Ij n x y=if x<n/\y<4/\x≠y then 1048576 else 0
 | 0,x,y=>by rw [if_neg aA];rfl
 | n+1,x,y=>by
  have ih:=MH n;have e:Ij (n+1)=G7 n (Ij n) 4:=Au _ _ _;rw [e,Sm,ih x y];by_cases c:x=n/\y<4/\n≠y
  ·rw [if_pos c,if_pos ⟨aA,c.2.1,aA⟩]
  ·rw [if_neg c];by_cases d:x<n/\y<4/\x≠y
   ·rw [if_pos d,if_pos ⟨aA,d.2⟩]
   ·rw [if_neg d,if_neg (λq=>aA)]
theorem far0_sym:(Ij 4).Sym:=⟨Yx,λi=>by rw [MH,if_neg (λq=>q.2.2 rfl)],λi k=>by
 rw [MH,MH];by_cases c:i<4/\k<4/\i≠k
 ·rw [if_pos c,if_pos ⟨c.2.1,c.1,c.2.2.symm⟩]
 ·rw [if_neg c,if_neg (λq=>c ⟨q.2.1,q.1,q.2.2.symm⟩)]⟩
section
variable {p:AB} {ws:List AC} {np:Nat}
structure UK(ws:List AC):Prop where
 rng:∀k,k<ws.length->0<=(ws.getD k AC.z).a/\(ws.getD k AC.z).a<(ws.getD k AC.z).b
 one:∀j k,j<k->k<ws.length->¬((ws.getD j AC.z).a=(ws.getD k AC.z).a/\(ws.getD j AC.z).b=(ws.getD k AC.z).b)
theorem wayFine(h:∀k,k<ws.length->C5 np ws k=0):UK ws:=by
 have key:∀k,k<ws.length->(0<=(ws.getD k AC.z).a)/\¬(ws.getD k AC.z).b<=(ws.getD k AC.z).a/\(ws.take k).any (λy=>decide (y.a=(ws.getD k AC.z).a/\y.b=(ws.getD k AC.z).b))=false:=λk hk=>by
  have w:=(UH h k hk).1.1
  have:=h k hk
  unfold C5 at this;split at this
  ·rename_i a;exact absurd this a
  ·split at this
   ·cases this
   ·rename_i b
    split at this
    ·cases this
    ·rename_i c
     exact ⟨w,b,by simpa using c⟩
 refine ⟨λk hk=>⟨(key k hk).1,by have:=(key k hk).2.1;omega⟩,λj k hj hk e=>?_⟩
 have:=(key k hk).2.2
 rw [Vb (d:=AC.z) hj aA (decide_eq_true e)] at this;cases this
theorem XB(m:EH)(k x y:Nat)(hk:(ws.getD k AC.z).a.toNat≠(ws.getD k AC.z).b.toNat):Mu p ws m k x y=if (x=(ws.getD k AC.z).a.toNat/\y=(ws.getD k AC.z).b.toNat)\/(x=(ws.getD k AC.z).b.toNat/\y=(ws.getD k AC.z).a.toNat) then p.ways k else m x y:=by
 unfold Mu EH.set;by_cases c:x=(ws.getD k AC.z).b.toNat/\y=(ws.getD k AC.z).a.toNat
 ·rw [if_pos c,if_pos (.inr c)]
 ·rw [if_neg c];by_cases d:x=(ws.getD k AC.z).a.toNat/\y=(ws.getD k AC.z).b.toNat
  ·rw [if_pos d,if_pos (.inl d)]
  ·rw [if_neg d,if_neg (λq=>q.elim d c)]
theorem OE(hp:Bs p)(hw:UK ws):∀n,n<=ws.length->(BF p ws n).Sym
 | 0,_=>far0_sym
 | n+1,h=>by
  have ih:=OE hp hw n aA;have r:=hw.rng n aA;have g:=λx y=>XB (p:=p) (ws:=ws) (BF p ws n) n x y aA;have e:BF p ws (n+1)=Mu p ws (BF p ws n) n:=Au _ _ _;refine ⟨LC hp,λi=>?_,λi k=>?_⟩
  ·rw [e,g,if_neg aA];exact ih.diag i
  ·rw [e,g,g];by_cases c:(i=(ws.getD n AC.z).a.toNat/\k=(ws.getD n AC.z).b.toNat)\/(i=(ws.getD n AC.z).b.toNat/\k=(ws.getD n AC.z).a.toNat)
   ·rw [if_pos c,if_pos aA]
   ·rw [if_neg c,if_neg aA];exact ih.sym i k
theorem XC(hp:Bs p)(hw:UK ws):FW np np (BF p ws ws.length) (Al np ws p):=FW.all (OE hp hw _ (Nat.le_refl _)) np (Nat.le_refl _)
end
end Go.Ns
namespace Go.Ns
section
variable {ws:List AC} {c:GY} {x:AC} {i n k np:Nat}
theorem J7(h:c i=true):GD c x i=true:=by
 unfold GD GY.set;by_cases e:i=x.b.toNat
 ·rw [if_pos e];by_cases e2:x.b.toNat=x.a.toNat
  ·rw [if_pos e2];rw [e,e2] at h;rw [h];simp
  ·rw [if_neg e2,<-e,h];simp
 ·rw [if_neg e];by_cases e2:i=x.a.toNat
  ·rw [if_pos e2,<-e2,h];simp
  ·rw [if_neg e2];exact h
theorem Ve(h:c x.a.toNat=true\/c x.b.toNat=true):GD c x x.a.toNat=true/\GD c x x.b.toNat=true:=by
 unfold GD GY.set;rcases h with h | h
 ·constructor
  ·by_cases e:x.a.toNat=x.b.toNat
   ·rw [if_pos e];simp [h]
   ·rw [if_neg e];simp [h]
  ·rw [if_pos rfl];simp [h]
 ·constructor
  ·by_cases e:x.a.toNat=x.b.toNat
   ·rw [if_pos e];simp [h]
   ·rw [if_neg e];simp [h]
  ·rw [if_pos rfl];simp [h]
theorem Hd:∀(l:List AC)(c:GY),c i=true->l.foldl GD c i=true
 | [],_,h=>h
 | x ::l,c,h=>Hd l _ (J7 h)
theorem JO:∀(l:List AC)(c:GY),x ∈ l->(c x.a.toNat=true\/c x.b.toNat=true)->l.foldl GD c x.a.toNat=true/\l.foldl GD c x.b.toNat=true
 | y ::l,c,hx,h=>by
  rcases List.mem_cons.1 hx with e | hx
  ·subst e;have b:=Ve h;exact ⟨Hd l _ b.1,Hd l _ b.2⟩
  ·exact JO l _ hx (h.imp J7 J7)
theorem J8:∀n (c:GY),EG ws (n+1) c=G6 ws (EG ws n c)
 | 0,_=>rfl
 | n+1,c=>J8 n (G6 ws c)
theorem M9{m:Nat}(h:EG ws n c i=true):∀d,m=n+d->EG ws m c i=true
 | 0,e=>by rw [e];exact h
 | d+1,e=>by
  rw [e,show n+(d+1)=(n+d)+1 by omega,J8];exact Hd ws _ (M9 h d rfl)
def c0:GY:=GY.none.set 0 true
def Il(ws:List AC)(l:List Int):Prop:=∀i,i<l.length->EG ws i c0 (l.getD i 0).toNat=true
theorem Il.snoc{l:List Int}{q:Int}(h:Il ws l)(hq:EG ws l.length c0 q.toNat=true):Il ws (l++[q]):=λi hi=>by
 rw [List.length_append,List.length_singleton] at hi;rw [FU];by_cases e:i<l.length
 ·rw [if_pos e];exact h i e
 ·rw [if_neg e,show i=l.length by omega,Nat.sub_self];exact hq
theorem Il.step{l:List Int}(h:Il ws l)(hk:k<l.length)(hx:x ∈ ws):Il ws (Cg l k x):=by
 have one:∀{l:List Int}{p q:Int},Il ws l->k<l.length->(x.a=p/\x.b=q\/x.b=p/\x.a=q)->Il ws (HI l k p q):=by
  intro l p q h hk hpq;unfold HI;split
  ·rename_i e
   have f:=h k hk;rw [<-e.1] at f;have g:EG ws (k+1) c0 q.toNat=true:=by
    rw [J8];rcases hpq with ⟨rfl,rfl⟩ | ⟨rfl,rfl⟩
    ·exact (JO ws _ hx (.inl f)).2
    ·exact (JO ws _ hx (.inr f)).1
   exact h.snoc (M9 g (l.length-(k+1)) aA)
  ·exact h
 have h1:=one h hk (.inl ⟨rfl,rfl⟩);have hl:=(H4 l k x.a x.b).length_le;exact one h1 aA (.inr ⟨rfl,rfl⟩)
theorem Il.ways{l:List Int}(h:Il ws l)(hk:k<l.length):∀j,j<=ws.length->Il ws (Ac ws l k j)
 | 0,_=>h
 | j+1,hj=>(Il.ways h hk j aA).step (Nat.lt_of_lt_of_le hk (FX j).length_le) (BX aA)
theorem NA:∀k,Il ws (Aj ws k)
 | 0=>λi hi=>by
  have:i=0:=by
   have:i<1:=hi
   omega
  subst this;rfl
 | k+1=>by
  unfold Aj;split
  ·rename_i e;exact (NA k).ways e _ (Nat.le_refl _)
  ·exact NA k
theorem MI(hn:0<np)(hw:LI np ws)(h:¬(Cq ws).length<np):Ee np ws=0:=by
 have ok:HA np (Cq ws):=Ik hn hw 4;have hl:=ok.len;have all:∀y,y<np->EG ws np c0 y=true:=λy hy=>by
  have mem:(y:Int) ∈ Cq ws:=Decidable.byContradiction λe=>by
   have:=(ok.snoc (x:=(y:Int)) ⟨aA,aA⟩ e).len
   rw [List.length_append,List.length_singleton] at this;omega
  obtain ⟨i,hi,e⟩:=List.mem_iff_getElem.1 mem;have f:EG ws i c0 ((Cq ws).getD i 0).toNat=true:=NA (ws:=ws) 4 i hi;have e2:(Cq ws).getD i 0=(y:Int):=by
   rw [List.getD_eq_getElem?_getD,List.getElem?_eq_getElem hi];exact e
  rw [e2] at f;exact M9 f (np-i) (by have hi':i<(Cq ws).length:=hi;omega)
 unfold Ee;rw [if_neg];intro e;obtain ⟨b,hb,hf⟩:=List.any_eq_true.1 e;unfold Ms at hb;obtain ⟨y,hy,rfl⟩:=List.mem_map.1 hb
 have:EG ws np (GY.none.set 0 true) y=true:=all y (List.mem_range.1 hy)
 rw [this] at hf;cases hf
end
section
variable {bag kinds:Int} {ps:List ByteArray} {ws:List AC} {js:List AI} {ns:List AJ}
theorem XD(hn:0<ps.length)(h:Ez ps.length ws=0):Dq ps.length ws=0:=by
 unfold Ez at h;split at h
 ·cases h
 ·rename_i a
  split at h
  ·rename_i b;exact absurd h b
  ·rename_i b
   split at h
   ·cases h
   ·rename_i c
    unfold Dq;rw [if_neg a,if_neg b];have z:=C4 (Decidable.not_not.1 b);exact MI hn (UH λk hk=>z k (Nat.zero_le _) aA) c
theorem Vf(h:DX bag kinds ps ws js ns=0):A0 bag kinds ps ws js ns=0:=by
 unfold DX at h;split at h
 ·rename_i a;exact absurd h a
 ·rename_i a
  split at h
  ·rename_i b;exact absurd h b
  ·rename_i b
   split at h
   ·rename_i c;exact absurd h c
   ·rename_i c
    split at h
    ·rename_i d;exact absurd h d
    ·rename_i d
     have h1:=Decidable.not_not.1 a;have h2:=Decidable.not_not.1 b;have h3:=XD (H5 h2).1 (Decidable.not_not.1 c);have h4:=Decidable.not_not.1 d;unfold A0;refine Bi (k:=5) (λj hj=>?_) (Nat.le_refl _)
     match j with
     | 0=>exact h1
     | 1=>exact h2
     | 2=>exact h3
     | 3=>exact h4
     | 4=>exact h
     | j+5=>omega
theorem fit9_ok(h:UJ bag kinds ps ws js ns=true):A0 bag kinds ps ws js ns=0/\∀k,(ps.getD k (⟨#[]⟩:ByteArray)).size<=1000:=by
 unfold UJ at h;rw [Bool.and_eq_true] at h;exact ⟨Vf (of_decide_eq_true h.2),MG (by simpa using h.1)⟩
end
end Go.Ns
namespace Go.Ns
open Go.Conc
section
variable {P:Program} {E:GW P} {O:Nat->Value} {ds:List Deferred} {h:GH} {T:(Nat->Value)->List Deferred->GH->Prop} {dst:Option Nat} {ty:TypeId} {pos:String} {af:Array Edge} {gd:Option (Nat×Bool)}
end
section
variable {F G:AB->Int} {l:List AB} {x:AB}
theorem ZA(h:0<l.length):∀k,k<=l.length-1->∃x ∈ l,VD F l k=F x
 | 0,_=>⟨_,BX h,rfl⟩
 | k+1,hk=>by
  obtain ⟨x,hx,e⟩:=ZA h k aA;rcases Int.le_total (VD F l k) (F ((l.drop 1).getD k AB.zero)) with q | q
  ·exact ⟨x,hx,(Int.min_eq_left q).trans e⟩
  ·exact ⟨_,Mx aA,Int.min_eq_right q⟩
theorem ZB(h:0<l.length):∀k,k<=l.length-1->∃x ∈ l,VE F l k=F x
 | 0,_=>⟨_,BX h,rfl⟩
 | k+1,hk=>by
  obtain ⟨x,hx,e⟩:=ZB h k aA;rcases Int.le_total (VE F l k) (F ((l.drop 1).getD k AB.zero)) with q | q
  ·exact ⟨_,Mx aA,Int.max_eq_right q⟩
  ·exact ⟨x,hx,(Int.max_eq_left q).trans e⟩
theorem Vg{k:Nat}:(l.drop 1).getD k AB.zero=l.getD (k+1) AB.zero:=by
 rw [List.getD_eq_getElem?_getD,List.getElem?_drop,<-List.getD_eq_getElem?_getD,Nat.add_comm]
theorem fLo_le:∀k j,j<=k->VD F l k<=F (l.getD j AB.zero)
 | 0,j,h=>by rw [show j=0 by omega];exact Int.le_refl _
 | k+1,j,h=>by
  show min (VD F l k) (F ((l.drop 1).getD k AB.zero))<=_;rcases Nat.lt_or_ge j (k+1) with q | q
  ·have:=fLo_le k j aA;omega
  ·have e:j=k+1:=aA
   subst e;rw [Vg];omega
theorem fHi_ge:∀k j,j<=k->F (l.getD j AB.zero)<=VE F l k
 | 0,j,h=>by rw [show j=0 by omega];exact Int.le_refl _
 | k+1,j,h=>by
  show _<=max (VE F l k) (F ((l.drop 1).getD k AB.zero));rcases Nat.lt_or_ge j (k+1) with q | q
  ·have:=fHi_ge k j aA;omega
  ·have e:j=k+1:=aA
   subst e;rw [Vg];omega
theorem ZC(hx:x ∈ l):∃j,j<=l.length-1/\x=l.getD j AB.zero:=by
 obtain ⟨j,hj,e⟩:=List.mem_iff_getElem.1 hx;exact ⟨j,aA,by rw [List.getD_eq_getElem?_getD,List.getElem?_eq_getElem hj];exact e.symm⟩
theorem MJ(hx:x ∈ l):B4 F l<=F x:=by obtain ⟨j,hj,rfl⟩:=ZC hx;exact fLo_le _ j hj
theorem MK(hx:x ∈ l):F x<=BG F l:=by obtain ⟨j,hj,rfl⟩:=ZC hx;exact fHi_ge _ j hj
theorem J9(h:0<l.length):∃x ∈ l,B4 F l=F x:=ZA h _ (Nat.le_refl _)
theorem KA(h:0<l.length):∃x ∈ l,BG F l=F x:=ZB h _ (Nat.le_refl _)
theorem XE(h:0<l.length)(e:∀x ∈ l,F x=G x):B4 F l=B4 G l:=by
 obtain ⟨x,hx,e1⟩:=J9 (F:=F) h;obtain ⟨y,hy,e2⟩:=J9 (F:=G) h
 have:=MJ (F:=F) hy
 have:=MJ (F:=G) hx
 have:=e x hx
 have:=e y hy
 omega
theorem XF(h:0<l.length)(e:∀x ∈ l,F x=G x):BG F l=BG G l:=by
 obtain ⟨x,hx,e1⟩:=KA (F:=F) h;obtain ⟨y,hy,e2⟩:=KA (F:=G) h
 have:=MK (F:=F) hy
 have:=MK (F:=G) hx
 have:=e x hx
 have:=e y hy
 omega
end
section
variable {bag kinds:Int} {ps:List ByteArray} {ws:List AC} {js:List AI} {ns:List AJ} {a b c:Int}
end
section
variable {bag kinds:Int} {ps:List ByteArray} {ws:List AC} {js:List AI} {ns:List AJ} {a b c s:Int}
end
end Go.Ns
namespace Go.Ns
open Go.Conc
section
variable {P:Program} {Post:Value->World->Prop}
def ZD(P:Program)(Post:Value->World->Prop):Wk P:=⟨true,Dt P Post,Kf⟩
theorem UL:K9 (ZD P Post):=⟨Post,rfl⟩
theorem AAC{f:FuncId}{fn:Func}{c:Code}{args:Array Value}{h:GH}{R:Value->GH->Prop}(hf:P.funcs[f]? =some fn)(hb:fn.body=some c)(hsz:args.size<=fn.ntmps)(hin:P.inits.idxOf? f=none)(hpost:∀v h',R v h'->∀w,Dz w h'->Post v w)
  (x:Tr ⟨ZD P Post,f,none,fn.ntmps⟩ c (λi=>args.getD i undef) [] h (λe O ds h'=>(e=.normal\/e=.ret)/\Ga P fn O R ds h')):Dt P Post (G (Frame.enter P f args .normal) []) h:=by
 have e0:Frame.enter P f args .normal=Ca (Frame.enter P f args .normal) (args++Array.replicate (fn.ntmps-args.size) undef) [] [.code c]:=by
  simp [Frame.enter,Ca,hf,hb]
 rw [e0];let L:Lv:=λj t ds h'=>(j=none\/j=some .ret)/\∃O,BU t fn.ntmps O/\Ga P fn O R ds h';have fin:∀O ds h' t k,BU t fn.ntmps O->Ga P fn O R ds h'->(ZD P Post).K (G (EX (Frame.enter P f args .normal) t ds k) []) h':=by
  intro O ds h' t k hs ho;refine Nf (W:=ZD P Post) (R:=R) hf (b:=Frame.enter P f args .normal) rfl (λt k v h h' hr hrun=>?_) ds h' t k hs ho;refine WQ rfl λw fw=>?_;obtain ⟨w',es,r1,r2⟩:=hrun w fw;refine ⟨v,w',seen P f es++ #[],h',?_,r2.sub (es':=seen P f es++ #[]) λe he=>?_,hpost v h' hr w' r2.fits⟩
  ·rw [Kw];unfold unwind;have hfn:(EX (Frame.enter P f args .normal) t [] k).fn=f:=rfl;have hk:(EX (Frame.enter P f args .normal) t [] k).kind=.normal:=rfl;have hm:(EX (Frame.enter P f args .normal) t [] k).mode=.returning:=rfl;have hd:(EX (Frame.enter P f args .normal) t [] k).defers=[]:=rfl;have ht:(EX (Frame.enter P f args .normal) t [] k).tmps=t:=rfl;simp only [hd,hm,hfn,hf,ht,r1,GStep.after,doReturn,hk,hin];rfl
  ·rw [Array.append_empty] at he;exact mem_seen he
 refine x (Frame.enter P f args .normal) [] [] L _ rfl rfl ⟨?_,?_,?_⟩ ⟨by simp;omega,λi=>?_⟩ ?_
 ·rintro t ds h' ⟨_,O,hs,ho⟩;exact Wk.go (EX (Frame.enter P f args .normal) t ds []) (λw=>by rw [Ay];simp [stepG.exec,Ca,EX,G,Frame.enter]) (fin O ds h' t [] hs ho)
 ·rintro t ds h' k ⟨_,O,hs,ho⟩;exact Wk.go (EX (Frame.enter P f args .normal) t ds (.code .ret ::k)) (λw=>by rw [Ay];simp [stepG.exec,Ca,EX,G,Frame.enter]) (fin O ds h' t _ hs ho)
 ·rintro id t ds h' k _ ⟨h1 | h1,_⟩ <;> cases h1
 ·by_cases hi:i<args.size
  ·simp [Array.getD_eq_getD_getElem?,Array.getElem?_append_left hi]
  ·simp only [Array.getD_eq_getD_getElem?];rw [Array.getElem?_append_right aA,Array.getElem?_eq_none (show args.size<=i by omega),Array.getElem?_replicate];split <;> rfl
 ·rintro e O ds h' ⟨he,ho⟩ t' ht';rcases he with rfl | rfl
  ·exact Wk.go (EX (Frame.enter P f args .normal) t' ds []) (λw=>by rw [Ay];simp [stepG.exec,Ca,EX,G,Frame.enter]) (fin O ds h' t' [] ht' ho)
  ·exact ⟨.inr rfl,O,ht',ho⟩
def GH.of(W:World):GH:=λb=>(W.heap[b]?).map λo=>(false,o)
theorem GH.of_some{W:World}{b:Nat}{o:Obj}(h:W.heap[b]? =some o):GH.of W b=some (false,o):=by unfold GH.of;rw [h];rfl
theorem fits_of(W:World):Dz W (GH.of W):=λb p o h=>by
 unfold GH.of at h;cases e:W.heap[b]? with
 | none=>rw [e] at h;cases h
 | some x=>rw [e] at h;cases h;rfl
theorem kept_of{W w:World}{h:GH}(l:(GH.of W).Le h)(f:Dz w h){b:Nat}{o:Obj}(hb:W.heap[b]? =some o):w.heap[b]? =some o:=f b _ _ (l.keep (GH.of_some hb) rfl)
theorem XG{g:Goroutine}{W:World}(hg:Dt P Post g (GH.of W)):Bl P (Iw Post W.os W.output) (solo g W) #[]:=by
 have hno:∀k a,touchAt (#[]:Trace) k=some a->False:=λk a h=>by
  obtain ⟨op,h1,_⟩:=touch_of h;simp at h1
 refine hg #[g] W none (λ_=>0) #[] ⟨rfl,?_,fits_of W,?_,?_,λk a b hk=>(hno k a hk).elim,?_,λk a hk=>(hno k a hk).elim,λb p o k a _ _ hk=>(hno k a hk).elim⟩
 ·intro j x hj hx;rw [Array.getElem?_eq_none (by simp;omega)] at hx;cases hx
 ·intro op hop;simp at hop
 ·rintro said ⟨i,j,hij,⟨a,b,ha,_⟩,_⟩;exact hno i a ha
 ·intro op hop;simp at hop
end
end Go.Ns
namespace Go.Ns
open Go.Conc Go.ChangeShapes Go.WideShapes Go.ChangeAt Go.RowKit
section
variable {P:Program} {W:World}
theorem XH{b off n:Nat}{cs:List Value}(h:W.cells? 0 ⟨b,off,none⟩ n=some cs)(hn:0<n):AX (GH.of W) b off n cs.toArray:=by
 obtain ⟨_,hl,hc⟩:=World.cells?_some h;have hcell:∀i,i<n->W.cell? ⟨b,off+i,none⟩=cs[i]? :=λi hi=>by
  have:=hc i hi
  unfold Addr.add at this;split at this
  ·rename_i e;subst e;exact this
  ·exact this
 have h0:=hcell 0 hn;unfold World.cell? at h0;cases hb:W.heap[b]? with
 | none=>simp [hb,List.getElem?_eq_getElem (show 0<cs.length by omega)] at h0
 | some o=>
  cases o with
  | cells c t f=>
   have hall:∀i,i<n->c[off+i]? =cs[i]? :=λi hi=>by
    have:=hcell i hi
    unfold World.cell? at this;simpa [hb] using this
   have hlast:=hall (n-1) aA;rw [List.getElem?_eq_getElem (show n-1<cs.length by omega)] at hlast;have hsz:=(Array.getElem?_eq_some_iff.1 hlast).1;refine ⟨false,c,t,f,GH.of_some hb,aA,?_⟩;apply Array.ext
   ·simp;omega
   ·intro i h1 h2;have hi:i<n:=by simp at h2;omega
    have:=hall i hi
    rw [Array.getElem?_eq_getElem aA,List.getElem?_eq_getElem aA] at this;simpa using this
  | _=>simp [hb,List.getElem?_eq_getElem (show 0<cs.length by omega)] at h0
def LJ(P:Program)(W:World)(e:TypeId){V:Type}(enc:V->Array Value)(good:V->Prop):Prop:=
 ∀{H:Type}(en:TypeId×Value->H)(sp:Nat->Bool)(held:Bool)(fuel:Nat)(cs:List Value)(x:DataW H×List MemPlace),DataW.trod en P W 0 sp held fuel e cs=some x->(∀y ∈ x.1.weights P e,y<=reachBytes)->∃a:V,cs=(enc a).toList/\good a
theorem KB{H:Type}{e:TypeId}{d:DataW H}{y:Nat}:∀{l:List (DataW H)},d ∈ l->y ∈ d.weights P e->y ∈ DataW.weightsAll P e l
 | c ::l,hd,hy=>by
  unfold DataW.weightsAll;rcases List.mem_cons.1 hd with rfl | hd
  ·exact List.mem_append_left _ hy
  ·exact List.mem_append_right _ (KB hd hy)
theorem Im{H:Type}{en:TypeId×Value->H}{sp:Nat->Bool}{held:Bool}{fuel:Nat}{t e:TypeId}{n:Nat}{V:Type}{enc:V->Array Value}{good:V->Prop}{v:Value}{d:DataW H}{ps:List MemPlace}(ht:P.underlying t=some (.slice e))(hc:P.cellsOf e=n)(hn:0<n)
  (hb:1<=P.bytesOf e) (ho:LJ P W e enc good) (h:DataW.trod en P W 0 sp held fuel t [v]=some (d,ps)) (hw:∀y ∈ d.weights P t,y<=reachBytes):∃xs:List V,AK (GH.of W) v n enc xs/\∀x ∈ xs,good x:=by
 rcases DataW.trod_slice ht h with ⟨h1,_⟩ | ⟨a,len,cap,elems,rest,m,rfl,h1,h2,_,hl,_,hlen,hel,_,_⟩
 ·simp at h1;subst h1;exact ⟨[],AK.nil _ _ _,λx hx=>by cases hx⟩
 ·simp only [List.cons.injEq,and_true] at h1;subst h1;simp only [Prod.mk.injEq] at h2;have hd:d=.slice (elems.map (·.1)) (rest.map (·.1)):=h2.1;have hlim:len<=140737488355328:=by
   have:=hw ((elems.map (·.1)).length+(rest.map (·.1)).length |>.mul (P.bytesOf e)) (by rw [hd];unfold DataW.weights;rw [ht];exact List.mem_cons_self ..)
   have h3:(elems.map (·.1)).length+(rest.map (·.1)).length<=((elems.map (·.1)).length+(rest.map (·.1)).length)*P.bytesOf e:=Nat.le_mul_of_pos_right _ hb;have h4:((elems.map (·.1)).length+(rest.map (·.1)).length)*P.bytesOf e<=reachBytes:=this;rw [List.length_map] at h3 h4;unfold reachBytes at h4;omega
  have each:∀i,i<len->∃x:V,∃b off,a=⟨b,off,none⟩/\AX (GH.of W) b (off+i*n) n (enc x)/\good x:=λi hi=>by
   have:=hel i hi
   rw [List.getElem?_eq_getElem aA,hc] at this;simp only [Option.bind_eq_some_iff] at this;obtain ⟨cs,hcs,hx⟩:=this;obtain ⟨x,e1,e2⟩:=ho _ _ _ _ _ _ hx λy hy=>hw y (by rw [hd];unfold DataW.weights;rw [ht];exact List.mem_cons_of_mem _ (List.mem_append_left _ (KB (List.mem_map.2 ⟨_,List.getElem_mem (show i<elems.length by omega),rfl⟩) hy)));have hc0:=(World.cells?_some hcs).2.2 0 hn;have hlen2:=(World.cells?_some hcs).2.1;rw [List.getElem?_eq_getElem (show 0<cs.length by omega)] at hc0;have hsp:=World.cell?_spot hc0;obtain ⟨b,off,spot⟩:=a;have hspot:spot=none\/i≠0:=by
    by_cases e0:i=0
    ·subst e0;left;simpa [Addr.add] using hsp
    ·exact .inr e0
   have hfirst:spot=none:=by
    rcases hspot with e | e
    ·exact e
    ·have h00:=hel 0 aA;rw [List.getElem?_eq_getElem aA,hc] at h00;simp only [Option.bind_eq_some_iff] at h00;obtain ⟨c0,hc00,_⟩:=h00;have z:=(World.cells?_some hc00).2.2 0 hn;have zl:=(World.cells?_some hc00).2.1;rw [List.getElem?_eq_getElem (show 0<c0.length by omega)] at z
     have:=World.cell?_spot z
     simpa [Addr.add] using this
   subst hfirst;refine ⟨x,b,off,rfl,?_,e2⟩;have ea:(Addr.add ⟨b,off,none⟩ (i*n))=⟨b,off+i*n,none⟩:=by
    unfold Addr.add;split
    ·rename_i e;rw [e];rfl
    ·rfl
   rw [ea] at hcs
   have:=XH hcs hn
   rw [e1] at this;simpa using this
  by_cases hz:len=0
  ·subst hz;exact ⟨[],⟨some a,cap,rfl,Nat.zero_le _,Nat.zero_le _,λi hi=>by simp at hi⟩,λx hx=>by cases hx⟩
  ·have hch:∀i:Fin len,∃x:V,∃b off,a=⟨b,off,none⟩/\AX (GH.of W) b (off+i.val*n) n (enc x)/\good x:=λi=>each i.val i.isLt;refine ⟨List.ofFn λi=>Classical.choose (hch i),⟨some a,cap,by rw [List.length_ofFn],by rw [List.length_ofFn];exact hl,by rw [List.length_ofFn];exact hlim,λi hi=>?_⟩,λx hx=>?_⟩
   ·rw [List.length_ofFn] at hi;obtain ⟨b,off,e1,e2,_⟩:=Classical.choose_spec (hch ⟨i,hi⟩);refine ⟨b,off,by rw [e1],?_⟩;rw [List.getElem_ofFn];exact e2
   ·obtain ⟨i,rfl⟩:=List.mem_ofFn.1 hx;obtain ⟨_,_,_,_,e3⟩:=Classical.choose_spec (hch i);exact e3
theorem NB{H:Type}{en:TypeId×Value->H}{t:TypeId}(hl:laidOutB P=true)(hr:P.readableRec t=true)(hrow:t<P.types.size){W':World}{v:Value}{d:DataW H}{ps:List MemPlace}(h:DataW.Trod en P W 0 (λ_=>true) true t v d ps)
  (hk:∀(b:Nat)(o:Obj),W.heap[b]? =some o->W'.heap[b]? =some o) (hlt:∀x ∈ ps,x.block<W.heap.size):DataW.Trod en P W' 0 (λb=>decide (b<W.heap.size)) true t v d ps:=by
 let W2:World:={ W' with os:=W.os,tape:=W.tape,output:=W.output };have hsz:W.heap.size<=W'.heap.size:=by
  rcases Nat.lt_or_ge W'.heap.size W.heap.size with x | x
  ·have:=hk W'.heap.size _ (Array.getElem?_eq_getElem x)
   rw [Array.getElem?_eq_none (Nat.le_refl _)] at this;cases this
  ·exact x
 have hb:Below W.heap.size W W2:=⟨rfl,rfl,rfl,hsz,λk hk'=>by
  show W'.heap[k]? =_;rw [Array.getElem?_eq_getElem hk'];exact hk k _ (Array.getElem?_eq_getElem hk')⟩
 exact DataW.Trod.of_heap (w:=W2) (w':=W') rfl (Below.trod hl hr hrow h hb hlt)
theorem kept_but{W':World}(hk:∀(b:Nat)(o:Obj),W.heap[b]? =some o->W'.heap[b]? =some o)(ho:W'.os=W.os)(hp:W'.output=W.output)(may:MemPlace->Prop):W.keptBut W' may:=by
 refine ⟨ho,hp,λi hi=>?_⟩;rw [hk i _ (Array.getElem?_eq_getElem hi),Array.getElem?_eq_getElem hi];split <;> simp_all
end
end Go.Ns
namespace Go.Ns
open Go.Conc
theorem LK{P:Program}{E:GW P}{O:Nat->Value}{ds:List Deferred}{h:GH}{T:(Nat->Value)->List Deferred->GH->Prop}{dst:Option Nat}{ty:TypeId}{pos:String}{af:Array Edge}{gd:Option (Nat×Bool)}{V:Type}
  {s x:TypeId} {o1 o2:Operand} {h0:GH} {w:Value} {r e n bytes:Nat} {enc:V->Array Value} {ys:List V} (ht:If P s x=some (e,n,bytes)) (h1:AN O o1=.slice (some ⟨r,0,none⟩) 0 0) (h2:AN O o2=w)
  (hv:AO h0 h (.slice (some ⟨r,0,none⟩) 0 0) e n enc ([]:List V)) (hw:AK h w n enc ys) (l0:∀q,h q=none->h0 q=none) (hb:(2*(([]:List V).length+ys.length)+512)*bytes<=2 ^ 48) (hfine:∀y ∈ ys,(enc y).toList.all (·.oneCell')=true)
  (k:∀v' h',AO h0 h' v' e n enc ys->GX h h' (.slice (some ⟨r,0,none⟩) 0 0) v'->h.Le h'->T (putS O dst v') ds h'):BR E ⟨dst,.call ⟨.builtin .append,#[o1,o2],#[s,x]⟩,ty,pos,af,gd⟩ O ds h T:=
 O1 ht h1 h2 hv hw l0 hb hfine λv' h' o g1 g2 g3=>k v' h' o ⟨g1,g2⟩ (.of λb y hb=>by
  by_cases e:b=r
  ·subst e;rcases hv with ⟨q,_⟩ | ⟨b1,cap,c,q,_,q2,q3,_⟩
   ·cases q
   ·simp only [Value.slice.injEq,Option.some.injEq,Addr.mk.injEq,and_true] at q;obtain ⟨rfl,_,rfl⟩:=q;obtain ⟨c',q5,q6⟩:=g3 b c rfl q2;rw [q2] at hb;cases hb;rw [q5,Array.eq_empty_of_size_eq_zero (show c.size=0 by omega),Array.eq_empty_of_size_eq_zero (show c'.size=0 by omega)]
  ·exact g1 b y hb λq=>e (by simpa [CM] using q.symm))
def GJ(n:Nat)(l:List Int):Prop:=l.Nodup/\∀x ∈ l,0<=x/\x<n
section
variable {n i:Nat} {l kn rest:List Int}
theorem GJ.at(h:GJ n l)(k:Nat)(hk:k<l.length):0<=l.getD k 0/\l.getD k 0<n:=h.2 _ (BX hk)
theorem GJ.bell(h:GJ n l):Ag n l=0:=Bi (k:=l.length) (λj hj=>by
 have r:=h.at j hj;have e:FB n (l.getD j 0)=0:=by unfold FB;rw [if_neg aA]
 unfold HY;rw [if_neg (λq=>q e),if_neg];intro q;obtain ⟨x,hx,e2⟩:=List.any_eq_true.1 q;have e3:l.getD j 0=x:=of_decide_eq_true e2;obtain ⟨t,ht,e4⟩:=List.mem_iff_getElem.1 hx;rw [List.length_take] at ht;rw [List.getElem_take] at e4
 have:=(List.pairwise_iff_getElem.1 (List.nodup_iff_pairwise_ne.1 h.1)) t j aA hj aA
 rw [D2 0 hj] at e3;exact this (e4.trans e3.symm)) (Nat.le_refl _)
theorem GJ.len(h:GJ n l):l.length<=n:=Hk h.bell
theorem GJ.erase(h:GJ n l)(i:Nat):GJ n (l.eraseIdx i):=⟨h.1.sublist (List.eraseIdx_sublist ..),λx hx=>h.2 x ((List.eraseIdx_sublist ..).subset hx)⟩
theorem GJ.left(h:GJ n (kn++rest)):GJ n kn:=⟨(List.nodup_append.1 h.1).1,λx hx=>h.2 x (List.mem_append_left _ hx)⟩
theorem perm_out{l:List Int}:∀{i:Nat}(hi:i<l.length),([l[i]]++l.eraseIdx i).Perm l:=by
 induction l with
 | nil=>intro i hi;cases hi
 | cons x l ih=>
  intro i hi;cases i with
  | zero=>exact List.Perm.refl _
  | succ i=>exact (List.Perm.swap _ _ _).trans ((ih (Nat.lt_of_succ_lt_succ hi)).cons x)
theorem GJ.next(h:GJ n (kn++rest))(hi:i<rest.length):GJ n (kn++[rest.getD i 0]++rest.eraseIdx i):=by
 have p:(kn++[rest.getD i 0]++rest.eraseIdx i).Perm (kn++rest):=by
  rw [List.append_assoc];refine List.Perm.append_left kn ?_;rw [D2 0 hi];exact perm_out hi
 exact ⟨p.nodup_iff.2 h.1,λx hx=>h.2 x (p.mem_iff.1 hx)⟩
theorem GJ.first(n:Nat):GJ n (CE n):=by
 induction n with
 | zero=>exact ⟨List.nodup_nil,λx hx=>by cases hx⟩
 | succ n ih=>
  have m:∀x ∈ CE n,0<=x/\x<(n:Int):=ih.2;refine ⟨List.nodup_append.2 ⟨ih.1,aD,λa ha b hb e=>?_⟩,λx hx=>?_⟩
  ·rw [List.mem_singleton.1 hb] at e
   have:=m a ha
   omega
  ·rcases List.mem_append.1 hx with hx | hx
   ·have:=m x hx
    omega
   ·rw [List.mem_singleton.1 hx];omega
end
def FD:Nat->Nat
 | 0=>1
 | n+1=>1+(n+1)*FD n
theorem P7:∀n,n<=4->FD n<=65
 | 0,_=>aC
 | 1,_=>aC
 | 2,_=>aC
 | 3,_=>aC
 | 4,_=>aC
 | n+5,h=>aA
theorem XI{n i:Nat}(hn:n<=4)(hi:i<=n):1+i*FD (n-1)<=65:=by
 rcases Nat.eq_zero_or_pos n with e | e
 ·subst e
  have:i=0:=aA
  subst this;decide
 ·have h:=P7 n hn;have e2:FD n=1+n*FD (n-1):=by
   cases n with
   | zero=>omega
   | succ n=>rfl
  have:=Nat.mul_le_mul_right (FD (n-1)) hi
  omega
theorem Vh{n i:Nat}(hi:i=n){m:Nat}(h:m<=1+i*FD (n-1)):m<=FD n:=by
 subst hi;cases i with
 | zero=>simp at h;exact h
 | succ i=>exact h
def HN(n:Nat)(xl:List Sl):Prop:=∀x ∈ xl,GJ n x.2
section
variable {n:Nat} {a b:List Sl}
theorem HN.app(ha:HN n a)(hb:HN n b):HN n (a++b):=λx hx=>(List.mem_append.1 hx).elim (ha x) (hb x)
theorem HN.one{v:Value}{l:List Int}(h:GJ n l):HN n [(v,l)]:=λx hx=>by rw [List.mem_singleton.1 hx];exact h
theorem HN.at(h:HN n a){k:Nat}(hk:k<a.length):GJ n (a.getD k Sl.z).2:=h _ (BX hk)
end
section
variable {l:List Int} {i q:Nat}
theorem P8(hq:q<i):(l.eraseIdx i).getD q 0=l.getD q 0:=by
 rw [List.getD_eq_getElem?_getD,List.getElem?_eraseIdx,if_pos hq,<-List.getD_eq_getElem?_getD]
theorem ML(hq:i<=q):(l.eraseIdx i).getD q 0=l.getD (q+1) 0:=by
 rw [List.getD_eq_getElem?_getD,List.getElem?_eraseIdx,if_neg aA,<-List.getD_eq_getElem?_getD]
end
section
variable {bag kinds:Int} {ps:List ByteArray} {ws:List AC} {js:List AI} {ns:List AJ} {l:List Int} {p:AB} {i:Nat}
theorem P9(np:Nat):∀q,q<=i->A5 np ws js p (l.eraseIdx i) q=A5 np ws js p l q/\Cj js (l.eraseIdx i) q=Cj js l q
 | 0,_=>⟨rfl,rfl⟩
 | q+1,h=>by
  have ih:=P9 np q aA;have e:=P8 (l:=l) (show q<i by omega);constructor
  ·unfold A5;rw [ih.1,ih.2,e]
  ·show (js.getD ((l.eraseIdx i).getD q 0).toNat AI.z).place=(js.getD (l.getD q 0).toNat AI.z).place;rw [e]
theorem goNow_ge(bk:A8 bag kinds ps ws js ns)(hp:Bs p)(hr:GJ js.length l)(hi:i<l.length):∀q,i<=q->q+1<=l.length->∀x,x<ps.length->
  A5 ps.length ws js p (l.eraseIdx i) q+Al ps.length ws p (Cj js (l.eraseIdx i) q).toNat x<=A5 ps.length ws js p l (q+1)+Al ps.length ws p (Cj js l (q+1)).toNat x:=by
 have fw:=XC (np:=ps.length) hp (wayFine bk.way);have rng:=Pi bk hr.at;intro q
 induction q with
 | zero=>
  intro h1 h2 x hx;have e0:i=0:=aA
  subst e0;have r0:=rng 0 aA;have r1:=rng 1 aA;have t:=fw.tri (Cj js l 1).toNat aA (Cj js l 0).toNat x aA hx;have w:=hp.works (l.getD 0 0).toNat;show A5 ps.length ws js p _ 0+Al ps.length ws p (Cj js l 0).toNat x<=(A5 ps.length ws js p l 0+(Al ps.length ws p (Cj js l 0).toNat (Cj js l 1).toNat+p.works (l.getD 0 0).toNat))+Al ps.length ws p (Cj js l 1).toNat x;show (0:Int)+_<=(0+_)+_;omega
 | succ q ih=>
  intro h1 h2 x hx;rcases Nat.lt_or_ge q i with c | c
  ·have e:q+1=i:=aA
   obtain ⟨a1,a2⟩:=P9 (ws:=ws) (js:=js) (p:=p) (l:=l) (i:=i) ps.length (q+1) aA;rw [a1,a2];have r0:=rng (q+1) aA;have r1:=rng (q+2) aA;have t:=fw.tri (Cj js l (q+2)).toNat aA (Cj js l (q+1)).toNat x aA hx;have w:=hp.works (l.getD (q+1) 0).toNat;show _<=(A5 ps.length ws js p l (q+1)+(Al ps.length ws p (Cj js l (q+1)).toNat (Cj js l (q+2)).toNat+p.works (l.getD (q+1) 0).toNat))+Al ps.length ws p (Cj js l (q+2)).toNat x;omega
  ·have r2:=rng (q+2) aA;have e:=ML (l:=l) c;have b:=ih c aA (Cj js l (q+2)).toNat aA;have e2:Cj js (l.eraseIdx i) (q+1)=Cj js l (q+2):=by show (js.getD ((l.eraseIdx i).getD q 0).toNat AI.z).place=(js.getD (l.getD (q+1) 0).toNat AI.z).place;rw [e]
   rw [e2];show (A5 ps.length ws js p (l.eraseIdx i) q+(Al ps.length ws p (Cj js (l.eraseIdx i) q).toNat (Cj js (l.eraseIdx i) (q+1)).toNat+p.works ((l.eraseIdx i).getD q 0).toNat))+Al ps.length ws p (Cj js l (q+2)).toNat x<=(A5 ps.length ws js p l (q+1)+(Al ps.length ws p (Cj js l (q+1)).toNat (Cj js l (q+2)).toNat+p.works (l.getD (q+1) 0).toNat))+Al ps.length ws p (Cj js l (q+2)).toNat x;rw [e,e2];omega
theorem XJ(bk:A8 bag kinds ps ws js ns)(hp:Bs p)(hr:GJ js.length l)(hi:i<l.length){k:Nat}(hk:i<=k)(hk2:k+1<l.length):A5 ps.length ws js p (l.eraseIdx i) (k+1)<=A5 ps.length ws js p l (k+2):=by
 have r2:=Pi bk hr.at (k+2) aA;have b:=goNow_ge bk hp hr hi k hk aA (Cj js l (k+2)).toNat aA;have e:=ML (l:=l) hk;have e2:Cj js (l.eraseIdx i) (k+1)=Cj js l (k+2):=by show (js.getD ((l.eraseIdx i).getD k 0).toNat AI.z).place=(js.getD (l.getD (k+1) 0).toNat AI.z).place;rw [e]
 show A5 ps.length ws js p (l.eraseIdx i) k+(Al ps.length ws p (Cj js (l.eraseIdx i) k).toNat (Cj js (l.eraseIdx i) (k+1)).toNat+p.works ((l.eraseIdx i).getD k 0).toNat)<=A5 ps.length ws js p l (k+1)+(Al ps.length ws p (Cj js l (k+1)).toNat (Cj js l (k+2)).toNat+p.works (l.getD (k+1) 0).toNat);rw [e,e2];omega
theorem addP_all(out ps:List Int)(hl:ps.length=out.length)(j:Nat):(GV out ps ps.length).getD j 0=out.getD j 0+ps.getD j 0:=by
 rw [L7 out ps hl _ (Nat.le_refl _) j];split
 ·rfl
 ·rw [show ps.getD j 0=0 from Bf aA];omega
theorem II(bk:A8 bag kinds ps ws js ns){l:List Int}{q:Nat}(hq:0<=l.getD q 0/\l.getD q 0<js.length)(j:Nat):(Bp kinds js l (q+1)).getD j 0=(Bp kinds js l q).getD j 0+(js.getD (l.getD q 0).toNat AI.z).parts.getD j 0:=by
 have x:=(LD bk hq).len;exact addP_all _ _ (by rw [H0 bk q];omega) j
theorem Sn:∀q,q<=i->Bp kinds js (l.eraseIdx i) q=Bp kinds js l q
 | 0,_=>rfl
 | q+1,h=>by unfold Bp;rw [Sn q aA,P8 (show q<i by omega)]
theorem AAD(bk:A8 bag kinds ps ws js ns)(hr:GJ js.length l)(j:Nat):∀q,i<=q->q+1<=l.length->(Bp kinds js l (q+1)).getD j 0=(Bp kinds js (l.eraseIdx i) q).getD j 0+(js.getD (l.getD i 0).toNat AI.z).parts.getD j 0:=by
 intro q
 induction q with
 | zero=>
  intro h1 h2;have e0:i=0:=aA
  subst e0;rw [II bk (hr.at 0 aA) j];rfl
 | succ q ih=>
  intro h1 h2;rcases Nat.lt_or_ge q i with c | c
  ·have e:q+1=i:=aA
   rw [II bk (hr.at (q+1) aA) j,Sn (q+1) aA,e]
  ·have g:=ML (l:=l) c;rw [II bk (hr.at (q+1) aA) j,ih c aA,II bk (by rw [g];exact hr.at (q+1) aA) j,g];omega
theorem AAE(bk:A8 bag kinds ps ws js ns)(hr:GJ js.length l)(hi:i<l.length)(j:Nat):(CP kinds js l).getD j 0=(CP kinds js (l.eraseIdx i)).getD j 0+(js.getD (l.getD i 0).toNat AI.z).parts.getD j 0:=by
 have e:(l.eraseIdx i).length=l.length-1:=List.length_eraseIdx_of_lt hi
 have:=AAD bk hr j (l.length-1) (i:=i) aA aA
 unfold CP;rw [e]
 rwa [show l.length-1+1=l.length by omega] at this
theorem sum_le:∀(a b:List Int),a.length=b.length->(∀j,a.getD j 0<=b.getD j 0)->a.sum<=b.sum
 | [],[],_,_=>Int.le_refl _
 | x ::a,y ::b,h,k=>by
  have h0:x<=y:=k 0;have h1:=sum_le a b (by simpa using h) λj=>k (j+1);rw [List.sum_cons,List.sum_cons];omega
 | [],y ::b,h,_=>by cases h
 | x ::a,[],h,_=>by cases h
end
section
variable {F G:AB->Int} {l:List AB}
theorem AAF(h:0<l.length)(e:∀x ∈ l,F x<=G x):B4 F l<=B4 G l:=by
 obtain ⟨y,hy,e2⟩:=J9 (F:=G) h
 have:=MJ (F:=F) hy
 have:=e y hy
 omega
theorem AAG(h:0<l.length)(e:∀x ∈ l,F x<=G x):BG F l<=BG G l:=by
 obtain ⟨x,hx,e1⟩:=KA (F:=F) h
 have:=MK (F:=G) hx
 have:=e x hx
 omega
end
section
variable {bag kinds:Int} {ps:List ByteArray} {ws:List AC} {js:List AI} {ns:List AJ} {l:List Int} {i k:Nat}
theorem end_lt(h:0<(AA ws js ns).length)(hk:k<i):Kq ps.length ws js (AA ws js ns) (l.eraseIdx i) k=Kq ps.length ws js (AA ws js ns) l k/\Jh ps.length ws js (AA ws js ns) (l.eraseIdx i) k=Jh ps.length ws js (AA ws js ns) l k:=
 have e:∀x ∈ AA ws js ns,A5 ps.length ws js x (l.eraseIdx i) (k+1)=A5 ps.length ws js x l (k+1):=λx _=>(P9 ps.length (k+1) aA).1
 ⟨XE h e,XF h e⟩
theorem end_ge(bk:A8 bag kinds ps ws js ns)(h:0<(AA ws js ns).length)(hr:GJ js.length l)(hi:i<l.length)(hk:i<=k)(hk2:k+1<l.length) :
  Kq ps.length ws js (AA ws js ns) (l.eraseIdx i) k<=Kq ps.length ws js (AA ws js ns) l (k+1)/\Jh ps.length ws js (AA ws js ns) (l.eraseIdx i) k<=Jh ps.length ws js (AA ws js ns) l (k+1):=
 have e:∀x ∈ AA ws js ns,A5 ps.length ws js x (l.eraseIdx i) (k+1)<=A5 ps.length ws js x l (k+2):=λx hx=>XJ bk (GG bk x hx) hr hi hk hk2
 ⟨AAF h e,AAG h e⟩
theorem AAH(bk:A8 bag kinds ps ws js ns)(h:0<(AA ws js ns).length)(hr:GJ js.length l)(hi:i<l.length)(hs:Ba ps.length ws js (AA ws js ns) l bag kinds=true):Ba ps.length ws js (AA ws js ns) (l.eraseIdx i) bag kinds=true:=by
 have el:(l.eraseIdx i).length=l.length-1:=List.length_eraseIdx_of_lt hi;unfold Ba at hs ⊢;rw [Bool.and_eq_true] at hs ⊢;refine ⟨decide_eq_true ?_,List.all_eq_true.2 λk hk=>?_⟩
 ·have a:=of_decide_eq_true hs.1;have b:=sum_le (CP kinds js (l.eraseIdx i)) (CP kinds js l) (by rw [LF bk,LF bk]) λj=>by
   have:=AAE bk hr hi j
   have:=(LD bk (hr.at i hi)).part j
   omega
  omega
 ·have hk':=List.mem_range.1 hk;have a:=λk hk=>of_decide_eq_true (List.all_eq_true.1 hs.2 k (List.mem_range.2 hk));refine decide_eq_true ?_;rcases Nat.lt_or_ge k i with c | c
  ·rw [(end_lt h c).2,P8 c];exact a k aA
  ·have e:=(end_ge bk h hr hi c aA).2
   have:=a (k+1) aA
   rw [ML c];omega
end
end Go.Ns
namespace Go.Ns
section
variable {bag kinds:Int} {ps:List ByteArray} {ws:List AC} {js:List AI} {ns:List AJ} {r l:List Int} {i k:Nat} {s:Int}
end
end Go.Ns
namespace Go.Ns
section
variable {a b c:List Int} {x y:Int}
theorem MM(x y:Int)(a b:List Int):∀f k,Ed (x ::a) (y ::b) f (k+1)=Ed a b f k
 | 0,k=>by
  unfold Ed;by_cases h:(a.length:Int)<b.length
  ·rw [if_pos h,if_pos (by simp only [List.length_cons];omega)]
  ·rw [if_neg h,if_neg (by simp only [List.length_cons];omega)]
 | f+1,k=>by
  unfold Ed;rw [MM x y a b f (k+1)];by_cases h:(b.length:Int)<=(k:Int)
  ·rw [if_pos h,if_pos (by simp only [List.length_cons];omega)]
  ·rw [if_neg h,if_neg (by simp only [List.length_cons];omega)];rfl
theorem NC(x y:Int)(a b:List Int):HV (x ::a) (y ::b)=if¬IC x y=0 then IC x y else HV a b:=by
 show Ed (x ::a) (y ::b) (a.length+1) 0=_;unfold Ed;rw [if_neg (by simp only [List.length_cons];omega),MM];rfl
theorem cmpL_nil(b:List Int):HV [] b<0↔b≠[]:=by
 cases b with
 | nil=>exact ⟨λh=>absurd h aC,λh=>absurd rfl h⟩
 | cons y b=>
  refine ⟨λ_=>aD,λ_=>?_⟩;show (if ((([]:List Int).length:Nat):Int)<((y ::b).length:Nat) then (-1:Int) else 0)<0;rw [if_pos (by simp only [List.length_cons,List.length_nil];omega)];decide
theorem Ss(x:Int)(a:List Int):¬HV (x ::a) []<0:=by
 show¬Ed (x ::a) [] (a.length+1) 0<0
 unfold Ed;rw [if_pos aD];decide
theorem ND:∀(a b:List Int),HV a b<0->¬HV b a<0
 | [],[],h=>absurd h aC
 | [],y ::b,_=>Ss y b
 | x ::a,[],h=>absurd h (Ss x a)
 | x ::a,y ::b,h=>by
  rw [NC] at h ⊢;have ih:=ND a b;by_cases h1:x<y
  ·rw [show IC y x=1 by unfold IC;rw [if_neg aA,if_pos h1],if_pos aC];decide
  ·by_cases h2:y<x
   ·rw [show IC x y=1 by unfold IC;rw [if_neg h1,if_pos h2],if_pos aC] at h;exact absurd h aC
   ·rw [show IC x y=0 by unfold IC;rw [if_neg h1,if_neg h2],if_neg aC] at h;rw [show IC y x=0 by unfold IC;rw [if_neg h2,if_neg h1],if_neg aC];exact ih h
theorem Vi(a:List Int):¬HV a a<0:=λh=>ND a a h h
theorem Vj(l:List Int):∀{a b:List Int},HV a b<0->HV (l++a) (l++b)<0:=by
 induction l with
 | nil=>exact λh=>h
 | cons x l ih=>
  intro a b h;show HV (x ::(l++a)) (x ::(l++b))<0;rw [NC,if_neg (by unfold IC;simp)];exact ih h
theorem cmpL_lt(h:x<y)(a b:List Int):HV (x ::a) (y ::b)<0:=by
 rw [NC,show IC x y= -1 by unfold IC;rw [if_pos h],if_pos aC];decide
end
section
variable {jobs l r:List Int} {f n:Nat}
theorem JP:∀(f:Nat)(l:List Int),∀r ∈ BC jobs f l,∃s,r=l++s
 | 0,l,r,h=>⟨[],by rw [List.mem_singleton.1 h];simp⟩
 | f+1,l,r,h=>by
  rcases List.mem_cons.1 h with e | h
  ·exact ⟨[],by rw [e];simp⟩
  ·obtain ⟨k,_,h⟩:=List.mem_flatMap.1 h;split at h
   ·cases h
   ·obtain ⟨s,e⟩:=JP f _ r h;exact ⟨k ::s,by rw [e];simp⟩
theorem Vk{l:List Int}{k:Int}:Ha l k=true↔k ∈ l:=by
 unfold Ha;rw [List.any_eq_true];exact ⟨λ⟨x,hx,e⟩=>by rw [of_decide_eq_true e];exact hx,λh=>⟨k,h,decide_eq_true rfl⟩⟩
theorem QA(hj:∀x ∈ jobs,0<=x/\x<(n:Int)):∀(f:Nat)(l:List Int),GJ n l->∀r ∈ BC jobs f l,GJ n r
 | 0,l,hl,r,h=>by rw [List.mem_singleton.1 h];exact hl
 | f+1,l,hl,r,h=>by
  rcases List.mem_cons.1 h with e | h
  ·rw [e];exact hl
  ·obtain ⟨k,hk,h⟩:=List.mem_flatMap.1 h;split at h
   ·cases h
   ·rename_i c
    refine QA hj f (l++[k]) ⟨List.nodup_append.2 ⟨hl.1,aD,λa ha b hb e=>?_⟩,λx hx=>?_⟩ r h
    ·rw [List.mem_singleton.1 hb] at e;exact c (Vk.2 (e▸ha))
    ·rcases List.mem_append.1 hx with hx | hx
     ·exact hl.2 x hx
     ·rw [List.mem_singleton.1 hx];exact hj k hk
theorem QB(hj:∀x:Int,0<=x->x<(n:Int)->x ∈ jobs):∀(s l:List Int)(f:Nat),s.length<=f->GJ n (l++s)->l++s ∈ BC jobs f l
 | [],l,f,_,_=>by rw [List.append_nil,FV];exact List.mem_cons_self
 | k ::s,l,0,h,_=>absurd h aD
 | k ::s,l,f+1,h,hv=>by
  have e:l++k ::s=(l++[k])++s:=aD
  have hk:=hv.2 k aD;refine List.mem_cons_of_mem _ (List.mem_flatMap.2 ⟨k,hj k hk.1 hk.2,?_⟩);have hn:¬Ha l k=true:=λq=>by
   have d:=List.nodup_append.1 hv.1;exact d.2.2 k (Vk.1 q) k List.mem_cons_self rfl
  rw [if_neg hn,e];exact QB hj s (l++[k]) f (by simp at h;omega) (by rw [<-e];exact hv)
theorem QC(hj:jobs.Pairwise (· < ·)):∀(f:Nat)(l:List Int),(BC jobs f l).Pairwise λa b=>HV a b<0
 | 0,l=>List.pairwise_singleton _ _
 | f+1,l=>by
  refine List.pairwise_cons.2 ⟨λr hr=>?_,?_⟩
  ·obtain ⟨k,_,h⟩:=List.mem_flatMap.1 hr;split at h
   ·cases h
   ·obtain ⟨s,e⟩:=JP f _ r h;rw [e,List.append_assoc]
    have:=Vj l (a:=[]) (b:=[k]++s) ((cmpL_nil _).2 aD)
    rwa [List.append_nil] at this
  ·rw [List.pairwise_flatMap];refine ⟨λk _=>?_,hj.imp λ{k k'} hk x hx y hy=>?_⟩
   ·split
    ·exact List.Pairwise.nil
    ·exact QC hj f _
   ·split at hx
    ·cases hx
    ·split at hy
     ·cases hy
     ·obtain ⟨s,e⟩:=JP f _ x hx;obtain ⟨t,e2⟩:=JP f _ y hy;rw [e,e2,List.append_assoc,List.append_assoc];exact Vj l (cmpL_lt hk s t)
theorem QD:∀(n:Nat)(x:Int),0<=x->x<(n:Int)->x ∈ CE n
 | 0,x,h0,h1=>aA
 | n+1,x,h0,h1=>by
  by_cases e:x<(n:Int)
  ·exact List.mem_append_left _ (QD n x h0 e)
  ·exact List.mem_append_right _ (List.mem_singleton.2 aA)
theorem QE:∀n,(CE n).Pairwise (· < ·)
 | 0=>List.Pairwise.nil
 | n+1=>List.pairwise_append.2 ⟨QE n,List.pairwise_singleton _ _,λa ha b hb=>by rw [List.mem_singleton.1 hb];exact (JE ha).2⟩
theorem XK(h:GJ n r):r ∈ C0 (CE n):=by
 have:=QB (QD n) r [] (CE n).length (by rw [Cz];exact h.len) h
 exact this
theorem all_val(h:r ∈ C0 (CE n)):GJ n r:=QA (λ_ hx=>JE hx) _ [] ⟨List.nodup_nil,λx hx=>by cases hx⟩ r h
end
structure Vl(g pre:List (List Int)):Prop where
 sub:g.Sublist pre
 le:∀y ∈ g,∀z ∈ pre,z.length<=y.length
 eq:∀y ∈ g,∀z ∈ pre,z.length=y.length->z ∈ g
 ne:pre≠[]->g≠[]
section
variable {g pre:List (List Int)} {x:List Int}
theorem Vl.step(h:Vl g pre):Vl (Ew g x) (pre++[x]):=by
 have hd:0<g.length->g.getD 0 [] ∈ g:=λq=>BX q;have same:∀y ∈ g,∀z ∈ g,y.length=z.length:=λy hy z hz=>by
  have:=h.le y hy z (h.sub.subset hz)
  have:=h.le z hz y (h.sub.subset hy)
  omega
 by_cases h0:g.length=0
 ·have e:g=[]:=List.eq_nil_of_length_eq_zero h0;have ep:pre=[]:=Decidable.byContradiction λq=>h.ne q e;have es:Ew g x=[x]:=by
   unfold Ew JJ;rw [if_neg (λq=>aA)];unfold JK;rw [if_pos (.inl h0),e];rfl
  rw [es,ep];exact ⟨List.Sublist.refl _,λy hy z hz=>by rw [List.mem_singleton.1 hy,List.mem_singleton.1 hz];exact Nat.le_refl _,λy _ z hz _=>hz,λ_=>aD⟩
 ·have hm:=hd aA;by_cases h1:(g.getD 0 []).length<x.length
  ·have es:Ew g x=[x]:=by
    unfold Ew JJ;rw [if_pos ⟨aA,h1⟩];rfl
   rw [es];have lt:∀z ∈ pre,z.length<x.length:=λz hz=>Nat.lt_of_le_of_lt (h.le _ hm z hz) h1;refine ⟨List.sublist_append_right _ _,λy hy z hz=>?_,λy hy z hz e=>?_,λ_=>aD⟩
   ·rw [List.mem_singleton.1 hy];rcases List.mem_append.1 hz with hz | hz
    ·exact Nat.le_of_lt (lt z hz)
    ·rw [List.mem_singleton.1 hz];exact Nat.le_refl _
   ·rw [List.mem_singleton.1 hy] at e;rcases List.mem_append.1 hz with hz | hz
    ·have:=lt z hz;omega
    ·exact hz
  ·have ec:JJ g x=g:=if_neg (λq=>h1 q.2);by_cases h2:x.length=(g.getD 0 []).length
   ·have es:Ew g x=g++[x]:=by
     unfold Ew;rw [ec];unfold JK;rw [if_pos (.inr h2)]
    rw [es];have sx:∀y ∈ g++[x],y.length=x.length:=λy hy=>by
     rcases List.mem_append.1 hy with hy | hy
     ·rw [same y hy _ hm,h2]
     ·rw [List.mem_singleton.1 hy]
    refine ⟨h.sub.append (List.Sublist.refl _),λy hy z hz=>?_,λy hy z hz e=>?_,λ_=>aD⟩
    ·rw [sx y hy];rcases List.mem_append.1 hz with hz | hz
     ·rw [h2];exact h.le _ hm z hz
     ·rw [List.mem_singleton.1 hz];exact Nat.le_refl _
    ·rcases List.mem_append.1 hz with hz | hz
     ·exact List.mem_append_left _ (h.eq _ hm z hz (by rw [e,sx y hy,h2]))
     ·exact List.mem_append_right _ hz
   ·have es:Ew g x=g:=by
     unfold Ew;rw [ec];unfold JK;rw [if_neg];rintro (q | q) <;> omega
    rw [es];refine ⟨h.sub.trans (List.sublist_append_left _ _),λy hy z hz=>?_,λy hy z hz e=>?_,λ_ q=>h0 (by rw [q];rfl)⟩
    ·rcases List.mem_append.1 hz with hz | hz
     ·exact h.le y hy z hz
     ·rw [List.mem_singleton.1 hz,same y hy _ hm];omega
    ·rcases List.mem_append.1 hz with hz | hz
     ·exact h.eq y hy z hz e
     ·rw [List.mem_singleton.1 hz,same y hy _ hm] at e;exact absurd e h2
theorem goodI{l:List (List Int)}:∀k,k<=l.length->Vl (JL l k) (l.take k)
 | 0,_=>⟨List.Sublist.refl _,λy hy=>(by cases hy),λy hy=>(by cases hy),λh=>absurd rfl h⟩
 | k+1,h=>by
  have ih:=(goodI (l:=l) k aA).step (x:=l.getD k []);rw [D6 [] (show k<l.length by omega)];exact ih
theorem QF(l:List (List Int)):Vl (JL l l.length) l:=by
 have:=goodI (l:=l) l.length (Nat.le_refl _)
 rwa [List.take_length] at this
end
section
variable {G:List Int->Int} {l:List (List Int)}
theorem AAI{k:Nat}:(l.drop 1).getD k []=l.getD (k+1) []:=by
 rw [List.getD_eq_getElem?_getD,List.getElem?_drop,<-List.getD_eq_getElem?_getD,Nat.add_comm]
theorem QG:∀k,∃i,i<=k/\(C7 G l k).1=l.getD i []/\(C7 G l k).2=G (l.getD i [])/\∀j,j<=k->G (l.getD i [])<=G (l.getD j [])/\(j<i->G (l.getD i [])<G (l.getD j []))
 | 0=>⟨0,Nat.le_refl _,rfl,rfl,λj hj=>by rw [show j=0 by omega];exact ⟨Int.le_refl _,λq=>absurd q (Nat.lt_irrefl _)⟩⟩
 | k+1=>by
  obtain ⟨i,h1,h2,h3,h4⟩:=QG k;unfold C7;rw [AAI];split
  ·rename_i c
   rw [h3] at c;refine ⟨k+1,Nat.le_refl _,rfl,rfl,λj hj=>?_⟩;by_cases e:j=k+1
   ·subst e;exact ⟨Int.le_refl _,λq=>absurd q (Nat.lt_irrefl _)⟩
   ·have:=(h4 j aA).1
    exact ⟨aA,λ_=>aA⟩
  ·rename_i c
   rw [h3] at c;refine ⟨i,aA,h2,h3,λj hj=>?_⟩;by_cases e:j=k+1
   ·subst e;exact ⟨aA,λq=>aA⟩
   ·exact h4 j aA
theorem XL(hl:l.Pairwise λa b=>HV a b<0){r:List Int}(hr:r ∈ l):G (Cp G l)<=G r/\(G (Cp G l)=G r->¬HV r (Cp G l)<0):=by
 obtain ⟨i,h1,h2,_,h4⟩:=QG (G:=G) (l:=l) (l.length-1);obtain ⟨j,hj,e⟩:=List.mem_iff_getElem.1 hr;have e2:l.getD j []=r:=by rw [List.getD_eq_getElem?_getD,List.getElem?_eq_getElem hj];exact e
 have hq:=h4 j aA;rw [e2] at hq;unfold Cp;rw [h2];refine ⟨hq.1,λq c=>?_⟩;have hi:i<l.length:=aA
 have ei:l.getD i []=l[i]:=by rw [List.getD_eq_getElem?_getD,List.getElem?_eq_getElem hi];rfl
 rcases Nat.lt_trichotomy j i with z | z | z
 ·have:=hq.2 z;omega
 ·subst z;rw [e2] at c;exact Vi _ c
 ·have:=(List.pairwise_iff_getElem.1 hl) i j hi hj z
  rw [ei,<-e] at c;exact ND _ _ this c
end
end Go.Ns
namespace Go.Ns
section
variable {c:GY} {q i:Nat} {x:Int}
end
section
variable {bag kinds:Int} {ps:List ByteArray} {ws:List AC} {js:List AI} {ns:List AJ} {r:List Int} {k:Nat} {x:Int}
def Ff(bag kinds:Int)(ps:List ByteArray)(ws:List AC)(js:List AI)(ns:List AJ):List (List Int):=FK ps.length ws js (AA ws js ns) bag kinds
theorem OF:r ∈ Ff bag kinds ps ws js ns↔GJ js.length r/\Ba ps.length ws js (AA ws js ns) r bag kinds=true:=by
 unfold Ff FK;rw [List.mem_filter];exact ⟨λh=>⟨all_val h.1,h.2⟩,λh=>⟨XK h.1,h.2⟩⟩
theorem QH(h0:AU bag kinds ps ws js ns 0=0)(hr:GJ js.length r):DB bag kinds ps ws js ns r=Ba ps.length ws js (AA ws js ns) r bag kinds:=by
 unfold DB;rw [hr.bell];exact if_neg (λe=>e h0)
theorem Vm(h0:AU bag kinds ps ws js ns 0=0):BO bag kinds ps ws js ns=Cp (λl=>BG (λx=>AR ps.length ws js x l) (AA ws js ns)) (JL (Ff bag kinds ps ws js ns) (Ff bag kinds ps ws js ns).length):=if_neg (λe=>e h0)
theorem ZE(hz:A0 bag kinds ps ws js ns=0)(h0:AU bag kinds ps ws js ns 0=0):BO bag kinds ps ws js ns ∈ JL (Ff bag kinds ps ws js ns) (Ff bag kinds ps ws js ns).length:=by
 rw [Vm h0];have p:0<(Ff bag kinds ps ws js ns).length:=P1 (Bm hz).hbag.1
 have:=(QF (Ff bag kinds ps ws js ns)).ne (λq=>by rw [q] at p;exact absurd p (Nat.lt_irrefl _))
 exact W5 (List.length_pos_iff.2 this)
theorem QI(hz:A0 bag kinds ps ws js ns=0)(h0:AU bag kinds ps ws js ns 0=0):GJ js.length (BO bag kinds ps ws js ns)/\Ba ps.length ws js (AA ws js ns) (BO bag kinds ps ws js ns) bag kinds=true:=
 OF.1 ((QF _).sub.subset (ZE hz h0))
theorem Vn(hz:A0 bag kinds ps ws js ns=0)(h0:AU bag kinds ps ws js ns 0=0)(hr:GJ js.length r)(hs:DB bag kinds ps ws js ns r=true):r.length<=(BO bag kinds ps ws js ns).length/\(r.length=(BO bag kinds ps ws js ns).length->
  Ds (AU bag kinds ps ws js ns 0) (BG (λx=>AR ps.length ws js x (BO bag kinds ps ws js ns)) (AA ws js ns))<=Ds (AU bag kinds ps ws js ns 0) (BG (λx=>AR ps.length ws js x r) (AA ws js ns))/\
  (Ds (AU bag kinds ps ws js ns 0) (BG (λx=>AR ps.length ws js x (BO bag kinds ps ws js ns)) (AA ws js ns))=Ds (AU bag kinds ps ws js ns 0) (BG (λx=>AR ps.length ws js x r) (AA ws js ns))->¬HV r (BO bag kinds ps ws js ns)<0)):=by
 have g:=QF (Ff bag kinds ps ws js ns);have hm:r ∈ Ff bag kinds ps ws js ns:=OF.2 ⟨hr,by rw [<-QH h0 hr];exact hs⟩;have b:=ZE hz h0;refine ⟨g.le _ b r hm,λe=>?_⟩;have hg:=g.eq _ b r hm e;rw [h0];simp only [L8];have asc:(JL (Ff bag kinds ps ws js ns) (Ff bag kinds ps ws js ns).length).Pairwise λa b=>HV a b<0:=
  (List.Pairwise.filter _ (QC (QE js.length) (CE js.length).length [])).sublist g.sub
 have:=XL (G:=λl=>BG (λx=>AR ps.length ws js x l) (AA ws js ns)) asc hg
 rwa [<-Vm h0] at this
theorem NE(h0:¬AU bag kinds ps ws js ns 0=0):(BO bag kinds ps ws js ns).length=0/\(J5 bag kinds ps ws js ns).length=0:=by
 unfold BO J5;rw [if_pos h0,if_pos h0];exact ⟨rfl,rfl⟩
end
end Go.Ns
namespace Go.Ns
open Go.Conc Go Go.RowKit
section
variable {P:Program} {E:GW P} {O:Nat->Value} {ds:List Deferred} {h:GH} {T:(Nat->Value)->List Deferred->GH->Prop} {dst:Option Nat} {ty:TypeId} {pos:String} {af:Array Edge} {gd:Option (Nat×Bool)}
end
section
variable {ns:List AJ} {l:List Int} {k:Nat} {h:GH}
end
section
variable {bag kinds:Int} {ps:List ByteArray} {ws:List AC} {js:List AI} {ns:List AJ}
theorem bell_of(b:A8 bag kinds ps ws js ns):A0 bag kinds ps ws js ns=0:=by
 refine Bi (k:=5) (λj hj=>?_) (Nat.le_refl _)
 match j with
 | 0=>exact if_neg (by have:=b.hbag;have:=b.hkin;omega)
 | 1=>exact (if_neg (by have:=b.plen;omega)).trans (Bi b.place (Nat.le_refl _))
 | 2=>exact (Ly (by have:=b.wlen;omega) b.way (Nat.le_refl _)).trans b.led
 | 3=>exact (if_neg (by have:=b.jlen;omega)).trans (Bi b.job (Nat.le_refl _))
 | 4=>exact (if_neg (by have:=b.nlen;omega)).trans (Bi b.note (Nat.le_refl _))
 | j+5=>omega
end
end Go.Ns
namespace Go.Ns
open Go.Conc
section
variable {ws ws':List AC} {js:List AI} {ns:List AJ} {i k np:Nat} {lo hi n:Int} {p q:AB} {ag:AB->Bool}
end
section
variable {ws:List AC} {js:List AI} {ns:List AJ} {i k:Nat} {n:Int}
end
section
variable {bag kinds:Int} {ps:List ByteArray} {ws:List AC} {js:List AI} {ns:List AJ} {i:Nat} {lo hi x:Int}
end
end Go.Ns
namespace Go.Ns
open Go.Conc
structure St(x y:AI):Prop where
 p:x.place=y.place
 lo:x.low=y.low
 hi:x.high=y.high
 du:x.due=y.due
 ps:x.parts=y.parts
structure Vo(x y:AJ):Prop where
 ws:x.ways=y.ways
 lo:x.low=y.low
 hi:x.high=y.high
section
variable {ws:List AC} {js js':List AI} {ns ns':List AJ} {bag kinds:Int} {ps:List ByteArray} {i:Nat} {pq:List AB}
theorem GK(js:List AI)(f:Nat->Value)(n k:Nat):St ((GS js f n).getD k AI.z) (js.getD k AI.z):=by
 by_cases h:k<js.length
 ·rw [M6,G0 h];split
  ·exact ⟨rfl,rfl,rfl,rfl,rfl⟩
  ·exact ⟨rfl,rfl,rfl,rfl,rfl⟩
 ·rw [Bf (by rw [Fe];omega),Bf aA];exact ⟨rfl,rfl,rfl,rfl,rfl⟩
theorem QJ(ns:List AJ)(f:Nat->Value)(n k:Nat):Vo ((HH ns f n).getD k AJ.z) (ns.getD k AJ.z):=by
 by_cases h:k<ns.length
 ·rw [M7,G0 h];split
  ·exact ⟨rfl,rfl,rfl⟩
  ·exact ⟨rfl,rfl,rfl⟩
 ·rw [Bf (by rw [IH];omega),Bf aA];exact ⟨rfl,rfl,rfl⟩
theorem QK(hl:ns'.length=ns.length)(h:∀k,Vo (ns'.getD k AJ.z) (ns.getD k AJ.z))(p:AB):Bu ns' p=Bu ns p:=by
 have e:∀l:List AJ,Bu l p=(l.map λx=>(x.ways,x.low,x.high)).all λz=>decide (z.2.1<=Ef p z.1/\Ef p z.1<=z.2.2):=λl=>by
  unfold Bu;rw [List.all_map];rfl
 rw [e,e];congr 1;apply List.ext_getElem
 ·rw [List.length_map,List.length_map,hl]
 ·intro k h1 h2;rw [List.length_map] at h1 h2;have s:=h k;rw [D2 AJ.z h1,D2 AJ.z h2] at s;rw [List.getElem_map,List.getElem_map,s.ws,s.lo,s.hi]
theorem Ks{ag ag':AB->Bool}(ha:∀p,ag' p=ag p)(h:∀k,St (js'.getD k AI.z) (js.getD k AI.z)):∀(f k:Nat)(p:AB),B3 ag' ws js' f k p=B3 ag ws js f k p
 | 0,_,_=>rfl
 | f+1,k,p=>by
  have e:CD ws js' k=CD ws js k/\Es ws js' k=Es ws js k:=by
   unfold CD Es;rw [(h _).lo,(h _).hi];exact ⟨rfl,rfl⟩
  rw [DI,DI,e.1,e.2];congr 1;funext m;unfold Bw;rw [ha,Ks ha h f]
theorem XM(hj:js'.length=js.length)(h:∀k,St (js'.getD k AI.z) (js.getD k AI.z))(hl:ns'.length=ns.length)(h2:∀k,Vo (ns'.getD k AJ.z) (ns.getD k AJ.z)):AA ws js' ns'=AA ws js ns:=by
 unfold AA;rw [QK hl h2,hj,Ks (QK hl h2) h]
theorem In(f g:Nat->Value):AA ws (GS js f js.length) (HH ns g ns.length)=AA ws js ns:=XM (Fe ..) (GK _ _ _) (IH ..) (QJ _ _ _)
theorem A8.same(b:A8 bag kinds ps ws js ns)(hj:js'.length=js.length)(h:∀k,St (js'.getD k AI.z) (js.getD k AI.z))(hl:ns'.length=ns.length)(h2:∀k,Vo (ns'.getD k AJ.z) (ns.getD k AJ.z)):A8 bag kinds ps ws js' ns':=
 { b with
  jlen:=by rw [hj];exact b.jlen
  job:=λk hk=>by
   have:=b.job k aA
   unfold FS at this ⊢;rw [(h k).p,(h k).lo,(h k).hi,(h k).du,(h k).ps];exact this
  nlen:=by rw [hl];exact b.nlen
  note:=λk hk=>by
   have:=b.note k aA
   unfold Dj at this ⊢;rw [(h2 k).ws,(h2 k).lo,(h2 k).hi];exact this }
theorem ZF(hz:A0 bag kinds ps ws js ns=0)(f g:Nat->Value):A0 bag kinds ps ws (GS js f js.length) (HH ns g ns.length)=0:=bell_of ((Bm hz).same (Fe ..) (GK _ _ _) (IH ..) (QJ _ _ _))
end
end Go.Ns
namespace Go.Ns
section
variable {ws:List AC} {p:AB} {x y z u v k l np:Nat} {d e w:Int}
end
section
variable {bag kinds:Int} {ps:List ByteArray} {ws:List AC} {js:List AI} {ns:List AJ} {p:AB} {x y v k n:Nat} {d w:Int}
end
end Go.Ns
namespace Go.Ns
def dfs(S:Nat->Int×Int):Nat->Nat->List (List Int)
 | 0,_=>[[]]
 | f+1,i=>(Er (S i).1 (S i).2).flatMap λn=>(dfs S f (i+1)).map λs=>n ::s
def Fk(S:Nat->Int×Int):Nat->List (List Int)
 | 0=>[[]]
 | i+1=>(Fk S i).flatMap λx=>(Er (S i).1 (S i).2).map λn=>x++[n]
section
variable {S:Nat->Int×Int}
theorem Vp:∀f i,dfs S (f+1) i=(dfs S f i).flatMap λx=>(Er (S (i+f)).1 (S (i+f)).2).map λn=>x++[n]
 | 0,i=>by
  show (Er (S i).1 (S i).2).flatMap (λn=>[[n]])=[[]].flatMap _;rw [List.flatMap_cons,List.flatMap_nil,List.append_nil,Nat.add_zero,List.map_eq_flatMap];rfl
 | f+1,i=>by
  have ih:=Vp f (i+1);show (Er (S i).1 (S i).2).flatMap (λn=>(dfs S (f+1) (i+1)).map λs=>n ::s)=((Er (S i).1 (S i).2).flatMap λn=>(dfs S f (i+1)).map λs=>n ::s).flatMap _;rw [List.flatMap_assoc];congr 1;funext n;rw [ih,List.map_flatMap,List.flatMap_map];congr 1;funext s;rw [List.map_map,show i+1+f=i+(f+1) by omega];rfl
theorem QL:∀m,Fk S m=dfs S m 0
 | 0=>rfl
 | m+1=>by
  rw [Vp,<-QL m,Nat.zero_add];rfl
end
def Ui(w k:List Int):AB:=⟨λi=>w.getD i 0,λi=>k.getD i 0⟩
def MN(p:AB)(i:Nat)(s:List Int):AB:={ p with ways:=λk=>if i<=k/\k<i+s.length then s.getD (k-i) 0 else p.ways k }
def MO(p:AB)(i:Nat)(s:List Int):AB:={ p with works:=λk=>if i<=k/\k<i+s.length then s.getD (k-i) 0 else p.works k }
theorem Vq{f:Nat->Int}{i n:Nat}{v:Int}{s:List Int}:(λk=>if i<=k/\k<i+(v ::s).length then (v ::s).getD (k-i) 0 else f k)=λk=>if i+1<=k/\k<i+1+s.length then s.getD (k-(i+1)) 0 else if k=i then v else f k:=by
 funext k;by_cases h1:k=i
 ·subst h1;rw [if_pos aD,if_neg aA,if_pos rfl,Nat.sub_self];rfl
 ·by_cases h2:i+1<=k/\k<i+1+s.length
  ·rw [if_pos h2,if_pos (by simp only [List.length_cons];omega),show k-i=(k-(i+1))+1 by omega];rfl
  ·rw [if_neg h2,if_neg (by simp only [List.length_cons];omega),if_neg h1]
theorem QM{p:AB}{nw i:Nat}{v:Int}{s:List Int}(h:i<nw):MN p i (v ::s)=MN (p.put nw i v) (i+1) s:=by
 unfold MN AB.put;rw [if_pos h,Vq (n:=0)];rfl
theorem XN{p:AB}{nw i:Nat}{v:Int}{s:List Int}(h:nw<=i):MO p (i-nw) (v ::s)=MO (p.put nw i v) (i+1-nw) s:=by
 unfold MO AB.put;rw [if_neg aA,Vq (n:=0),show i-nw+1=i+1-nw by omega];rfl
theorem Su(p:AB)(i:Nat):MN p i []=p:=by
 unfold MN
 have:(λk=>if i<=k/\k<i+([]:List Int).length then ([]:List Int).getD (k-i) 0 else p.ways k)=p.ways:=funext λk=>if_neg aD
 rw [this]
theorem AAJ(p:AB)(i:Nat):MO p i []=p:=by
 unfold MO
 have:(λk=>if i<=k/\k<i+([]:List Int).length then ([]:List Int).getD (k-i) 0 else p.works k)=p.works:=funext λk=>if_neg aD
 rw [this]
def OG(ws:List AC)(k:Nat):Int×Int:=((ws.getD k AC.z).low,(ws.getD k AC.z).high)
def Io(js:List AI)(k:Nat):Int×Int:=((js.getD k AI.z).low,(js.getD k AI.z).high)
section
variable {ws:List AC} {js:List AI} {ns:List AJ} {ag:AB->Bool}
theorem Sv:∀(f i:Nat)(p:AB),ws.length<=i->B3 ag ws js f i p=(dfs (Io js) f (i-ws.length)).map (MO p (i-ws.length))
 | 0,i,p,_=>by
  show [p]=[[]].map _;rw [List.map_singleton,AAJ]
 | f+1,i,p,h=>by
  rw [DI];have e1:CD ws js i=(Io js (i-ws.length)).1:=if_neg aA;have e2:Es ws js i=(Io js (i-ws.length)).2:=if_neg aA;show _=((Er _ _).flatMap _).map _;rw [e1,e2,List.map_flatMap];congr 1;funext n;unfold Bw;rw [if_neg aA,Sv f (i+1) _ aA,List.map_map,show i+1-ws.length=i-ws.length+1 by omega];congr 1;funext s;show _=MO p (i-ws.length) (n ::s);rw [XN h,show i+1-ws.length=i-ws.length+1 by omega]
theorem OH{V β:Type}(q:V->Bool)(F:V->List β):∀l:List V,(l.filter q).flatMap F=l.flatMap λx=>if q x=true then F x else []
 | []=>rfl
 | x ::l=>by
  rw [List.filter_cons,List.flatMap_cons,<-OH q F l];by_cases h:q x=true
  ·rw [if_pos h,if_pos h,List.flatMap_cons]
  ·rw [if_neg h,if_neg h,List.nil_append]
theorem Vr:∀(f i:Nat)(p:AB),i+(f+1)=ws.length->B3 ag ws js (f+1+js.length) i p=(dfs (OG ws) (f+1) i).flatMap λs=>if ag (MN p i s)=true then B3 ag ws js js.length ws.length (MN p i s) else []
 | 0,i,p,h=>by
  rw [show 0+1+js.length=js.length+1 by omega,DI];have e1:CD ws js i=(OG ws i).1:=if_pos aA;have e2:Es ws js i=(OG ws i).2:=if_pos aA;show _=((Er _ _).flatMap λn=>[[n]]).flatMap _;rw [e1,e2,List.flatMap_assoc];congr 1;funext n;rw [List.flatMap_cons,List.flatMap_nil,List.append_nil,QM (nw:=ws.length) aA,Su];unfold Bw;cases hb:ag (p.put ws.length i n) with
  | false=>rw [if_pos ⟨aA,rfl⟩];rfl
  | true=>rw [if_neg (λq=>by cases q.2),if_pos rfl,show i+1=ws.length by omega]
 | f+1,i,p,h=>by
  rw [show f+1+1+js.length=(f+1+js.length)+1 by omega,DI];have e1:CD ws js i=(OG ws i).1:=if_pos aA;have e2:Es ws js i=(OG ws i).2:=if_pos aA;show _=((Er _ _).flatMap λn=>(dfs (OG ws) (f+1) (i+1)).map λs=>n ::s).flatMap _;rw [e1,e2,List.flatMap_assoc];congr 1;funext n;unfold Bw;rw [if_neg (λq=>aA),Vr f (i+1) _ aA,List.flatMap_map];congr 1;funext s;rw [QM (nw:=ws.length) aA]
def XO(ws:List AC)(js:List AI)(ns:List AJ):List (List Int×List Int):=
 ((Fk (OG ws) ws.length).filter λw=>Bu ns (Ui w [])).flatMap λw=>(Fk (Io js) js.length).map λk=>(w,k)
theorem Sw{w:List Int}:MN AB.zero 0 w=Ui w []:=by
 unfold MN Ui AB.zero;congr 1
 ·funext k;by_cases h:k<w.length
  ·rw [if_pos aA];rfl
  ·rw [if_neg aA,Bf aA]
theorem AAK{w k:List Int}:MO (Ui w []) 0 k=Ui w k:=by
 unfold MO Ui;congr 1;funext i;by_cases h:i<k.length
 ·rw [if_pos aA];rfl
 ·rw [if_neg aA,Bf aA];rfl
theorem Vs:AA ws js ns=(XO ws js ns).map λx=>Ui x.1 x.2:=by
 have wk:∀w:List Int,B3 (Bu ns) ws js js.length ws.length (Ui w [])=(Fk (Io js) js.length).map λk=>Ui w k:=λw=>by
  rw [Sv _ _ _ (Nat.le_refl _),Nat.sub_self,QL];congr 1;funext k;exact AAK
 unfold XO;rw [OH,List.map_flatMap];have rhs:∀w:List Int,(if Bu ns (Ui w [])=true then (Fk (Io js) js.length).map λk=>(w,k) else []).map (λx=>Ui x.1 x.2)=if Bu ns (Ui w [])=true then B3 (Bu ns) ws js js.length ws.length (Ui w []) else []:=λw=>by
  split
  ·rw [wk,List.map_map];rfl
  ·rfl
 simp only [rhs];unfold AA;rcases Nat.eq_zero_or_pos ws.length with h | h
 ·rw [h,Nat.zero_add];show _=[[]].flatMap _;rw [List.flatMap_cons,List.flatMap_nil,List.append_nil];have z:(Ui [] []:AB)=AB.zero:=by rw [<-Sw,Su]
  rw [z];by_cases c:Bu ns AB.zero=true
  ·rw [if_pos (.inr c),if_pos c]
  ·rw [if_neg (λq=>q.elim aA c),if_neg c]
 ·rw [if_pos (.inl h)]
  have:=Vr (ag:=Bu ns) (ws:=ws) (js:=js) (ws.length-1) 0 AB.zero aA
  rw [show ws.length-1+1=ws.length by omega] at this;rw [this,QL];congr 1;funext w;rw [Sw]
end
end Go.Ns
namespace Go.Ns
section
variable {np x i k:Nat} {o:Nat->Int} {v:Int} {ws:List AC} {p:AB}
end
section
variable {bag kinds:Int} {ps:List ByteArray} {ws:List AC} {js:List AI} {ns:List AJ} {p:AB} {x i:Nat}
end
section
variable {F:AB->Int} {pq:List AB} {hl:List (List Int×List Int)}
end
end Go.Ns
namespace Go.Ns
open Go.Conc
section
variable {S:Nat->Int×Int}
theorem QN:∀(m:Nat)(s:List Int),s ∈ Fk S m->s.length=m/\∀k,k<m->(S k).1<=s.getD k 0/\s.getD k 0<=(S k).2
 | 0,s,h=>by rw [List.mem_singleton.1 h];exact ⟨rfl,λk hk=>absurd hk (Nat.not_lt_zero _)⟩
 | m+1,s,h=>by
  obtain ⟨x,hx,h⟩:=List.mem_flatMap.1 h;obtain ⟨n,hn,rfl⟩:=List.mem_map.1 h;obtain ⟨e,r⟩:=QN m x hx;have hn:=PL.1 hn;refine ⟨by rw [List.length_append,e];rfl,λk hk=>?_⟩;rw [FU];by_cases c:k<m
  ·rw [if_pos aA];exact r k c
  ·have:k=m:=aA
   subst this;rw [if_neg aA,e,Nat.sub_self];show (S k).1<=n/\n<=(S k).2;omega
theorem QO{S':Nat->Int×Int}:∀m,(∀k,k<m->S k=S' k)->Fk S m=Fk S' m
 | 0,_=>rfl
 | m+1,h=>by
  unfold Fk;rw [QO m λk hk=>h k aA,h m aA]
end
section
variable {bag kinds:Int} {ps:List ByteArray} {ws:List AC} {js:List AI} {ns:List AJ} {k:Nat}
section
variable {W K:List (List Int)} {i j:Nat}
end
end
section
variable {bag kinds:Int} {ps:List ByteArray} {ws:List AC} {js:List AI} {ns:List AJ} {l:List Int} {p:AB}
end
section
variable {G:AB->Int} {pq:List AB} {due:Int}
end
section
variable {bag kinds:Int} {ps:List ByteArray} {ws:List AC} {js:List AI} {ns:List AJ} {l:List Int}
end
section
variable {G:AB->Int} {pq:List AB} {due v:Int} {i:Nat}
end
end Go.Ns
namespace Go.Ns
section
variable {ws:List AC} {l:List Int} {k j np:Nat} {w:AC} {p q:Int}
theorem QP(h:p=l.getD k 0):q ∈ HI l k p q:=by
 unfold HI;split
 ·simp
 ·rename_i e;exact Decidable.byContradiction λn=>e ⟨h,n⟩
theorem UM(h:w.a=l.getD k 0):w.b ∈ Cg l k w:=(H4 _ _ _ _).subset (QP h)
theorem UN(hk:k<l.length)(h:w.b=l.getD k 0):w.a ∈ Cg l k w:=QP (h.trans (P5 (H4 _ _ _ _) hk).symm)
theorem Ib(hk:k<l.length):∀n,j<n->((ws.getD j AC.z).a=l.getD k 0->(ws.getD j AC.z).b ∈ Ac ws l k n)/\((ws.getD j AC.z).b=l.getD k 0->(ws.getD j AC.z).a ∈ Ac ws l k n)
 | n+1,h=>by
  by_cases e:j=n
  ·subst e;have hl:=FX (ws:=ws) (l:=l) (k:=k) j;have e2:=P5 hl hk;exact ⟨λx=>UM (x.trans e2.symm),λx=>UN (Nat.lt_of_lt_of_le hk hl.length_le) (x.trans e2.symm)⟩
  ·have ih:=Ib hk n aA;exact ⟨λx=>(Ia _ _ _).subset (ih.1 x),λx=>(Ia _ _ _).subset (ih.2 x)⟩
theorem JQ(m:Nat):∀d,Aj ws m<+:Aj ws (m+d)
 | 0=>List.prefix_refl _
 | d+1=>by
  refine (JQ m d).trans ?_;show Aj ws (m+d)<+:Aj ws (m+d+1)
  conv=>rhs;unfold Aj
  split
  ·exact FX _
  ·exact List.prefix_refl _
theorem UO(ok:HA np (Cq ws))(hnp:np<=4)(hj:j<ws.length):(ws.getD j AC.z).a ∈ Cq ws↔(ws.getD j AC.z).b ∈ Cq ws:=by
 have hl:=ok.len;have key:∀{y z:Int},((∀k l,k<l.length->y=l.getD k 0->z ∈ Ac ws l k ws.length))->y ∈ Cq ws->z ∈ Cq ws:=by
  intro y z hz hy;obtain ⟨k,hk,e⟩:=List.mem_iff_getElem.1 hy;have e2:(Cq ws).getD k 0=y:=by rw [List.getD_eq_getElem?_getD,List.getElem?_eq_getElem hk];exact e
  have hkn:k<(Aj ws k).length:=Decidable.byContradiction λn=>by
   have q:=Sj (ws:=ws) (k:=k) aA aA;rw [q] at hk;omega
  have p1:Aj ws k<+:Cq ws:=by
   have q:=JQ (ws:=ws) k (4-k);rw [show k+(4-k)=4 by omega] at q;exact q
  have p2:Aj ws (k+1)<+:Cq ws:=by
   have q:=JQ (ws:=ws) (k+1) (4-(k+1));rw [show k+1+(4-(k+1))=4 by omega] at q;exact q
  refine p2.subset ?_;rw [J6 hkn];exact hz k _ hkn (by rw [<-e2];exact P5 p1 hkn)
 exact ⟨key λk l hk e=>(Ib hk ws.length hj).1 e,key λk l hk e=>(Ib hk ws.length hj).2 e⟩
theorem AAL{R:List Int}{c:GY}{x:AC}(h:∀v,c v=true->(v:Int) ∈ R)(hx:((x.a.toNat:Nat):Int) ∈ R↔((x.b.toNat:Nat):Int) ∈ R):∀v,GD c x v=true->(v:Int) ∈ R:=by
 have h1:∀v,(c.set x.a.toNat (c x.a.toNat || c x.b.toNat)) v=true->(v:Int) ∈ R:=λv hv=>by
  unfold GY.set at hv;split at hv
  ·rename_i e;subst e
   rcases Bool.or_eq_true_iff.1 hv with q | q
   ·exact h _ q
   ·exact hx.2 (h _ q)
  ·exact h _ hv
 intro v hv;unfold GD at hv;generalize c.set x.a.toNat (c x.a.toNat || c x.b.toNat)=c' at h1 hv;unfold GY.set at hv;split at hv
 ·rename_i e;subst e
  rcases Bool.or_eq_true_iff.1 hv with q | q
  ·exact h1 _ q
  ·exact hx.1 (h1 _ q)
 ·exact h1 _ hv
theorem QQ{R:List Int}:∀(m:List AC)(c:GY),(∀v,c v=true->(v:Int) ∈ R)->(∀x ∈ m,((x.a.toNat:Nat):Int) ∈ R↔((x.b.toNat:Nat):Int) ∈ R)->∀v,m.foldl GD c v=true->(v:Int) ∈ R
 | [],_,h,_=>h
 | x ::m,c,h,hx=>QQ m _ (AAL h (hx x aD)) λy hy=>hx y (List.mem_cons_of_mem _ hy)
theorem Sx{R:List Int}(hx:∀x ∈ ws,((x.a.toNat:Nat):Int) ∈ R↔((x.b.toNat:Nat):Int) ∈ R):∀n (c:GY),(∀v,c v=true->(v:Int) ∈ R)->∀v,EG ws n c v=true->(v:Int) ∈ R
 | 0,_,h=>h
 | n+1,c,h=>Sx hx n _ (QQ ws c h hx)
theorem UP(hn:0<np)(hnp:np<=4)(hw:LI np ws)(h:Ee np ws=0):¬(Cq ws).length<np:=by
 have ok:HA np (Cq ws):=Ik hn hw 4;have h0:(0:Int) ∈ Cq ws:=(JQ (ws:=ws) 0 4).subset (by simp [Aj]);have hx:∀x ∈ ws,((x.a.toNat:Nat):Int) ∈ Cq ws↔((x.b.toNat:Nat):Int) ∈ Cq ws:=λx hx=>by
  obtain ⟨j,hj,e⟩:=List.mem_iff_getElem.1 hx;have e2:ws.getD j AC.z=x:=by rw [List.getD_eq_getElem?_getD,List.getElem?_eq_getElem hj];exact e
  have r:=hw j hj;rw [e2] at r;rw [Int.toNat_of_nonneg r.1.1,Int.toNat_of_nonneg r.2.1,<-e2];exact UO ok hnp hj
 have all:∀y,y<np->(y:Int) ∈ Cq ws:=λy hy=>by
  refine Sx hx np c0 (λv hv=>?_) y (Decidable.byContradiction λn=>?_)
  ·unfold c0 GY.set GY.none at hv;split at hv
   ·rename_i e;subst e;exact h0
   ·cases hv
  ·have:(Ms (EG ws np c0) np).any (λx=>(false==x))=true:=List.any_eq_true.2 ⟨false,by
    unfold Ms;exact List.mem_map.2 ⟨y,List.mem_range.2 hy,by simpa using n⟩,rfl⟩
   unfold Ee at h;rw [show GY.none.set 0 true=c0 from rfl,if_pos this] at h;cases h
 intro hlt
 have:=T4 (Cq ws).length np (λy=>(Cq ws).idxOf (y:Int)) (λi hi=>List.idxOf_lt_length_of_mem (all i hi)) λi j hij hj e=>by
  have a:=List.getElem_idxOf (List.idxOf_lt_length_of_mem (all i aA));have b:=List.getElem_idxOf (List.idxOf_lt_length_of_mem (all j hj));have e2:(Cq ws).idxOf (i:Int)=(Cq ws).idxOf (j:Int):=e
  have:(i:Int)=(j:Int):=by rw [<-a,<-b];congr 1
  omega
 omega
theorem rWays_eq(hn:0<np)(hnp:np<=4):Ez np ws=Dq np ws:=by
 unfold Ez Dq;split
 ·rfl
 ·split
  ·rfl
  ·rename_i b
   have z:=C4 (Decidable.not_not.1 b);have hw:LI np ws:=UH λk hk=>z k (Nat.zero_le _) aA;split
   ·rename_i c
    have:¬Ee np ws=0:=λe=>UP hn hnp hw e c
    unfold Ee at this ⊢;split
    ·rfl
    ·rename_i d;rw [if_neg d] at this;exact absurd rfl this
   ·rename_i c;exact (MI hn hw c).symm
variable {bag kinds:Int} {ps:List ByteArray} {js:List AI} {ns:List AJ}
theorem AAM:DX bag kinds ps ws js ns=A0 bag kinds ps ws js ns:=by
 unfold DX A0;simp only [Cn,IY];by_cases h0:GB bag kinds=0
 ·rw [if_neg (λn=>n h0),if_pos h0];by_cases h1:BJ ps=0
  ·have hp:=H5 h1;rw [if_neg (λn=>n h1),if_pos h1,rWays_eq hp.1 hp.2];by_cases h2:Dq ps.length ws=0
   ·rw [if_neg (λn=>n h2),if_pos h2];by_cases h3:B1 ps.length kinds js=0
    ·rw [if_neg (λn=>n h3),if_pos h3];split
     ·rename_i e;exact e
     ·rfl
    ·rw [if_pos h3,if_neg h3]
   ·rw [if_pos h2,if_neg h2]
  ·rw [if_pos h1,if_neg h1]
 ·rw [if_pos h0,if_neg h0]
end
end Go.Ns
namespace Go.Ns
section
variable {bag kinds:Int} {ps:List ByteArray} {ws:List AC} {js js':List AI} {ns:List AJ} {l:List Int} {p:AB} {np:Nat} {pq:List AB} {f g:Nat->Value} {i:Int}
variable (hl:js'.length=js.length) (h:∀k,St (js'.getD k AI.z) (js.getD k AI.z))
include h
theorem ZG:∀q,Cj js' l q=Cj js l q
 | 0=>rfl
 | q+1=>(h _).p
theorem MP:∀q,A5 np ws js' p l q=A5 np ws js p l q
 | 0=>rfl
 | q+1=>by
  show A5 np ws js' p l q+(Al np ws p (Cj js' l q).toNat (js'.getD (l.getD q 0).toNat AI.z).place.toNat+p.works (l.getD q 0).toNat)=A5 np ws js p l q+(Al np ws p (Cj js l q).toNat (js.getD (l.getD q 0).toNat AI.z).place.toNat+p.works (l.getD q 0).toNat);rw [MP q,ZG h q,(h _).p]
theorem AAN:AR np ws js' p l=AR np ws js p l:=by
 unfold AR;rw [MP h,ZG h]
theorem LL(l:List Int):(λx=>AR np ws js' x l)=λx=>AR np ws js x l:=funext λx=>AAN h
theorem Sy:∀q,EI np ws js' pq l q=EI np ws js pq l q
 | 0=>rfl
 | q+1=>by
  have e:(λx=>A5 np ws js' x l (q+1))=λx=>A5 np ws js x l (q+1):=funext λx=>MP h _;show EI np ws js' pq l q++[(B4 (λx=>A5 np ws js' x l (q+1)) pq,BG (λx=>A5 np ws js' x l (q+1)) pq)]=EI np ws js pq l q++[(B4 (λx=>A5 np ws js x l (q+1)) pq,BG (λx=>A5 np ws js x l (q+1)) pq)];rw [Sy q,e]
theorem S0:∀q,Bp kinds js' l q=Bp kinds js l q
 | 0=>rfl
 | q+1=>by unfold Bp;rw [S0 q,(h _).ps]
theorem S1:Ba np ws js' pq l bag kinds=Ba np ws js pq l bag kinds:=by
 unfold Ba CP;rw [S0 h];have e:H1 np ws js' pq l=H1 np ws js pq l:=funext λq=>by
  unfold H1 Jh;rw [show (λx=>A5 np ws js' x l (q+1))=λx=>A5 np ws js x l (q+1) from funext λx=>MP h _,(h _).du]
 rw [e]
include hl
theorem Vt:FK np ws js' pq bag kinds=FK np ws js pq bag kinds:=by
 unfold FK;rw [hl,show (λq=>Ba np ws js' pq q bag kinds)=λq=>Ba np ws js pq q bag kinds from funext λq=>S1 h]
end
section
variable {bag kinds:Int} {ps:List ByteArray} {ws:List AC} {js:List AI} {ns:List AJ} {l:List Int} {i:Int}
variable (hz:A0 bag kinds ps ws js ns=0) (f g:Nat->Value)
include hz
theorem JR(s:Int):AU bag kinds ps ws (GS js f js.length) (HH ns g ns.length) s=AU bag kinds ps ws js ns s:=by
 unfold AU;rw [ZF hz f g,hz,In]
theorem re_ends:Eg bag kinds ps ws (GS js f js.length) (HH ns g ns.length) l=Eg bag kinds ps ws js ns l:=by
 unfold Eg;rw [JR hz,Fe,In,Sy (GK _ _ _)]
theorem re_safe:DB bag kinds ps ws (GS js f js.length) (HH ns g ns.length) l=DB bag kinds ps ws js ns l:=by
 unfold DB;rw [JR hz,Fe,In,S1 (GK _ _ _)]
theorem re_best:BO bag kinds ps ws (GS js f js.length) (HH ns g ns.length)=BO bag kinds ps ws js ns:=by
 unfold BO UD;rw [JR hz,In,Vt (Fe ..) (GK _ _ _),show (λl=>BG (λx=>AR ps.length ws (GS js f js.length) x l) (AA ws js ns))=λl=>BG (λx=>AR ps.length ws js x l) (AA ws js ns) from funext λl=>by rw [LL (GK _ _ _)]]
end
end Go.Ns
namespace Go.Ns
theorem BI.snoc{h:GH}{js:List AI}{x:AI}(a:BI h js)(b:AK h x.pv 1 eI x.parts):BI h (js++[x]):=λk=>by
 rw [FU];split
 ·exact a k
 ·cases hk:k-js.length with
  | zero=>exact b
  | succ n=>rw [Bf aD];exact AK.nil _ _ _
section
variable {F G:AB->Int} {l m:List AB}
theorem Vu(hl:0<l.length)(hm:0<m.length)(a:∀x ∈ l,∃y ∈ m,G y=F x)(b:∀y ∈ m,∃x ∈ l,F x=G y):B4 F l=B4 G m:=by
 obtain ⟨x,hx,e1⟩:=J9 (F:=F) hl;obtain ⟨y,hy,e2⟩:=J9 (F:=G) hm;obtain ⟨x2,hx2,e3⟩:=b y hy;obtain ⟨y2,hy2,e4⟩:=a x hx
 have:=MJ (F:=F) hx2
 have:=MJ (F:=G) hy2
 omega
theorem Vv(hl:0<l.length)(hm:0<m.length)(a:∀x ∈ l,∃y ∈ m,G y=F x)(b:∀y ∈ m,∃x ∈ l,F x=G y):BG F l=BG G m:=by
 obtain ⟨x,hx,e1⟩:=KA (F:=F) hl;obtain ⟨y,hy,e2⟩:=KA (F:=G) hm;obtain ⟨x2,hx2,e3⟩:=b y hy;obtain ⟨y2,hy2,e4⟩:=a x hx
 have:=MK (F:=F) hx2
 have:=MK (F:=G) hy2
 omega
end
section
variable {bag kinds:Int} {ps:List ByteArray} {ws:List AC} {js:List AI} {ns:List AJ} {l:List Int} {p q:AB} {j:AI} {k:Nat}
theorem KX:p ∈ AA ws js ns↔∃w s,w ∈ Fk (OG ws) ws.length/\Bu ns (Ui w [])=true/\s ∈ Fk (Io js) js.length/\p=Ui w s:=by
 rw [Vs,List.mem_map];unfold XO;constructor
 ·rintro ⟨x,hx,rfl⟩;obtain ⟨w,hw,hx⟩:=List.mem_flatMap.1 hx;obtain ⟨s,hs,rfl⟩:=List.mem_map.1 hx;obtain ⟨h1,h2⟩:=List.mem_filter.1 hw;exact ⟨w,s,h1,h2,hs,rfl⟩
 ·rintro ⟨w,s,h1,h2,h3,rfl⟩;exact ⟨(w,s),List.mem_flatMap.2 ⟨w,List.mem_filter.2 ⟨h1,h2⟩,List.mem_map.2 ⟨s,h3,rfl⟩⟩,rfl⟩
theorem jget(h:k<js.length):(js++[j]).getD k AI.z=js.getD k AI.z:=by rw [FU,if_pos h]
theorem S3:(js++[j]).getD js.length AI.z=j:=by rw [FU,if_neg (Nat.lt_irrefl _),Nat.sub_self];rfl
theorem S4:Fk (Io (js++[j])) (js.length+1)=(Fk (Io js) js.length).flatMap λx=>(Er j.low j.high).map λn=>x++[n]:=by
 show (Fk (Io (js++[j])) js.length).flatMap _=_;rw [QO (S':=Io js) js.length λk hk=>by unfold Io;rw [jget hk]];unfold Io;rw [S3]
def ZH(n:Nat)(p q:AB):Prop:=q.ways=p.ways/\∀k,k<n->q.works k=p.works k
theorem UQ(hj:j.low<=j.high)(h:p ∈ AA ws js ns):∃q ∈ AA ws (js++[j]) ns,ZH js.length p q:=by
 obtain ⟨w,s,h1,h2,h3,rfl⟩:=KX.1 h;refine ⟨Ui w (s++[j.low]),KX.2 ⟨w,s++[j.low],h1,h2,?_,rfl⟩,rfl,λk hk=>?_⟩
 ·rw [List.length_append,List.length_singleton,S4];exact List.mem_flatMap.2 ⟨s,h3,List.mem_map.2 ⟨j.low,SI.2 ⟨Int.le_refl _,hj⟩,rfl⟩⟩
 ·show (s++[j.low]).getD k 0=s.getD k 0;rw [FU,if_pos (by rw [(QN _ _ h3).1];exact hk)]
theorem NF(h:q ∈ AA ws (js++[j]) ns):∃p ∈ AA ws js ns,ZH js.length p q:=by
 obtain ⟨w,s,h1,h2,h3,rfl⟩:=KX.1 h;rw [List.length_append,List.length_singleton,S4] at h3;obtain ⟨s2,h4,h5⟩:=List.mem_flatMap.1 h3;obtain ⟨n,_,rfl⟩:=List.mem_map.1 h5;refine ⟨Ui w s2,KX.2 ⟨w,s2,h1,h2,h4,rfl⟩,rfl,λk hk=>?_⟩;show (s2++[n]).getD k 0=s2.getD k 0;rw [FU,if_pos (by rw [(QN _ _ h4).1];exact hk)]
theorem KC(hj:j.low<=j.high):0<(AA ws (js++[j]) ns).length↔0<(AA ws js ns).length:=by
 constructor
 ·intro h;obtain ⟨p,hp,_⟩:=NF (List.getElem_mem h);exact List.length_pos_of_mem hp
 ·intro h;obtain ⟨p,hp,_⟩:=UQ hj (List.getElem_mem h);exact List.length_pos_of_mem hp
theorem S5(hr:GJ js.length l):∀i,i<=l.length->Cj (js++[j]) l i=Cj js l i
 | 0,_=>rfl
 | i+1,h=>by
  show ((js++[j]).getD (l.getD i 0).toNat AI.z).place=(js.getD (l.getD i 0).toNat AI.z).place;rw [jget (by have:=hr.at i aA;omega)]
theorem Vw(bk:A8 bag kinds ps ws js ns)(e:q.ways=p.ways):Al ps.length ws q=Al ps.length ws p:=Mw bk.wlen (by unfold AB.w5;rw [e])
theorem JS(bk:A8 bag kinds ps ws js ns)(hr:GJ js.length l)(e:ZH js.length p q):∀i,i<=l.length->A5 ps.length ws (js++[j]) q l i=A5 ps.length ws js p l i
 | 0,_=>rfl
 | i+1,h=>by
  have r:=hr.at i aA;show A5 ps.length ws (js++[j]) q l i+(Al ps.length ws q (Cj (js++[j]) l i).toNat ((js++[j]).getD (l.getD i 0).toNat AI.z).place.toNat+q.works (l.getD i 0).toNat)=A5 ps.length ws js p l i+(Al ps.length ws p (Cj js l i).toNat (js.getD (l.getD i 0).toNat AI.z).place.toNat+p.works (l.getD i 0).toNat);rw [JS bk hr e i aA,S5 hr i aA,jget aA,Vw bk e.1,e.2 _ aA]
theorem OI(bk:A8 bag kinds ps ws js ns)(hr:GJ js.length l)(e:ZH js.length p q):AR ps.length ws (js++[j]) q l=AR ps.length ws js p l:=by
 unfold AR;rw [JS bk hr e _ (Nat.le_refl _),S5 hr _ (Nat.le_refl _),Vw bk e.1]
theorem GJ.more(hr:GJ js.length l):GJ (js++[j]).length l:=⟨hr.1,λx hx=>by have:=hr.2 x hx;rw [List.length_append,List.length_singleton];omega⟩
theorem AAO(hr:GJ js.length l):CP kinds (js++[j]) l=CP kinds js l:=by
 have key:∀i,i<=l.length->Bp kinds (js++[j]) l i=Bp kinds js l i:=λi=>by
  induction i with
  | zero=>intro _;rfl
  | succ i ih=>
   intro h;have r:=hr.at i aA;unfold Bp;rw [ih aA,jget aA]
 exact key _ (Nat.le_refl _)
variable (bk:A8 bag kinds ps ws js ns) (hj:j.low<=j.high) (ht:0<(AA ws js ns).length) (hr:GJ js.length l)
include bk hj ht hr
theorem Vx(hk:k<l.length):Kq ps.length ws (js++[j]) (AA ws (js++[j]) ns) l k=Kq ps.length ws js (AA ws js ns) l k/\Jh ps.length ws (js++[j]) (AA ws (js++[j]) ns) l k=Jh ps.length ws js (AA ws js ns) l k:=by
 have a:∀x ∈ AA ws (js++[j]) ns,∃y ∈ AA ws js ns,A5 ps.length ws js y l (k+1)=A5 ps.length ws (js++[j]) x l (k+1):=λx hx=>by
  obtain ⟨p,hp,e⟩:=NF hx;exact ⟨p,hp,(JS bk hr e _ aA).symm⟩
 have b:∀y ∈ AA ws js ns,∃x ∈ AA ws (js++[j]) ns,A5 ps.length ws (js++[j]) x l (k+1)=A5 ps.length ws js y l (k+1):=λy hy=>by
  obtain ⟨q,hq,e⟩:=UQ hj hy;exact ⟨q,hq,JS bk hr e _ aA⟩
 exact ⟨Vu ((KC hj).2 ht) ht a b,Vv ((KC hj).2 ht) ht a b⟩
theorem AAP:B4 (λx=>AR ps.length ws (js++[j]) x l) (AA ws (js++[j]) ns)=B4 (λx=>AR ps.length ws js x l) (AA ws js ns)/\BG (λx=>AR ps.length ws (js++[j]) x l) (AA ws (js++[j]) ns)=BG (λx=>AR ps.length ws js x l) (AA ws js ns):=by
 have a:∀x ∈ AA ws (js++[j]) ns,∃y ∈ AA ws js ns,AR ps.length ws js y l=AR ps.length ws (js++[j]) x l:=λx hx=>by
  obtain ⟨p,hp,e⟩:=NF hx;exact ⟨p,hp,(OI bk hr e).symm⟩
 have b:∀y ∈ AA ws js ns,∃x ∈ AA ws (js++[j]) ns,AR ps.length ws (js++[j]) x l=AR ps.length ws js y l:=λy hy=>by
  obtain ⟨q,hq,e⟩:=UQ hj hy;exact ⟨q,hq,OI bk hr e⟩
 exact ⟨Vu ((KC hj).2 ht) ht a b,Vv ((KC hj).2 ht) ht a b⟩
theorem AAQ:EI ps.length ws (js++[j]) (AA ws (js++[j]) ns) l l.length=EI ps.length ws js (AA ws js ns) l l.length:=by
 have key:∀i,i<=l.length->EI ps.length ws (js++[j]) (AA ws (js++[j]) ns) l i=EI ps.length ws js (AA ws js ns) l i:=λi=>by
  induction i with
  | zero=>intro _;rfl
  | succ i ih=>
   intro h;have e:=Vx bk hj ht hr (k:=i) aA;show EI ps.length ws (js++[j]) (AA ws (js++[j]) ns) l i++[(Kq ps.length ws (js++[j]) (AA ws (js++[j]) ns) l i,Jh ps.length ws (js++[j]) (AA ws (js++[j]) ns) l i)]=EI ps.length ws js (AA ws js ns) l i++[(Kq ps.length ws js (AA ws js ns) l i,Jh ps.length ws js (AA ws js ns) l i)];rw [ih aA,e.1,e.2]
 exact key _ (Nat.le_refl _)
theorem AAR:Ba ps.length ws (js++[j]) (AA ws (js++[j]) ns) l bag kinds=Ba ps.length ws js (AA ws js ns) l bag kinds:=by
 unfold Ba;rw [AAO hr];congr 1;rw [Bool.eq_iff_iff,List.all_eq_true,List.all_eq_true];have key:∀i ∈ List.range l.length,H1 ps.length ws (js++[j]) (AA ws (js++[j]) ns) l i=H1 ps.length ws js (AA ws js ns) l i:=λi hi=>by
  have h:=List.mem_range.1 hi;have r:=hr.at i h;unfold H1;rw [(Vx bk hj ht hr h).2,jget aA]
 exact ⟨λx i hi=>(key i hi)▸x i hi,λx i hi=>(key i hi).symm▸x i hi⟩
end
section
variable {bag kinds:Int} {ps:List ByteArray} {ws:List AC} {js:List AI} {ns:List AJ} {l:List Int} {j:AI}
theorem MQ(bk:A8 bag kinds ps ws (js++[j]) ns):j.low<=j.high:=by
 have:=(L0 (bk.job js.length (by rw [List.length_append,List.length_singleton];omega))).time
 rw [S3] at this;omega
variable (hz:A0 bag kinds ps ws js ns=0) (hz2:A0 bag kinds ps ws (js++[j]) ns=0)
include hz hz2
theorem Fu:AU bag kinds ps ws (js++[j]) ns 0=AU bag kinds ps ws js ns 0:=by
 have p:=KC (ws:=ws) (js:=js) (ns:=ns) (MQ (Bm hz2));by_cases e:(AA ws js ns).length=0
 ·rw [Oi (λn=>n hz) (λn=>n rfl) e,Oi (λn=>n hz2) (λn=>n rfl) (Decidable.byContradiction λn=>by have:=p.1 aA;omega)]
 ·rw [T1 (λn=>n hz) (λn=>n rfl) e,T1 (λn=>n hz2) (λn=>n rfl) (λn=>by have:=p.2 aA;omega)]
theorem XP(hr:GJ js.length l):Eg bag kinds ps ws (js++[j]) ns l=Eg bag kinds ps ws js ns l:=by
 unfold Eg;rw [hr.bell,hr.more.bell,Fu hz hz2];by_cases h0:AU bag kinds ps ws js ns 0=0
 ·rw [if_neg (λn=>n h0),if_neg (λn=>n h0)];exact AAQ (Bm hz) (MQ (Bm hz2)) (Dd h0).2.2 hr
 ·rw [if_pos h0,if_pos h0]
theorem LM(hr:GJ js.length l):DB bag kinds ps ws (js++[j]) ns l=DB bag kinds ps ws js ns l:=by
 unfold DB;rw [hr.bell,hr.more.bell,Fu hz hz2];by_cases h0:AU bag kinds ps ws js ns 0=0
 ·rw [if_neg (λn=>n h0),if_neg (λn=>n h0)];exact AAR (Bm hz) (MQ (Bm hz2)) (Dd h0).2.2 hr
 ·rw [if_pos h0,if_pos h0]
theorem QR(hr:GJ js.length l):Ds (AU bag kinds ps ws js ns 0) (B4 (λx=>AR ps.length ws (js++[j]) x l) (AA ws (js++[j]) ns))=Ds (AU bag kinds ps ws js ns 0) (B4 (λx=>AR ps.length ws js x l) (AA ws js ns))/\
  Ds (AU bag kinds ps ws js ns 0) (BG (λx=>AR ps.length ws (js++[j]) x l) (AA ws (js++[j]) ns))=Ds (AU bag kinds ps ws js ns 0) (BG (λx=>AR ps.length ws js x l) (AA ws js ns)):=by
 by_cases h0:AU bag kinds ps ws js ns 0=0
 ·have:=AAP (Bm hz) (MQ (Bm hz2)) (Dd h0).2.2 hr
  rw [this.1,this.2];exact ⟨rfl,rfl⟩
 ·rw [Jg h0,Jg h0,Jg h0,Jg h0];exact ⟨rfl,rfl⟩
omit hz2 in
theorem best_le:(BO bag kinds ps ws js ns).length<=4:=by
 by_cases h0:AU bag kinds ps ws js ns 0=0
 ·exact Nat.le_trans (QI hz h0).1.len (Bm hz).jlen
 ·rw [(NE h0).1];omega
theorem AAS:(BO bag kinds ps ws js ns).length<=(BO bag kinds ps ws (js++[j]) ns).length/\(BO bag kinds ps ws (js++[j]) ns).length<=(BO bag kinds ps ws js ns).length+1:=by
 by_cases h0:AU bag kinds ps ws js ns 0=0
 ·have h2:=(Fu hz hz2).trans h0;obtain ⟨v1,s1⟩:=QI hz h0;obtain ⟨v2,s2⟩:=QI hz2 h2;have lo:=(Vn hz2 h2 v1.more (by rw [LM hz hz2 v1,QH h0 v1];exact s1)).1;refine ⟨lo,?_⟩;have up:∀{r:List Int},GJ js.length r->Ba ps.length ws (js++[j]) (AA ws (js++[j]) ns) r bag kinds=true->r.length<=(BO bag kinds ps ws js ns).length:=λ{r} hr hs=>
   (Vn hz h0 hr (by rw [<-LM hz hz2 hr,QH h2 hr.more];exact hs)).1
  by_cases hm:(js.length:Int) ∈ BO bag kinds ps ws (js++[j]) ns
  ·obtain ⟨i,hi,e⟩:=List.mem_iff_getElem.1 hm;have r:GJ js.length ((BO bag kinds ps ws (js++[j]) ns).eraseIdx i):=⟨(v2.erase i).1,λx hx=>by
    have h1:=(v2.erase i).2 x hx;rw [List.length_append,List.length_singleton] at h1
    have:x≠(js.length:Int):=λq=>by
     subst q;obtain ⟨k,hkl,hki,hkv⟩:=List.mem_eraseIdx_iff_getElem.1 hx
     have:=(List.pairwise_iff_getElem.1 (List.nodup_iff_pairwise_ne.1 v2.1))
     rcases Nat.lt_or_gt_of_ne hki with z | z
     ·exact this _ _ hkl hi z (hkv.trans e.symm)
     ·exact this _ _ hi hkl z (e.trans hkv.symm)
    omega⟩
   have s:=AAH (Bm hz2) (Dd h2).2.2 v2 hi s2
   have:=up r s
   rw [List.length_eraseIdx_of_lt hi] at this;omega
  ·have r:GJ js.length (BO bag kinds ps ws (js++[j]) ns):=⟨v2.1,λx hx=>by
    have h1:=v2.2 x hx;rw [List.length_append,List.length_singleton] at h1
    have:x≠(js.length:Int):=λq=>hm (q▸hx)
    omega⟩
   have:=up r s2
   omega
 ·have h2:¬AU bag kinds ps ws (js++[j]) ns 0=0:=by rw [Fu hz hz2];exact h0
  rw [(NE h0).1,(NE h2).1];omega
end
end Go.Ns
namespace Go.Ns
open Go.Conc
universe u
theorem Z{V:Sort u}{a:V}:a=a:=rfl
theorem Lr{h:GH}:GH.Le h h:=GH.Le.refl h
theorem Ln{h h':GH}(l:h.Le h'){r:Nat}(hr:h' r=none):h r=none:=l.nothing hr
theorem CH{h:GH}{b r:Nat}{p:Bool}{o:Obj}(hb:h b=some (p,o))(hr:h r=none):b≠r:=GH.ne_of hb hr
theorem Nb{a b:Nat}(h:Nat.ble a b=true):a<=b:=Nat.le_of_ble_eq_true h
theorem Dn{p:Prop}[Decidable p](h:¬¬p):p:=Decidable.not_not.1 h
theorem Et{V:Sort u}{a b c:V}(x:a=b)(y:b=c):a=c:=x.trans y
theorem Kl{h0 h:GH}(k:KeepD (λb=>h0 b=none) h0 h):h0.Le h:=k.leOf
theorem Bx{h:GH}{b:Nat}{p:Bool}{c:Array Value}{t:TypeId}{f:Nat×Nat}(hb:h b=some (p,.cells c t f)){n:Nat}(hn:c.size=n):AX h b 0 n c:=AX.box hb hn
abbrev lE(v:Value):Law2:=λ_ u _=>u=v
abbrev lF(v:Value):SA:=λu _=>u=v
abbrev zP:Array Value:=#[.int .i64 0,.int .i64 0,.slice none 0 0,.slice none 0 0,.slice none 0 0,.slice none 0 0,.map none]
section
variable {P:Program} {E:GW P} {O:Nat->Value} {ds:List Deferred} {h:GH} {Q:Post} {T:(Nat->Value)->List Deferred->GH->Prop}
variable {dst:Option Nat} {ty:TypeId} {pos:String} {af:Array Edge} {ops:Array Oper} {o:Oper} {l:List Oper}
theorem Sq{x y:Code}(a:Tr E x O ds h (λe σ' ds' h'=>match e with | .normal=>Tr E y σ' ds' h' Q | e=>Q e σ' ds' h')):Tr E (.seq x y) O ds h Q:=tr_seq a
theorem Rg{id:Nat}{l:List Oper}(a:DK E l.toArray l O ds h Q):Tr E (.region id l.toArray false) O ds h Q:=ZO a
theorem Nl(q:Q .normal O ds h):DK E ops [] O ds h Q:=trL_nil q
abbrev Rt:=@tr_ret
abbrev Bk:=@tr_block
abbrev Sk:=@tr_skip
abbrev Xt:=@tr_exit
def plainB(N:Nat)(o:Oper):Bool:=o.guard.isNone && !Cv o.op && Cr o.dst N
theorem Pl(hp:plainB E.N o=true)(x:BR E o O ds h λσ' ds' h'=>DK E ops l σ' ds' h' Q):DK E ops (o ::l) O ds h Q:=by
 simp only [plainB,Bool.and_eq_true,Option.isNone_iff_eq_none,Bool.not_eq_true'] at hp;exact Gb hp.1.1 hp.1.2 hp.2 x
theorem Mv{x:Operand}(v:Value)(hp:Cr dst E.N=true)(hx:AN O x=v)(k:DK E ops l (putS O dst v) ds h Q):DK E ops (⟨dst,.move x,ty,pos,af,none⟩ ::l) O ds h Q:=Gb rfl rfl hp (Tb hx k)
theorem As{x:Operand}(v:Value)(hp:Cr dst E.N=true)(hx:AN O x=v)(k:DK E ops l (putS O dst v) ds h Q):DK E ops (⟨dst,.assign x,ty,pos,af,none⟩ ::l) O ds h Q:=Gb rfl rfl hp (Mg hx k)
theorem Ld{t:TypeId}{x:Operand}{b off:Nat}(v:Value)(hp:Cr dst E.N=true)(hx:AN O x=.pointer (some ⟨b,off,none⟩))(hr:Rd P h t b off v)(k:DK E ops l (putS O dst v) ds h Q):DK E ops (⟨dst,.load t x,ty,pos,af,none⟩ ::l) O ds h Q:=
 Gb rfl rfl hp (Bz hx hr k)
theorem Fa{s:TypeId}{x:Operand}{f o b off:Nat}(hf:Dm P s f=some o)(hp:Cr dst E.N=true)(hx:AN O x=.pointer (some ⟨b,off,none⟩))(k:DK E ops l (putS O dst (.pointer (some ⟨b,off+o,none⟩))) ds h Q) :
  DK E ops (⟨dst,.fieldAddr s x f,ty,pos,af,none⟩ ::l) O ds h Q:=Gb rfl rfl hp (AF hf hx k)
theorem Pk{c a b:Operand}(t:Bool)(v:Value)(hp:Cr dst E.N=true)(hc:AN O c=.bool t)(hv:(if t then AN O a else AN O b)=v)(k:DK E ops l (putS O dst v) ds h Q):DK E ops (⟨dst,.pick c a b,ty,pos,af,none⟩ ::l) O ds h Q:=
 Gb rfl rfl hp (BL hc hv k)
theorem Ad{xt yt:TypeId}{x y:Operand}(a b:Int)(hp:Cr dst E.N=true)(hx:AN O x=.int .i64 a)(hy:AN O y=.int .i64 b)(hr: -9223372036854775808<=a+b/\a+b<=9223372036854775807)(k:DK E ops l (putS O dst (.int .i64 (a+b))) ds h Q) :
  DK E ops (⟨dst,.binOp .add xt x y yt,ty,pos,af,none⟩ ::l) O ds h Q:=Gb rfl rfl hp (Mh hx hy hr k)
def skipB(N:Nat)(ops:Array Oper)(o:Oper)(j d:Nat)(is:Bool):Bool:=(match o.guard with
 | some (i,w)=>i==j && w !=is
 | none=>false) && (match ops[j]? with
 | some oj=>(match oj.dst with
  | some e=>e==d
  | none=>false)
 | none=>false) && Nat.blt d N && Cr o.dst N
theorem Gs(j d:Nat){is:Bool}(hv:O d=.bool is)(hs:skipB E.N ops o j d is=true)(x:DK E ops l (putS O o.dst undef) ds h Q):DK E ops (o ::l) O ds h Q:=by
 simp only [skipB,Bool.and_eq_true] at hs;obtain ⟨⟨⟨h1,h2⟩,h3⟩,h4⟩:=hs;cases hg:o.guard with
 | none=>rw [hg] at h1;cases h1
 | some q=>
  obtain ⟨i,w⟩:=q;rw [hg] at h1;simp only [Bool.and_eq_true,beq_iff_eq,bne_iff_ne,ne_eq] at h1;obtain ⟨rfl,hne⟩:=h1;cases hj:ops[i]? with
  | none=>rw [hj] at h2;cases h2
  | some oj=>
   cases hd:oj.dst with
   | none=>simp [hj,hd] at h2
   | some e=>
    obtain rfl:e=d:=by simpa [hj,hd] using h2
    exact On hg hj hd hv h3 hne h4 x
def goB(N:Nat)(ops:Array Oper)(o:Oper)(j d:Nat)(is:Bool):Bool:=(match o.guard with
 | some (i,w)=>i==j && w==is
 | none=>false) && (match ops[j]? with
 | some oj=>(match oj.dst with
  | some e=>e==d
  | none=>false)
 | none=>false) && Nat.blt d N && !Cv o.op && Cr o.dst N
theorem Gg(j d:Nat){is:Bool}(hv:O d=.bool is)(hs:goB E.N ops o j d is=true)(x:BR E o O ds h λσ' ds' h'=>DK E ops l σ' ds' h' Q):DK E ops (o ::l) O ds h Q:=by
 simp only [goB,Bool.and_eq_true,Bool.not_eq_true'] at hs;obtain ⟨⟨⟨⟨h1,h2⟩,h3⟩,h5⟩,h4⟩:=hs;cases hg:o.guard with
 | none=>rw [hg] at h1;cases h1
 | some q=>
  obtain ⟨i,w⟩:=q;rw [hg] at h1;simp only [Bool.and_eq_true,beq_iff_eq] at h1;obtain ⟨rfl,rfl⟩:=h1;cases hj:ops[i]? with
  | none=>rw [hj] at h2;cases h2
  | some oj=>
   cases hd:oj.dst with
   | none=>simp [hj,hd] at h2
   | some e=>
    obtain rfl:e=d:=by simpa [hj,hd] using h2
    exact trL_opg hg hj hd hv h3 (.inr h5) h4 x
end
section
variable {S:Nat->Prop} {Pre:Nat->GH->Prop} {Φ:List Law2} {cl:List Nat} {k d:Nat} {h h':GH} {O:Nat->Value} {ds:List Deferred} {v:Value}
theorem fL{Φ:List SA}(p:Lh Φ k v h):ds=ds/\GH.Le h h/\∃w,putS O (some d) v=putS O (some d) w/\Lh Φ k w h:=⟨rfl,GH.Le.refl _,_,rfl,p⟩
theorem K1{R:GH->GH->Prop}{Φ:List SA}{a:Value}(x:F6 R Φ):F6 R (lF a ::Φ):=⟨λ_ _ _ _ y=>y,x⟩
theorem K2{R:GH->GH->Prop}{Φ:List SA}{a b:Value}(x:F6 R Φ):F6 R (lF a ::lF b ::Φ):=K1 (K1 x)
theorem K4{R:GH->GH->Prop}{Φ:List SA}{a b c d:Value}(x:F6 R Φ):F6 R (lF a ::lF b ::lF c ::lF d ::Φ):=K2 (K2 x)
theorem K8{R:GH->GH->Prop}{Φ:List SA}{a b c d a' b' c' d':Value}(x:F6 R Φ):F6 R (lF a ::lF b ::lF c ::lF d ::lF a' ::lF b' ::lF c' ::lF d' ::Φ):=K4 (K4 x)
end
end Go.Ns
namespace Go.Ns
open Go.Conc
section
variable {P:Program} {E:GW P} {O:Nat->Value} {ds:List Deferred} {h:GH} {Q:Post} {T:(Nat->Value)->List Deferred->GH->Prop}
variable {dst:Option Nat} {ty:TypeId} {pos:String} {af:Array Edge} {ops:Array Oper} {o:Oper} {l:List Oper} {gd:Option (Nat×Bool)}
theorem Mz{x:Operand}(v:Value)(e:(Cr dst E.N,AN O x)=(true,v))(k:DK E ops l (putS O dst v) ds h Q):DK E ops (⟨dst,.move x,ty,pos,af,none⟩ ::l) O ds h Q:=Mv v (congrArg Prod.fst e) (congrArg Prod.snd e) k
theorem Az{x:Operand}(v:Value)(e:(Cr dst E.N,AN O x)=(true,v))(k:DK E ops l (putS O dst v) ds h Q):DK E ops (⟨dst,.assign x,ty,pos,af,none⟩ ::l) O ds h Q:=As v (congrArg Prod.fst e) (congrArg Prod.snd e) k
theorem Lz{t:TypeId}{x:Operand}{b off:Nat}(v:Value)(e:(Cr dst E.N,AN O x)=(true,.pointer (some ⟨b,off,none⟩)))(hr:Rd P h t b off v)(k:DK E ops l (putS O dst v) ds h Q):DK E ops (⟨dst,.load t x,ty,pos,af,none⟩ ::l) O ds h Q:=
 Ld v (congrArg Prod.fst e) (congrArg Prod.snd e) hr k
theorem Fz{s:TypeId}{x:Operand}{f o b off:Nat}(hf:Dm P s f=some o)(e:(Cr dst E.N,AN O x)=(true,.pointer (some ⟨b,off,none⟩)))(k:DK E ops l (putS O dst (.pointer (some ⟨b,off+o,none⟩))) ds h Q) :
  DK E ops (⟨dst,.fieldAddr s x f,ty,pos,af,none⟩ ::l) O ds h Q:=Fa hf (congrArg Prod.fst e) (congrArg Prod.snd e) k
theorem Pz{c a b:Operand}(t:Bool)(v:Value)(e:(Cr dst E.N,AN O c,(if t then AN O a else AN O b))=(true,.bool t,v))(k:DK E ops l (putS O dst v) ds h Q):DK E ops (⟨dst,.pick c a b,ty,pos,af,none⟩ ::l) O ds h Q:=
 Pk t v (congrArg Prod.fst e) (congrArg (λq=>q.2.1) e) (congrArg (λq=>q.2.2) e) k
theorem Yd{xt yt:TypeId}{x y:Operand}{a b:Int}(e:(Cr dst E.N,AN O x,AN O y)=(true,.int .i64 a,.int .i64 b))(hr: -9223372036854775808<=a+b/\a+b<=9223372036854775807)(k:DK E ops l (putS O dst (.int .i64 (a+b))) ds h Q) :
  DK E ops (⟨dst,.binOp .add xt x y yt,ty,pos,af,none⟩ ::l) O ds h Q:=Ad a b (congrArg Prod.fst e) (congrArg (λq=>q.2.1) e) (congrArg (λq=>q.2.2) e) hr k
theorem Mo{x:Operand}(v:Value)(hx:AN O x=v)(k:T (putS O dst v) ds h):BR E ⟨dst,.move x,ty,pos,af,gd⟩ O ds h T:=Tb hx k
theorem Lo{t:TypeId}{x:Operand}{b off:Nat}(v:Value)(hx:AN O x=.pointer (some ⟨b,off,none⟩))(hr:Rd P h t b off v)(k:T (putS O dst v) ds h):BR E ⟨dst,.load t x,ty,pos,af,gd⟩ O ds h T:=Bz hx hr k
theorem Ex{x:Operand}{n:Nat}{vs:Array Value}(v:Value)(e:(AN O x,vs[n]?)=(.tuple vs,some v))(k:T (putS O dst v) ds h):BR E ⟨dst,.extract x n,ty,pos,af,gd⟩ O ds h T:=WW (congrArg Prod.fst e) (congrArg Prod.snd e) k
theorem Bo{t:TypeId}{x:Operand}{v:Value}(c:Array Value)(hx:AN O x=v)(hc:v.cells=c)
  (k:∀r h',h r=none->h.Le h'->h' r=some (true,.cells c t (0,0))->(∀b,b≠r->h' b=h b)->T (putS O dst (.pointer (some ⟨r,0,none⟩))) ds h'):BR E ⟨dst,.box t x,ty,pos,af,gd⟩ O ds h T:=Tc hx hc k
theorem So{t:TypeId}{a x:Operand}{b off n:Nat}{g:Bool}{c:Array Value}{et:TypeId}(v:Value)(c':Array Value)(ht:CY P t=some (g,n))(e:(AN O a,AN O x)=(.pointer (some ⟨b,off,none⟩),v))(hb:h b=some (true,.cells c et (0,0)))
  (e2:(v.cells.size,Value.fine v)=(n,true)) (hn:off+n<=c.size) (hc:Bq c off v.cells.toList=c') (k:∀h',h' b=some (true,.cells c' et (0,0))->(∀x,x≠b->h' x=h x)->T (putS O dst undef) ds h') :
  BR E ⟨dst,.store t a x,ty,pos,af,gd⟩ O ds h T:=Ab ht (congrArg Prod.fst e) (congrArg Prod.snd e) hb (congrArg Prod.fst e2) (congrArg Prod.snd e2) hn hc k
theorem Ot{fn:Func}{R:Value->GH->Prop}{t:Tmp}(v:Value)(e:(fn.results,O t)=(#[.tmp t],v))(x:R v h):Ga P fn O R [] h:=Ie (congrArg Prod.fst e) (congrArg Prod.snd e) x
theorem Ou{fn:Func}{R:Value->GH->Prop}{t u:Tmp}(v v':Value)(e:(fn.results,O t,O u)=(#[.tmp t,.tmp u],v,v'))(x:R (.tuple #[v,v']) h):Ga P fn O R [] h:=outs2 (congrArg Prod.fst e) (congrArg (λq=>q.2.1) e) (congrArg (λq=>q.2.2) e) x
theorem Sr{id:Nat}{y:Code}(a:DK E l.toArray l O ds h (λe σ' ds' h'=>match e with | .normal=>Tr E y σ' ds' h' Q | e=>Q e σ' ds' h')):Tr E (.seq (.region id l.toArray false) y) O ds h Q:=Sq (Rg a)
theorem S2{id:Nat}{y z:Code}(a:DK E l.toArray l O ds h (λe σ' ds' h'=>match e with | .normal=>Tr E y σ' ds' h' (λe σ' ds' h'=>match e with | .normal=>Tr E z σ' ds' h' Q | e=>Q e σ' ds' h') | e=>(λe σ' ds' h'=>match e with | .normal=>Tr E z σ' ds' h' Q | e=>Q e σ' ds' h') e σ' ds' h')) :
  Tr E (.seq (.seq (.region id l.toArray false) y) z) O ds h Q:=Sq (Sq (Rg a))
theorem Zr{V:Type}{a b:V}:a=b\/a=a:=.inr rfl
theorem M2{x x':Operand}{dst':Option Nat}{ty':TypeId}{pos':String}{af':Array Edge}(v v':Value)(e:(Cr dst E.N,AN O x,Cr dst' E.N,AN (putS O dst v) x')=(true,v,true,v'))(k:DK E ops l (putS (putS O dst v) dst' v') ds h Q):DK E ops (⟨dst,.move x,ty,pos,af,none⟩ ::⟨dst',.move x',ty',pos',af',none⟩ ::l) O ds h Q:=
 Mv v (congrArg Prod.fst e) (congrArg (λq=>q.2.1) e) (Mv v' (congrArg (λq=>q.2.2.1) e) (congrArg (λq=>q.2.2.2) e) k)
theorem A2{x x':Operand}{dst':Option Nat}{ty':TypeId}{pos':String}{af':Array Edge}(v v':Value)(e:(Cr dst E.N,AN O x,Cr dst' E.N,AN (putS O dst v) x')=(true,v,true,v'))(k:DK E ops l (putS (putS O dst v) dst' v') ds h Q):DK E ops (⟨dst,.assign x,ty,pos,af,none⟩ ::⟨dst',.assign x',ty',pos',af',none⟩ ::l) O ds h Q:=
 As v (congrArg Prod.fst e) (congrArg (λq=>q.2.1) e) (As v' (congrArg (λq=>q.2.2.1) e) (congrArg (λq=>q.2.2.2) e) k)
theorem Ct{W:Wk P}{f:FuncId}{fn:Func}{c:Code}{args:Array Value}{R:Value->GH->Prop}(hf:P.funcs[f]? =some fn)(e:(fn.body,Nat.ble args.size fn.ntmps)=(some c,true))
  (x:Tr ⟨W,f,none,fn.ntmps⟩ c (λi=>args.getD i undef) [] h (λe O ds h'=>(e=.normal\/e=.ret)/\Ga P fn O R ds h')):AT W f args h R:=WV hf (congrArg Prod.fst e) (Nat.le_of_ble_eq_true (congrArg Prod.snd e)) x
end
section
variable {P:Program} {E:GW P} {l:List Oper} {n:Nat} {fl:Bool} {hs:GH} {ds:List Deferred} {Lw:Nat->Value->GH->Prop} {F:(Nat->Value)->GH->Prop} {π:List Nat} {O:Nat->Value} {h:GH} {m k g d:Nat} {dst:Option Nat} {op:Op} {ty:TypeId} {pos:String} {af:Array Edge} {v:Value} {w is:Bool} {og:Oper}
theorem Rz(e:(Ki m,l[k]?)=((.r,k),some ⟨dst,op,ty,pos,af,none⟩))(x:Th E ⟨dst,op,ty,pos,af,none⟩ O ds h v)(y:TD E l n fl hs ds Lw F (dK π) (putS O dst v) h):TD E l n fl hs ds Lw F (dK (m ::π)) O h:=tR (congrArg Prod.fst e) (congrArg Prod.snd e) x y
theorem Rm{x:Operand}(v:Value)(e:(Ki m,l[k]?,AN O x)=((.r,k),some ⟨dst,.move x,ty,pos,af,none⟩,v))(y:TD E l n fl hs ds Lw F (dK π) (putS O dst v) h):TD E l n fl hs ds Lw F (dK (m ::π)) O h:=
 tR (congrArg Prod.fst e) (congrArg (λq=>q.2.1) e) (Tb (congrArg (λq=>q.2.2) e) vz) y
theorem Rl{t:TypeId}{x:Operand}{b off:Nat}(v:Value)(e:(Ki m,l[k]?,AN O x)=((.r,k),some ⟨dst,.load t x,ty,pos,af,none⟩,.pointer (some ⟨b,off,none⟩)))(hr:Rd P h t b off v)(y:TD E l n fl hs ds Lw F (dK π) (putS O dst v) h):TD E l n fl hs ds Lw F (dK (m ::π)) O h:=
 tR (congrArg Prod.fst e) (congrArg (λq=>q.2.1) e) (Bz (congrArg (λq=>q.2.2) e) hr vz) y
theorem Py(e:(Ki m,l[k]?)=((.p,k),some ⟨dst,op,ty,pos,af,none⟩))(x:∀hx,Th E ⟨dst,op,ty,pos,af,none⟩ O ds hx v)(y:TD E l n fl hs ds Lw F (dK π) (putS O dst v) h):TD E l n fl hs ds Lw F (dK (m ::π)) O h:=tP (congrArg Prod.fst e) (congrArg Prod.snd e) x y
theorem Ry(e:(Ki m,l[k]?,l[g]?,og.dst)=((.r,k),some ⟨dst,op,ty,pos,af,some (g,w)⟩,some og,some d))(h3:O d=.bool w)(x:Th E ⟨dst,op,ty,pos,af,some (g,w)⟩ O ds h v)
  (y:TD E l n fl hs ds Lw F (dK π) (putS O dst v) h):TD E l n fl hs ds Lw F (dK (m ::π)) O h:=tRg (congrArg Prod.fst e) (congrArg (λq=>q.2.1) e) (congrArg (λq=>q.2.2.1) e) (congrArg (λq=>q.2.2.2) e) h3 x y
theorem Sz{kd:Kd}(e:(Ki m,l[k]?,l[g]?,og.dst)=((kd,k),some ⟨dst,op,ty,pos,af,some (g,w)⟩,some og,some d))(h3:O d=.bool is)(hne:(is==w)=false)
  (y:TD E l n fl hs ds Lw F (dK π) (putS O dst undef) h) (hl:(kd !=Kd.l)=true:=by rfl):TD E l n fl hs ds Lw F (dK (m ::π)) O h:=tS (congrArg Prod.fst e) (congrArg (λq=>q.2.1) e) (congrArg (λq=>q.2.2.1) e) (congrArg (λq=>q.2.2.2) e) h3 hne y hl
end
end Go.Ns
namespace Go.Ns
open Go.Conc
structure E0(h:GH)(ps:List ByteArray)(psv:Value)(ws:List AC)(wsv:Value)(js:List AI)(jsv:Value)(ns:List AJ)(nsv:Value):Prop where
 a:AK h psv 1 D0 ps
 b:AK h wsv 4 DO ws
 c:AK h jsv 5 CO js
 d:BI h js
 e:AK h nsv 3 CK ns
 f:Am h ns
theorem E0.le{h h':GH}{ps:List ByteArray}{psv:Value}{ws:List AC}{wsv:Value}{js:List AI}{jsv:Value}{ns:List AJ}{nsv:Value}(x:E0 h ps psv ws wsv js jsv ns nsv)(l:h.Le h'):E0 h' ps psv ws wsv js jsv ns nsv:=⟨x.1.le l,x.2.le l,x.3.le l,x.4.le l,x.5.le l,x.6.le l⟩
abbrev J(x:Int):Value:=.int .i64 x
abbrev Pt(b:Nat):Value:=.pointer (some ⟨b,0,none⟩)
abbrev Sc(b:Nat)(n c:Nat):Value:=.slice (some ⟨b,0,none⟩) n c
abbrev Q0:Array Value:=#[J 0,J 0,.slice none 0 0,.slice none 0 0,.slice none 0 0,.slice none 0 0,.slice none 0 0,.map none]
abbrev Q1(a:List AC)(b:List AI)(c:List AJ)(d:Nat):Array Value:=#[J (((AA a b c).getD (((d:Int)-1).toNat) AB.zero).ways 0),J (((AA a b c).getD (((d:Int)-1).toNat) AB.zero).ways 1),J (((AA a b c).getD (((d:Int)-1).toNat) AB.zero).ways 2),J (((AA a b c).getD (((d:Int)-1).toNat) AB.zero).ways 3),J (((AA a b c).getD (((d:Int)-1).toNat) AB.zero).ways 4)]
abbrev Q2(a:List AC)(b:List AI)(c:List AJ)(d:Nat):Array Value:=#[J (((AA a b c).getD d AB.zero).ways 0),J (((AA a b c).getD d AB.zero).ways 1),J (((AA a b c).getD d AB.zero).ways 2),J (((AA a b c).getD d AB.zero).ways 3),J (((AA a b c).getD d AB.zero).ways 4)]
abbrev Q3(a:List AC)(b:Nat):Array Value:=#[J ((a.getD b AC.z).a),J ((a.getD b AC.z).b),J ((a.getD b AC.z).low),J ((a.getD b AC.z).high)]
abbrev Q4(a:ByteArray)(b:Nat):=decide (¬(((97<=((bytesOf a).getD b 0))/\(((bytesOf a).getD b 0)<=122))\/(((0<(b:Int))/\(48<=((bytesOf a).getD b 0)))/\(((bytesOf a).getD b 0)<=57))))
abbrev Q5:Value:=.slice none 0 0
abbrev Q6:Array Value:=#[J 0,J 0,.slice none 0 0,.slice none 0 0,.slice none 0 0,.slice none 0 0]
abbrev Q7(a:List AJ)(b:Nat):Array Value:=#[(a.getD b AJ.z).wv,J ((a.getD b AJ.z).low),J ((a.getD b AJ.z).high)]
abbrev Q8(a:ByteArray)(b:Nat):=(bytesOf a).getD b 0
abbrev Q9(a:Int)(b:Int)(c:List ByteArray)(d:List AC)(e:List AI)(f:List AJ):Value:=.bool (decide (¬(AU a b c d e f 0)=(AU a b c d e f 0)))
abbrev Qa(a:List AI)(b:Nat):=decide ((¬(((0<=((a.getD b AI.z).low)/\((a.getD b AI.z).low)<=((a.getD b AI.z).high))/\((a.getD b AI.z).high)<=30)/\((a.getD b AI.z).high)-((a.getD b AI.z).low)<2))\/(¬(0<=((a.getD b AI.z).due)/\((a.getD b AI.z).due)<=200)))
abbrev Qb(a:List AC)(b:Nat):=(a.getD b AC.z).b
abbrev Qc(a:Int)(b:Int)(c:List ByteArray)(d:List AC)(e:List AI)(f:List AJ):=decide (((((((¬(AU a b c d e f 0)=(AU a b c d e f 0))\/(¬(AU a b c d e f 0)=(AU a b c d e f 0)))\/(¬(AU a b c d e f 0)=(AU a b c d e f 0)))\/(¬(AU a b c d e f 0)=(AU a b c d e f 0)))\/(¬(AU a b c d e f 0)=(AU a b c d e f 0)))\/(¬(AU a b c d e f 0)=(AU a b c d e f 0)))\/(¬(AU a b c d e f 0)=(AU a b c d e f 0)))
abbrev Qd(a:List AC)(b:Nat):=(a.getD b AC.z).a
abbrev Qe(a:List AI)(b:Nat):Array Value:=#[J ((a.getD b AI.z).place),J ((a.getD b AI.z).low),J ((a.getD b AI.z).high),J ((a.getD b AI.z).due),(a.getD b AI.z).pv]
abbrev Qf(a:List AB)(b:Nat):=(a.drop (1)).getD b AB.zero
abbrev Qg(a:List AI)(b:Nat):=(a.getD b AI.z).high
abbrev Qh(a:List ByteArray)(b:List AC)(c:List AI)(d:List AJ):=decide ((((20<(a.length:Int))\/(20<(b.length:Int)))\/(20<(c.length:Int)))\/(20<(d.length:Int)))
abbrev Qi(a:Int)(b:Int)(c:List ByteArray)(d:List AC)(e:List AI)(f:List AJ):=AU a b c d e f 0
abbrev Qj(a:Int)(b:Int):=decide ((¬(0<=a/\a<=9))\/(¬(0<=b/\b<=3)))
abbrev Qk(a:List AC)(b:List AI)(c:List AJ)(d:Nat):Value:=.agg (Af ((AA a b c).getD d AB.zero))
abbrev Ql(a:Int)(b:Int):Value:=.bool (decide (a<=b))
abbrev Qm(a:Int)(b:Int)(c:Int)(d:Int):=decide ((((0<=a)/\(a<=b))/\(b<=c))/\((b-a)<d))
abbrev Qn(a:List ByteArray)(b:List AC)(c:Nat):=J (B0 a.length [(b.getD c AC.z).a,(b.getD c AC.z).b])
abbrev Qo(a:List AB):=a.getD 0 AB.zero
abbrev Qp(a:List AI)(b:List Int):=Ag a.length b
abbrev Qq(a:List Int)(b:Nat):=J (a.getD b 0)
abbrev Qr(a:List ByteArray)(b:Int)(c:Int):=B0 a.length [b,c]
abbrev Qs(a:List AJ)(b:Nat):=(a.getD b AJ.z).high
abbrev Qt(a:List AC)(b:Nat):=(a.getD b AC.z).high
abbrev Qu(a:List AJ)(b:Nat):=(a.getD b AJ.z).low
abbrev Qv(a:List AJ)(b:Nat):Array Value:=#[J ((a.getD b AJ.z).low),J ((a.getD b AJ.z).high)]
abbrev Qw(a:List AI)(b:Int):=FB a.length b
abbrev Qx(a:List AC)(b:Nat):Array Value:=#[J ((a.getD b AC.z).low),J ((a.getD b AC.z).high)]
abbrev Qy(a:List AC)(b:Nat):=(a.getD b AC.z).low
abbrev Qz(a:List AJ)(b:Nat)(c:Nat):=((a.getD b AJ.z).ways).getD c 0
abbrev Q10(a:List AI)(b:Nat):=(a.getD b AI.z).low
abbrev Q11(a:Int)(b:Int):=decide (((0<=a/\a<=b)/\b<=30)/\((b-a)<2))
abbrev Q12(a:List AI)(b:Nat):=(a.getD b AI.z).due
abbrev Q13(a:List AJ)(b:Nat):=(a.getD b AJ.z).wv
abbrev Q14(a:Int)(b:Int)(c:Int):=decide ((a<=b)/\(b<=c))
abbrev FL(a:List AC)(b:List AI)(c:List AJ):=AA a b c
abbrev Q16(a:List AJ)(b:Nat):=CK (a.getD b AJ.z)
abbrev Q17(a:Int)(b:Int)(c:Int)(d:Int):=decide (((a<=b)/\(b<=c))/\(c<=d))
abbrev Q18(a:Nat)(b:Nat)(c:Array Int):=decide (((a:Int)<(b:Int))/\((c[b]!)<(c[((b:Int)-1).toNat]!)))
abbrev Q19(a:List AC)(b:Nat):=DO (a.getD b AC.z)
abbrev Q1a(a:ByteArray):=decide (((a.size:Int)<1)\/(10<(a.size:Int)))
abbrev Q1b(a:List AC)(b:List AC):=decide (¬(a.length:Int)=(b.length:Int))
abbrev Q1c(a:List AI)(b:List AI):=decide (¬(a.length:Int)=(b.length:Int))
abbrev Q1d(a:Int):=decide ((97<=a)/\(a<=122))
abbrev Vy(a:Int)(b:Int)(c:Value)(d:Value)(e:Value)(f:Value):Array Value:=#[.agg #[J a,J b,c,d,e,f]]
abbrev Q1f(a:List AJ)(b:List AJ):=decide (¬(a.length:Int)=(b.length:Int))
abbrev Q1g(a:Int):=decide (¬(0<=a/\a<=3))
abbrev Q1h(a:Nat):Value:=.func (.func 139) #[] #[Pt a]
abbrev Q1i(a:List Int)(b:Nat)(c:List Int):=J (IC (a.getD b 0) (c.getD b 0))
abbrev Q1j(a:List Sl)(b:Nat):=((a.drop (1)).getD b Sl.z).1
abbrev Q1k(a:Int):=decide ((48<=a)/\(a<=57))
abbrev Q1l(a:Nat):Value:=.func (.func 77) #[] #[Pt a]
abbrev Q1m:=Af AB.zero
abbrev Q1n(a:Nat)(b:Nat):Value:=.func (.func 68) #[] #[Pt a,Pt b]
abbrev Q1o(a:List AI)(b:List Int)(c:Nat):=J (FB a.length (b.getD c 0))
end Go.Ns
namespace Go.Ns
open Go.Conc Go.Proofs Go.Proofs.Tryz
theorem EU:If prog 133 133=some (28,1,24):=aB
theorem Vz:If prog 22 22=some (9,1,16):=aB
theorem V0:If prog 23 23=some (78,4,32):=aB
theorem HB:If prog 24 24=some (60,5,56):=aB
theorem KD:If prog 25 25=some (70,3,40):=aB
theorem CR:If prog 28 28=some (3,1,8):=aB
theorem V1:If prog 46 46=some (36,2,16):=aB
theorem V2:If prog 87 87=some (106,9,72):=aB
theorem fx_arr94:arrOf prog 94=some (5,false,1):=aB
theorem Hm:Nh prog 103=some (5,1):=aB
theorem Dk:Nh prog 104=some (4,1):=aB
theorem EV:Nh prog 141=some (4,1):=aB
theorem FE:Nh prog 183=some (4,4):=aB
theorem fx_bt3:L4 prog 3=some 8:=aB
theorem fx_bt4:L4 prog 4=some 1:=aB
theorem AAT:AM Tryz.f10=true:=aB
theorem Fl:AM Tryz.f101=true:=aB
theorem QS:AM Tryz.f102=true:=aB
theorem QT:AM Tryz.f103=true:=aB
theorem QU:AM Tryz.f104=true:=aB
theorem QV:AM Tryz.f105=true:=aB
theorem XQ:AM Tryz.f106=true:=aB
theorem H6:AM Tryz.f107=true:=aB
theorem QW:AM Tryz.f108=true:=aB
theorem LN:AM Tryz.f109=true:=aB
theorem LO:AM Tryz.f110=true:=aB
theorem QX:AM Tryz.f111=true:=aB
theorem XR:AM Tryz.f112=true:=aB
theorem XS:AM Tryz.f113=true:=aB
theorem XT:AM Tryz.f114=true:=aB
theorem QY:AM Tryz.f115=true:=aB
theorem XU:AM Tryz.f116=true:=aB
theorem LP:AM Tryz.f118=true:=aB
theorem XV:AM Tryz.f119=true:=aB
theorem EW:AM Tryz.f12=true:=aB
theorem XW:AM Tryz.f120=true:=aB
theorem XX:AM Tryz.f121=true:=aB
theorem XY:AM Tryz.f127=true:=aB
theorem QZ:AM Tryz.f128=true:=aB
theorem XZ:AM Tryz.f129=true:=aB
theorem S6:AM Tryz.f13=true:=aB
theorem Xa:AM Tryz.f132=true:=aB
theorem Xb:AM Tryz.f133=true:=aB
theorem RA:AM Tryz.f134=true:=aB
theorem Xc:AM Tryz.f135=true:=aB
theorem JT:AM Tryz.f136=true:=aB
theorem RB:AM Tryz.f137=true:=aB
theorem RC:AM Tryz.f138=true:=aB
theorem RD:AM Tryz.f139=true:=aB
theorem S7:AM Tryz.f14=true:=aB
theorem Xd:AM Tryz.f140=true:=aB
theorem RE:AM Tryz.f141=true:=aB
theorem RF:AM Tryz.f142=true:=aB
theorem Xe:AM Tryz.f143=true:=aB
theorem Xf:AM Tryz.f144=true:=aB
theorem Xg:AM Tryz.f145=true:=aB
theorem Xh:AM Tryz.f146=true:=aB
theorem Xi:AM Tryz.f147=true:=aB
theorem Xj:AM Tryz.f148=true:=aB
theorem RG:AM Tryz.f149=true:=aB
theorem RH:AM Tryz.f150=true:=aB
theorem Xk:AM Tryz.f151=true:=aB
theorem Xl:AM Tryz.f152=true:=aB
theorem JU:AM Tryz.f154=true:=aB
theorem RI:AM Tryz.f155=true:=aB
theorem Xm:AM Tryz.f156=true:=aB
theorem Xn:AM Tryz.f157=true:=aB
theorem RJ:AM Tryz.f158=true:=aB
theorem AAU:AM Tryz.f16=true:=aB
theorem Xo:AM Tryz.f164=true:=aB
theorem Xp:AM Tryz.f168=true:=aB
theorem Xq:AM Tryz.f169=true:=aB
theorem LQ:AM Tryz.f170=true:=aB
theorem NG:AM Tryz.f18=true:=aB
theorem AAV:AM Tryz.f19=true:=aB
theorem Xr:AM Tryz.f193=true:=aB
theorem Xs:AM Tryz.f194=true:=aB
theorem Xu:AM Tryz.f195=true:=aB
theorem Xv:AM Tryz.f196=true:=aB
theorem Xw:AM Tryz.f197=true:=aB
theorem Xx:AM Tryz.f198=true:=aB
theorem Xy:AM Tryz.f199=true:=aB
theorem Xz:AM Tryz.f200=true:=aB
theorem X3:AM Tryz.f201=true:=aB
theorem X4:AM Tryz.f202=true:=aB
theorem RK:AM Tryz.f203=true:=aB
theorem X5:AM Tryz.f204=true:=aB
theorem X6:AM Tryz.f205=true:=aB
theorem X7:AM Tryz.f206=true:=aB
theorem X8:AM Tryz.f207=true:=aB
theorem X9:AM Tryz.f208=true:=aB
theorem YA:AM Tryz.f209=true:=aB
theorem AAW:AM Tryz.f21=true:=aB
theorem YB:AM Tryz.f210=true:=aB
theorem NH:AM Tryz.f23=true:=aB
theorem S8:AM Tryz.f25=true:=aB
theorem AAX:AM Tryz.f26=true:=aB
theorem NI:AM Tryz.f28=true:=aB
theorem NJ:AM Tryz.f30=true:=aB
theorem NK:AM Tryz.f32=true:=aB
theorem AAY:AM Tryz.f34=true:=aB
theorem AAZ:AM Tryz.f36=true:=aB
theorem AAa:AM Tryz.f38=true:=aB
theorem S9:AM Tryz.f39=true:=aB
theorem TA:AM Tryz.f40=true:=aB
theorem AAb:AM Tryz.f41=true:=aB
theorem AAc:AM Tryz.f42=true:=aB
theorem Fv:AM Tryz.f43=true:=aB
theorem AAd:AM Tryz.f44=true:=aB
theorem AAe:AM Tryz.f50=true:=aB
theorem AAf:AM Tryz.f52=true:=aB
theorem AAg:AM Tryz.f57=true:=aB
theorem FF:AM Tryz.f58=true:=aB
theorem Ip:AM Tryz.f59=true:=aB
theorem Fw:AM Tryz.f60=true:=aB
theorem Iq:AM Tryz.f61=true:=aB
theorem AAh:AM Tryz.f63=true:=aB
theorem AAi:AM Tryz.f64=true:=aB
theorem AAj:AM Tryz.f65=true:=aB
theorem AAk:AM Tryz.f66=true:=aB
theorem DD:AM Tryz.f67=true:=aB
theorem TB:AM Tryz.f68=true:=aB
theorem NL:AM Tryz.f69=true:=aB
theorem NM:AM Tryz.f70=true:=aB
theorem AAl:AM Tryz.f71=true:=aB
theorem NN:AM Tryz.f74=true:=aB
theorem TC:AM Tryz.f77=true:=aB
theorem TE:AM Tryz.f78=true:=aB
theorem TF:AM Tryz.f79=true:=aB
theorem fx_call8:AM Tryz.f8=true:=aB
theorem AAm:AM Tryz.f80=true:=aB
theorem TG:AM Tryz.f83=true:=aB
theorem TH:AM Tryz.f84=true:=aB
theorem TJ:AM Tryz.f87=true:=aB
theorem Fx:AM Tryz.f89=true:=aB
theorem RL:AM Tryz.f9=true:=aB
theorem NO:AM Tryz.f90=true:=aB
theorem TK:AM Tryz.f93=true:=aB
theorem NP:AM Tryz.f94=true:=aB
theorem EA:AM Tryz.f95=true:=aB
theorem KY:AM Tryz.f97=true:=aB
theorem TL:AM Tryz.f99=true:=aB
theorem TM:prog.eqGuardType prog.depth 103=false:=aB
theorem GL:prog.eqGuardType prog.depth 36=false:=aB
theorem fx_eqg78:prog.eqGuardType prog.depth 78=false:=aB
theorem EB:El prog 133=some 1:=aB
theorem NQ:El prog 175=some 1:=aB
theorem FY:El prog 22=some 1:=aB
theorem AAn:El prog 227=some 1:=aB
theorem EQ:El prog 23=some 4:=aB
theorem ER:El prog 24=some 5:=aB
theorem GM:El prog 25=some 3:=aB
theorem A7:El prog 28=some 1:=aB
theorem V3:El prog 46=some 2:=aB
theorem GN:El prog 87=some 9:=aB
theorem MR:∀a:FA,ckP prog 4 108 (Eu a)=true:=by intros;kernel_rfl
theorem MS:∀a b:FA,O3 prog 4 108 (Eu a) (Eu b)=some ((a.1.1==b.1.1 && (a.1.2.1==b.1.2.1 && (a.1.2.2.1==b.1.2.2.1 && (a.1.2.2.2.1==b.1.2.2.2.1 && (a.1.2.2.2.2==b.1.2.2.2.2 && true))))) && (a.2.1==b.2.1 && (a.2.2==b.2.2 && true))):=by intros;kernel_rfl
theorem Ce:Dm prog 106 0=some 0:=aB
theorem KE:Dm prog 106 1=some 5:=aB
theorem V4:Dm prog 174 0=some 0:=aB
theorem V5:Dm prog 174 1=some 1:=aB
theorem H7:Dm prog 27 0=some 0:=aB
theorem Fm:Dm prog 27 1=some 1:=aB
theorem B2:Dm prog 27 2=some 2:=aB
theorem BT:Dm prog 27 3=some 3:=aB
theorem BB:Dm prog 27 4=some 4:=aB
theorem Bb:Dm prog 27 5=some 5:=aB
theorem Dw:Dm prog 36 0=some 0:=aB
theorem Dx:Dm prog 36 1=some 1:=aB
theorem Gn:Dm prog 60 0=some 0:=aB
theorem H8:Dm prog 60 1=some 1:=aB
theorem Gp:Dm prog 60 2=some 3:=aB
theorem DS:Dm prog 60 3=some 4:=aB
theorem De:Dm prog 70 0=some 0:=aB
theorem Gq:Dm prog 70 1=some 1:=aB
theorem CI:Dm prog 78 0=some 0:=aB
theorem CS:Dm prog 78 1=some 1:=aB
theorem LR:Dm prog 78 2=some 2:=aB
theorem At:Dm prog 89 0=some 0:=aB
theorem Dy:Dm prog 98 0=some 0:=aB
theorem H9:Dm prog 98 1=some 6:=aB
theorem JV:Dm prog 98 2=some 7:=aB
theorem YC:(prog.info? 174).isSome=true:=aB
theorem fx_infs3:(prog.info? 3).isSome=true:=aB
theorem fx_infs4:(prog.info? 4).isSome=true:=aB
theorem YD:(prog.info? 174).map (·.zero)=some (some (.agg #[.int .i64 0,.bool false])):=aB
theorem fx_infz3:(prog.info? 3).map (·.zero)=some (some (.int .i64 0)):=aB
theorem fx_infz4:(prog.info? 4).map (·.zero)=some (some (.bool false)):=aB
theorem RM:Oy prog 167=some .u64:=aB
theorem GO:Oy prog 3=some .i64:=aB
theorem HC:Oy prog 5=some .u8:=aB
theorem NR:Lj prog 156=some (3,3):=aB
theorem MT:Lj prog 96=some (108,3):=aB
theorem NS:∀a:Int,ckP prog 3 3 (Df a)=true:=by intros;kernel_rfl
theorem NT:∀a b:Int,O3 prog 3 3 (Df a) (Df b)=some (a==b):=by intros;kernel_rfl
theorem A1:prog.follows .mixedOrders=true:=aB
theorem V6:(prog.info? 3).bind (·.zero)=some (.int .i64 0):=aB
theorem UR:(prog.info? 3).bind (·.zero)=some (.int .i64 0):=aB
theorem MU:Em prog 108=some [(0,5),(5,1),(6,1)]:=aB
theorem fx_pl174:Em prog 174=some [(0,1),(1,1)]:=aB
theorem US:Em prog 27=some [(0,1),(1,1),(2,1),(3,1),(4,1),(5,1)]:=aB
theorem JW:Em prog 36=some [(0,1),(1,1)]:=aB
theorem UT:Em prog 60=some [(0,1),(1,2),(3,1),(4,1)]:=aB
theorem UU:Em prog 70=some [(0,1),(1,2)]:=aB
theorem UV:Em prog 78=some [(0,1),(1,1),(2,2)]:=aB
theorem IJ:Em prog 89=some [(0,6)]:=aB
theorem IK:Em prog 98=some [(0,6),(6,1),(7,1)]:=aB
theorem V7:s2bOf prog 9 227=some 5:=aB
theorem Hn:DN prog 133=some (1,#[.slice none 0 0],28):=aB
theorem AAo:DN prog 175=some (1,#[.bool false],4):=aB
theorem V8:DN prog 22=some (1,#[.string ⟨#[]⟩],9):=aB
theorem V9:DN prog 23=some (4,#[.int .i64 0,.int .i64 0,.int .i64 0,.int .i64 0],78):=aB
theorem Ir:DN prog 24=some (5,#[.int .i64 0,.int .i64 0,.int .i64 0,.int .i64 0,.slice none 0 0],60):=aB
theorem MV:DN prog 25=some (3,#[.slice none 0 0,.int .i64 0,.int .i64 0],70):=aB
theorem BN:DN prog 28=some (1,#[.int .i64 0],3):=aB
theorem WA:DN prog 46=some (2,#[.int .i64 0,.int .i64 0],36):=aB
theorem fx_sel87:DN prog 87=some (9,#[.int .i64 0,.int .i64 0,.int .i64 0,.int .i64 0,.int .i64 0,.int .i64 0,.int .i64 0,.int .i64 0,.int .i64 0],106):=aB
theorem FZ:Ka prog 133=true:=aB
theorem fx_sl175:Ka prog 175=true:=aB
theorem C8:Ka prog 22=true:=aB
theorem fx_sl227:Ka prog 227=true:=aB
theorem DY:Ka prog 23=true:=aB
theorem D3:Ka prog 24=true:=aB
theorem EJ:Ka prog 25=true:=aB
theorem A9:Ka prog 28=true:=aB
theorem UW:Ka prog 46=true:=aB
theorem GP:Ka prog 87=true:=aB
theorem EK:Ox prog 9=true:=aB
theorem HD:CY prog 103=some (true,5):=aB
theorem CT:CY prog 106=some (true,9):=aB
theorem MW:CY prog 123=some (false,1):=aB
theorem GQ:CY prog 133=some (false,1):=aB
theorem MX:CY prog 170=some (false,1):=aB
theorem MY:CY prog 171=some (false,1):=aB
theorem RN:CY prog 172=some (false,1):=aB
theorem fx_ty174:CY prog 174=some (true,2):=aB
theorem fx_ty179:CY prog 179=some (false,1):=aB
theorem KF:CY prog 180=some (false,1):=aB
theorem DJ:CY prog 22=some (false,1):=aB
theorem CX:CY prog 23=some (false,1):=aB
theorem CA:CY prog 24=some (false,1):=aB
theorem Ck:CY prog 25=some (false,1):=aB
theorem AY:CY prog 27=some (true,6):=aB
theorem BP:CY prog 28=some (false,1):=aB
theorem AS:CY prog 3=some (false,1):=aB
theorem Av:CY prog 36=some (true,2):=aB
theorem Gr:CY prog 4=some (false,1):=aB
theorem fx_ty5:CY prog 5=some (false,1):=aB
theorem EL:CY prog 60=some (true,5):=aB
theorem Eh:CY prog 70=some (true,3):=aB
theorem FG:CY prog 78=some (true,4):=aB
theorem IL:CY prog 87=some (false,1):=aB
theorem CN:CY prog 89=some (true,6):=aB
theorem KG:CY prog 9=some (false,1):=aB
theorem fx_ty94:CY prog 94=some (true,5):=aB
theorem Ok:CY prog 96=some (false,1):=aB
theorem Aw:CY prog 98=some (true,8):=aB
theorem Fy:(prog.underlying 196).isSome=true:=aB
theorem ZI:(prog.underlying 3).isSome=true:=aB
theorem IM:(prog.underlying 5).isSome=true:=aB
theorem fx_und61:(prog.underlying 61).isSome=true:=aB
theorem KH:prog.underlying 170=some (.chan .both 174):=aB
theorem KI:prog.underlying 171=some (.chan .both 3):=aB
theorem KJ:prog.underlying 172=some (.chan .both 4):=aB
theorem Fo:Bt prog 106=some #[.int .i64 0,.int .i64 0,.int .i64 0,.int .i64 0,.int .i64 0,.int .i64 0,.int .i64 0,.int .i64 0,.int .i64 0]:=aB
theorem JX:Bt prog 108=some #[.int .i64 0,.int .i64 0,.int .i64 0,.int .i64 0,.int .i64 0,.int .i64 0,.int .i64 0]:=aB
theorem YE:Bt prog 123=some #[.nilFunc]:=aB
theorem RO:Bt prog 133=some #[.slice none 0 0]:=aB
theorem RP:Bt prog 141=some #[.bool false,.bool false,.bool false,.bool false]:=aB
theorem YF:Bt prog 170=some #[.chan none]:=aB
theorem YG:Bt prog 171=some #[.chan none]:=aB
theorem YH:Bt prog 172=some #[.chan none]:=aB
theorem RQ:Bt prog 174=some #[.int .i64 0,.bool false]:=aB
theorem YI:Bt prog 180=some #[.nilFunc]:=aB
theorem YJ:Bt prog 183=some #[.int .i64 0,.int .i64 0,.int .i64 0,.int .i64 0,.int .i64 0,.int .i64 0,.int .i64 0,.int .i64 0,.int .i64 0,.int .i64 0,.int .i64 0,.int .i64 0,.int .i64 0,.int .i64 0,.int .i64 0,.int .i64 0]:=aB
theorem DE:Bt prog 27=some #[.int .i64 0,.int .i64 0,.slice none 0 0,.slice none 0 0,.slice none 0 0,.slice none 0 0]:=aB
theorem fx_zero28:Bt prog 28=some #[.slice none 0 0]:=aB
theorem fx_zero3:Bt prog 3=some #[.int .i64 0]:=aB
theorem Bg:Bt prog 36=some #[.int .i64 0,.int .i64 0]:=aB
theorem fx_zero4:Bt prog 4=some #[.bool false]:=aB
theorem Gt:Bt prog 60=some #[.int .i64 0,.int .i64 0,.int .i64 0,.int .i64 0,.slice none 0 0]:=aB
theorem F0:Bt prog 70=some #[.slice none 0 0,.int .i64 0,.int .i64 0]:=aB
theorem F1:Bt prog 78=some #[.int .i64 0,.int .i64 0,.int .i64 0,.int .i64 0]:=aB
theorem AAp:Bt prog 87=some #[.slice none 0 0]:=aB
theorem Dl:Bt prog 89=some #[.int .i64 0,.int .i64 0,.slice none 0 0,.slice none 0 0,.slice none 0 0,.slice none 0 0]:=aB
theorem fx_zero9:Bt prog 9=some #[.string ⟨#[]⟩]:=aB
theorem BD:Bt prog 98=some #[.int .i64 0,.int .i64 0,.slice none 0 0,.slice none 0 0,.slice none 0 0,.slice none 0 0,.slice none 0 0,.map none]:=aB
end Go.Ns
namespace Go.Ns
open Go.Conc Go.Proofs Go.Proofs.Tryz
attribute [local irreducible] BR DK Tr AT Br BV
variable {W:Wk prog} {h:GH} {bag kinds:Int} {ps:List ByteArray} {psv:Value} {ws:List AC} {wsv:Value} {js:List AI} {jsv:Value} {ns:List AJ} {nsv:Value}
theorem Ic(a:List Int)(av:Value)(b:List Int)(bv:Value)(ha:AK h av 1 eI a)(hb:AK h bv 1 eI b):AT W 18 #[av,bv] h (λv h'=>v=(.bool (decide (a=b)):Value)/\h.Le h'):=by
 have ad:=ha.len;have ae:=hb.len;refine Ct func18 Z (Sr (Az (.bool false) Z (Nl (S2 (Mz av Z (Pl Z (AL A9 ha Z (Mz bv Z (Pl Z (AL A9 hb Z (Pl Z (Ao Z Z (Nl (AV Z (λar=>?_) (λar=>?_)))))))))))))))
 ·exact Sr (Az (.bool false) Z (Nl (Rt (⟨Zr,Ot (.bool false) Z (⟨(by (rw [decide_eq_false (ne_len aA)];done)),Lr⟩)⟩))))
 ·refine Sk (S2 (Az (J 0) Z (Nl (Bk (Ah (λnn σ' ds' h'=>∃(k:Nat),nn=a.length-k/\(k<=a.length)/\(a.take k=b.take k)/\ds'=[]/\GH.Le h h'/\σ' 0=av/\σ' 1=bv/\σ' 5=J k) ⟨0,Z,aA,(by rfl),Z,Lr,Z,Z,Z⟩ (λnn _ _ _ au=>?_))))));obtain ⟨k,rfl,hk,hs,x8,x9,af,aq,ac⟩:=au;subst x8;refine S2 (Mv (J k) Z ac (Mv av Z af (Pl Z (AL A9 (ha.le x9) Z (Pl Z (Ak Z Z (Nl (AV Z (λag=>?_) (λag=>?_)))))))))
  ·refine Sk (Sq (Bk (Sq (Cm 8 false [1,6,10,16,21,26,30,36] A1 aB (Rz Z (Mo av af vz) (Rz Z (Mo (J k) ac vz) ?_))))));have ah:(0:Int)<=(k:Int):=aA
   have ai:(k:Int)<((a.length:Nat):Int):=aA
   refine tI Z Z A7 ha Z Z ah ai λaw aa aj=>have ak:AX _ aw aa 1 (eI (a.getD k 0)):=AX.getD 0 aj;Rl (Qq a k) Z (BE AS (ak.le x9) Z) (Rz Z (Mo bv aq vz) (Rz Z (Mo (J k) ac vz) ?_));have al:(0:Int)<=(k:Int):=aA
   have am:(k:Int)<((b.length:Nat):Int):=aA
   refine tI Z Z A7 hb Z Z al am λax ab an=>have ao:AX _ ax ab 1 (eI (b.getD k 0)):=AX.getD 0 an;Rl (Qq b k) Z (BE AS (ao.le x9) Z) (tN (Pl Z (Ao Z Z (Nl (AV Z (λap=>?_) (λap=>?_))))))
   ·exact Sr (Az (.bool false) Z (Nl (Rt (⟨Zr,Ot (.bool false) Z (⟨(by (rw [decide_eq_false (ne_getD (k:=k) (d:=0) ‹_›)])),x9⟩)⟩))))
   ·exact Sk (Rg (Mv (J k) Z ac (Yd Z aA (Az (J ((k:Int)+1)) Z (Nl (⟨_,aA,k+1,Z,aA,(by exact PG 0 hs aA aA aE),Z,x9,af,aq,Z⟩))))))
  ·exact Xt (Sr (Az (.bool true) Z (Nl (Rt (⟨Zr,Ot (.bool true) Z (⟨(by (rw [decide_eq_true (Tm hs hk ‹_› aA)];done)),x9⟩)⟩)))))
theorem RR(a:List Int)(av:Value)(n:Int)(ha:AK h av 1 eI a):AT W 109 #[av,J n] h (λv h'=>v=(.bool (decide (n ∈ a)):Value)/\h.Le h'):=by
 have ab:=ha.len;refine Ct func109 Z (Sr (Az (.bool false) Z (Nl (S2 (Az (J 0) Z (Nl (Bk (Ah (λnn σ' ds' h'=>∃(k:Nat),nn=a.length-k/\(k<=a.length)/\(¬n ∈ a.take k)/\ds'=[]/\GH.Le h h'/\σ' 0=av/\σ' 1=J n/\σ' 5=J k) ⟨0,Z,aA,aD,Z,Lr,Z,Z,Z⟩ (λnn _ _ _ aj=>?_)))))))));obtain ⟨k,rfl,hk,hs,x6,x7,x8,x9,ac⟩:=aj;subst x6;refine S2 (Mv (J k) Z ac (Mv av Z x8 (Pl Z (AL A9 (ha.le x7) Z (Pl Z (Ak Z Z (Nl (AV Z (λad=>?_) (λad=>?_)))))))))
 ·refine Sk (Sq (Bk (Sr (Mv av Z x8 (Mv (J k) Z ac ?_)))));have ae:(0:Int)<=(k:Int):=aA
  have af:(k:Int)<((a.length:Nat):Int):=aA
  refine Pl Z (Aa A7 ha Z Z ae af λak aa ag=>have ah:AX _ ak aa 1 (eI (a.getD k 0)):=AX.getD 0 ag;Lz (Qq a k) Z (BE AS (ah.le x7) Z) (Mv (J n) Z x9 (Pl Z (Ch Z Z (Nl (AV Z (λai=>?_) (λai=>?_)))))))
  ·exact Sr (Az (.bool true) Z (Nl (Rt (⟨Zr,Ot (.bool true) Z (⟨(by (rw [decide_eq_true (has_hit (k:=k) ‹_› ‹_›)];done)),x7⟩)⟩))))
  ·exact Sk (Rg (Mv (J k) Z ac (Yd Z aA (Az (J ((k:Int)+1)) Z (Nl (⟨_,aA,k+1,Z,aA,(by exact has_next ‹_› hs ‹_›),Z,x7,x8,x9,Z⟩))))))
 ·exact Xt (Sr (Az (.bool false) Z (Nl (Rt (⟨Zr,Ot (.bool false) Z (⟨(by (rw [decide_eq_false (has_end (k:=k) ‹_› hs)])),x7⟩)⟩)))))
theorem IN(n:Int)(lo:Int)(hi:Int):AT W 43 #[J n,J lo,J hi] h (λv h'=>v=(.bool (decide (lo<=n/\n<=hi)):Value)/\h=h'):=by
 refine Ct func43 Z (Sr (Az (.bool false) Z (Nl (BQ (λσ' ds' h'=>ds'=[]/\h=h'/\σ' 6=.bool (Q14 lo n hi)) ?_ ?_))))
 ·refine Rg (Mz (J n) Z (Mz (J lo) Z (Pl Z (DV Z Z (Mz (Ql lo n) Z (Aq (p:=lo<=n) ?_ ?_))))))
  ·intro aa;exact Gg 3 10 (AH Z aa) Z (Mo (J n) Z (Gg 3 10 (AH Z aa) Z (Mo (J hi) Z (Gg 3 10 (AH Z aa) Z (Ek Z Z (Pk true (Ql n hi) Z (AH Z aa) Z (Az (Ql n hi) Z (Nl (⟨Z,Z,Et (b:=(.bool (decide (n<=hi)):Value)) Z (congrArg Value.bool (by (simp [aa];done):decide (n<=hi)=(Q14 lo n hi)))⟩)))))))))
  ·intro aa;exact Gs 3 10 (AD Z aa) Z (Gs 3 10 (AD Z aa) Z (Gs 3 10 (AD Z aa) Z (Pk false (.bool false) Z (AD Z aa) Z (Az (.bool false) Z (Nl (⟨Z,Z,Et (b:=(.bool false:Value)) Z (congrArg Value.bool (by (simp [aa];done):false=(Q14 lo n hi)))⟩))))))
 ·rintro _ _ _ ⟨ac,ab,ad⟩;subst ac;subst ab;exact Rt (⟨Zr,Ie Z (v:=.bool (Q14 lo n hi)) ad (⟨(by rfl),Z⟩)⟩)
theorem OJ(xl:Int)(xh:Int)(lo:Int)(hi:Int):AT W 128 #[.agg #[J xl,J xh],J lo,J hi] h (λv h'=>v=(.bool (decide ((lo<=xl/\xl<=xh)/\xh<=hi)):Value)/\h.Le h'):=by
 refine Ct func128 Z (Sr (Pl Z (Bo #[J xl,J xh] Z Z λ_ h2 _ ae ad _=>Az (.bool false) Z (Nl (BQ (λσ' ds' h'=>ds'=[]/\h2=h'/\σ' 6=.bool (Q17 lo xl xh hi)) ?_ ?_)))))
 ·refine Rg (Fz Dw Z (Lz (J xl) Z (Rd.one AS ad Z) (Mz (J lo) Z (Pl Z (DV Z Z (Mz (Ql lo xl) Z (Aq (p:=lo<=xl) ?_ ?_)))))))
  ·intro aa;refine Gg 4 11 (AH Z aa) Z (AF Dx Z (Gg 4 11 (AH Z aa) Z (Lo (J xh) Z (Rd.one AS ad Z) (Gg 4 11 (AH Z aa) Z (AF Dw Z (Gg 4 11 (AH Z aa) Z (Lo (J xl) Z (Rd.one AS ad Z) (Gg 4 11 (AH Z aa) Z (DV Z Z (Pk true (Ql xl xh) Z (AH Z aa) Z (Mz (Ql xl xh) Z (Aq (p:=xl<=xh) ?_ ?_))))))))))))
   ·intro ab;exact Gg 11 18 (AH Z ab) Z (AF Dx Z (Gg 11 18 (AH Z ab) Z (Lo (J xh) Z (Rd.one AS ad Z) (Gg 11 18 (AH Z ab) Z (Mo (J hi) Z (Gg 11 18 (AH Z ab) Z (Ek Z Z (Pk true (Ql xh hi) Z (AH Z ab) Z (Az (Ql xh hi) Z (Nl (⟨Z,Z,Et (b:=(.bool (decide (xh<=hi)):Value)) Z (congrArg Value.bool (by (simp [aa,ab];done):decide (xh<=hi)=(Q17 lo xl xh hi)))⟩)))))))))))
   ·intro ab;exact Gs 11 18 (AD Z ab) Z (Gs 11 18 (AD Z ab) Z (Gs 11 18 (AD Z ab) Z (Gs 11 18 (AD Z ab) Z (Pk false (.bool false) Z (AD Z ab) Z (Az (.bool false) Z (Nl (⟨Z,Z,Et (b:=(.bool false:Value)) Z (congrArg Value.bool (by (simp [aa,ab];done):false=(Q17 lo xl xh hi)))⟩)))))))
  ·intro aa;exact Gs 4 11 (AD Z aa) Z (Gs 4 11 (AD Z aa) Z (Gs 4 11 (AD Z aa) Z (Gs 4 11 (AD Z aa) Z (Gs 4 11 (AD Z aa) Z (Pk false (.bool false) Z (AD Z aa) Z (Mz (.bool false) Z (Gs 11 18 Z Z (Gs 11 18 Z Z (Gs 11 18 Z Z (Gs 11 18 Z Z (Pz false (.bool false) Z (Az (.bool false) Z (Nl (⟨Z,Z,Et (b:=(.bool false:Value)) Z (congrArg Value.bool (by (simp [aa];done):false=(Q17 lo xl xh hi)))⟩))))))))))))))
 ·rintro _ _ _ ⟨af,ac,ag⟩;subst af;subst ac;exact Rt (⟨Zr,Ie Z (v:=.bool (Q17 lo xl xh hi)) ag (⟨(by rfl),ae⟩)⟩)
theorem WB(c:Int):AT W 156 #[.int .u8 c] h (λv h'=>v=(.bool (decide (Eo c)):Value)/\h=h'):=by
 refine Ct func156 Z (Sr (Az (.bool false) Z (Nl (BQ (λσ' ds' h'=>ds'=[]/\h=h'/\σ' 2=.bool (Q1d c)) ?_ ?_))))
 ·refine Rg (Mz (.int .u8 c) Z (Pl Z (DV Z Z (Mz (.bool (decide (97<=c))) Z (Aq (p:=97<=c) ?_ ?_)))))
  ·intro aa;exact Gg 2 5 (AH Z aa) Z (Mo (.int .u8 c) Z (Gg 2 5 (AH Z aa) Z (Ek Z Z (Pk true (.bool (decide (c<=122))) Z (AH Z aa) Z (Az (.bool (decide (c<=122))) Z (Nl (⟨Z,Z,Et (b:=(.bool (decide (c<=122)):Value)) Z (congrArg Value.bool (by (simp [aa];done):decide (c<=122)=(Q1d c)))⟩)))))))
  ·intro aa;exact Gs 2 5 (AD Z aa) Z (Gs 2 5 (AD Z aa) Z (Pk false (.bool false) Z (AD Z aa) Z (Az (.bool false) Z (Nl (⟨Z,Z,Et (b:=(.bool false:Value)) Z (congrArg Value.bool (by (simp [aa];done):false=(Q1d c)))⟩)))))
 ·rintro _ _ _ ⟨ac,ab,ad⟩;subst ac;subst ab;exact Rt (⟨Zr,Ie Z (v:=.bool (Q1d c)) ad (⟨(by rfl),Z⟩)⟩)
theorem YK(c:Int):AT W 157 #[.int .u8 c] h (λv h'=>v=(.bool (decide (E6 c)):Value)/\h=h'):=by
 refine Ct func157 Z (Sr (Az (.bool false) Z (Nl (BQ (λσ' ds' h'=>ds'=[]/\h=h'/\σ' 2=.bool (Q1k c)) ?_ ?_))))
 ·refine Rg (Mz (.int .u8 c) Z (Pl Z (DV Z Z (Mz (.bool (decide (48<=c))) Z (Aq (p:=48<=c) ?_ ?_)))))
  ·intro aa;exact Gg 2 5 (AH Z aa) Z (Mo (.int .u8 c) Z (Gg 2 5 (AH Z aa) Z (Ek Z Z (Pk true (.bool (decide (c<=57))) Z (AH Z aa) Z (Az (.bool (decide (c<=57))) Z (Nl (⟨Z,Z,Et (b:=(.bool (decide (c<=57)):Value)) Z (congrArg Value.bool (by (simp [aa];done):decide (c<=57)=(Q1k c)))⟩)))))))
  ·intro aa;exact Gs 2 5 (AD Z aa) Z (Gs 2 5 (AD Z aa) Z (Pk false (.bool false) Z (AD Z aa) Z (Az (.bool false) Z (Nl (⟨Z,Z,Et (b:=(.bool false:Value)) Z (congrArg Value.bool (by (simp [aa];done):false=(Q1k c)))⟩)))))
 ·rintro _ _ _ ⟨ac,ab,ad⟩;subst ac;subst ab;exact Rt (⟨Zr,Ie Z (v:=.bool (Q1k c)) ad (⟨(by rfl),Z⟩)⟩)
theorem Rr(xs:List Int)(xsv:Value)(fv:Value)(p:Int->Bool)(hxs:AK h xsv 1 eI xs)(hf:∀x ∈ xs,∀h1,h.Le h1->Br W fv #[J x] h1 λv h2=>v=.bool (p x)/\h1.Le h2):AT W 209 #[xsv,fv] h (λv h'=>v=(J (idxOf p xs):Value)/\h.Le h'):=by
 have ac:=hxs.len;refine Ct func209 Z (Sr (Az (J 0) Z (Nl (S2 (Mz xsv Z (Pl Z (AL A9 hxs Z (Mz (J 0) Z (Nl (Bk (Ah (λnn σ' ds' h'=>∃(k:Nat),nn=xs.length-k/\(k<=xs.length)/\((xs.take k).any p=false)/\ds'=[]/\GH.Le h h'/\σ' 0=xsv/\σ' 1=fv/\σ' 7=J (xs.length:Int)/\σ' 8=J k) ⟨0,Z,aA,aD,Z,Lr,Z,Z,Z,Z⟩ (λnn _ _ _ am=>?_))))))))))));obtain ⟨k,rfl,hk,hs,x6,x7,x8,x9,al,ad⟩:=am;subst x6;refine Sr (Pl Z (Ak ad al (Nl (Sq (AV Z (λae=>?_) (λae=>?_))))))
 ·refine Sk (Sq (Bk (Sr (Mv (J k) Z ad (Az (J k) Z (Nl (Sr (Mv fv Z x9 (Mv xsv Z x8 (Mz (J k) Z ?_))))))))));have af:(0:Int)<=(k:Int):=aA
  have ag:(k:Int)<((xs.length:Nat):Int):=aA
  refine Pl Z (Aa A7 hxs Z Z af ag λan ab ah=>have ai:AX _ an ab 1 (eI (xs.getD k 0)):=AX.getD 0 ah;Lz (Qq xs k) Z (BE AS (ai.le x7) Z) (Pl Z (K0 Z (vs:=#[J (xs.getD k 0)]) (by simp only [List.map_toArray,List.map_cons,List.map_nil,AN] <;> rfl) ((hf (xs.getD k 0) (BX aA) _ x7).mono λ_ _ aj=>?_))));obtain ⟨rfl,aa⟩:=aj;refine Nl (Cb Z (λak=>?_) (λak=>?_))
  ·exact Sr (Mz (J k) Z (Az (J k) Z (Nl (Rt (⟨Zr,Ot (J k) Z (⟨(by (rw [Hi (k:=k) aA hs ‹_›];done)),(x7.trans aa)⟩)⟩)))))
  ·exact Sk (Rg (Ad _ _ Z ad Z aA (Mz (J ((k:Int)+1)) Z (Nl (⟨_,aA,k+1,Z,aA,(by exact EO (d:=0) aA hs ‹_›),Z,(x7.trans aa),x8,x9,al,Z⟩)))))
 ·exact Xt (Sr (Az (J (-1)) Z (Nl (Rt (⟨Zr,Ot (J (-1)) Z (⟨(by (rw [Gi (k:=k) aA hs])),x7⟩)⟩)))))
theorem Is(xs:List Int)(xsv:Value)(fv:Value)(p:Int->Bool)(hxs:AK h xsv 1 eI xs)(hf:∀x ∈ xs,∀h1,h.Le h1->Br W fv #[J x] h1 λv h2=>v=.bool (p x)/\h1.Le h2):AT W 203 #[xsv,fv] h (λv h'=>v=(.bool (xs.any p):Value)/\h.Le h'):=by
 have aa:=hxs.len;refine Ct func203 Z (Sr (Az (.bool false) Z (Nl (Sr (Mz xsv Z (Mz fv Z (Pl Z (AP func209 YA Z Z ((Rr xs xsv fv p hxs (λx hx h1 l1=>hf x hx h1 (GH.Le.trans Lr l1))).mono λ_ _ ac=>?_)))))))));obtain ⟨rfl,ab⟩:=ac;exact Pl Z (DV Z Z (Az (.bool (decide (0<=(idxOf p xs)))) Z (Nl (Rt (⟨Zr,Ot (.bool (decide (0<=(idxOf p xs)))) Z (⟨(by rw [show decide (0<=idxOf p xs)=xs.any p from by rw [Bool.eq_iff_iff];simp [E7]]),ab⟩)⟩)))))
end Go.Ns
