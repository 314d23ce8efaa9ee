/- Rules and walks, part 3 of 6. No conditions. -/
import Derived.Carry
import Derived.Conc.LeavingOf
import Derived.LaidMore
import Derived.OpenShut
import Derived.Test.YtbikoccgloongaaGreatDoorPQB
import Derived.Test.YtbikoccgloongaaGreatDoorProg
set_option linter.unusedVariables false
set_option linter.unusedSimpArgs false
set_option linter.unnecessarySimpa false
set_option linter.unusedSectionVars false
set_option linter.constructorNameAsVariable false
namespace Go.Ns
open Go.Conc
section
variable {P:Program} {E:Gb P} {O:Nat->aZ} {ds:List Deferred} {h:Y} {T:(Nat->aZ)->List Deferred->Y->Prop}
variable {dst:Option Nat} {ty:bA} {pos:String} {af:Array Edge} {gd:Option (Nat×Bool)}
def MW(P:Program)(e:bA):Option Nat:=(P.info? e).map (·.bytes)
theorem UZ(z:aZ)(n:Nat):(Array.range n).map (λi=>(#[z]:Array aZ)[i%(#[z]:Array aZ).size]!)=Array.replicate n z:=by
 apply Array.ext
 ·simp
 ·intro i a b;simp [Nat.mod_one]
theorem MX{t:bA}{l c:Operand}{N by_:Nat}{z:aZ}{e:bA}(hs:DZ P t=some (1,#[z],e))(hby:MW P e=some by_)(hl:AN O l=.int .i64 N)(hc:AN O c=.int .i64 N)(hb:by_*N<=281474976710656)(hN2:N<=16777216)
  (k:∀r h',h r=none->h.Le h'->h' r=some (true,.cells (Array.replicate N z) e (0,0))->(∀b,b≠r->h' b=h b)->T (putS O dst (.slice (some ⟨r,0,none⟩) N N)) ds h'):BR E ⟨dst,.makeSlice t l c,ty,pos,af,gd⟩ O ds h T:=by
 unfold BR execOp;refine Fg ?_;unfold DZ at hs;unfold Instr.makeSlice;rw [hl,hc];cases o:P.underlying t with
 | none=>rw [o] at hs;cases hs
 | some d=>
  rw [o] at hs;cases d <;> first | (cases hs;done) | skip
  rename_i p
  simp only at hs;cases j:B0 P p with
  | none=>rw [j] at hs;cases hs
  | some x=>
   cases a:BZ P p with
   | none=>rw [j,a] at hs;cases hs
   | some C=>
    rw [j,a] at hs;simp only [Option.some.injEq,Prod.mk.injEq] at hs;obtain ⟨s,rfl,rfl⟩:=hs;refine AE _ _ (Ai o ?_);refine AE _ _ (Ak ?_);refine AE _ _ (Ak ?_);unfold MW at hby;unfold BZ at a;cases n:P.info? p with
    | none=>rw [n] at a;cases a
    | some i=>
    rw [n] at a hby;simp only [Option.map_some,Option.some.injEq] at hby;simp only [Option.map_eq_some_iff] at a;obtain ⟨v,y,u⟩:=a;refine AE _ _ (CU n ?_);have A:IntKind.i64.wrap (N:Int)=N:=IntWalk.i64_in _ U;simp only [A,hby];have B:((by_:Int)*(N:Int))<=281474976710656:=by rw [<-Int.natCast_mul];exact Int.ofNat_le.2 hb
    rw [aX (by simp;omega)];simp only [Int.toNat_natCast];have f:∀(m:Nat)(Q:Unit->Y->Prop),Q () h->(askRoom m).gh P h Q:=λm Q q=>by
     unfold askRoom;split
     ·exact ⟨rfl,q⟩
     ·exact q
    refine AE _ _ (f _ _ ?_);refine AE _ _ (Fy (by rw [j];rfl) ?_);dsimp only;rw [s,Nat.mul_one];by_cases w:N=0
    ·subst w;rw [aY rfl];refine AE _ _ (Ak ?_);rw [show (Array.range 0).map (λi=>(#[]:Array aZ)[i%(#[]:Array aZ).size]!)=Array.replicate 0 z from aD];refine AE _ _ ?_;unfold newRow;refine AE _ _ (λr g=>?_);exact k r _ g (Y.Le.new g _ _) (Y.set_same _ _ _ _) λb hb=>Y.set_ne _ _ _ hb
    rw [aX w];unfold zeroValue;refine AE _ _ (AE _ _ (AE _ _ (CU n ?_)));rw [y];refine Ak ?_;refine AE _ _ (Ak ?_);rw [u,UZ];refine AE _ _ ?_;unfold newRow;refine AE _ _ (λr g=>?_);exact k r _ g (Y.Le.new g _ _) (Y.set_same _ _ _ _) λb hb=>Y.set_ne _ _ _ hb
theorem KH{aQ:Type}{enc:aQ->Array aZ}{x:aQ}{z:aZ}(he:enc x=#[z]):∀N:Nat,DR enc (List.replicate N x)=List.replicate N z
 | 0=>rfl
 | N+1=>by
  have:=KH he N
  unfold DR at this ⊢;rw [List.replicate_succ,List.flatMap_cons,this,he];rfl
theorem AO.made{aQ:Type}{h h':Y}{r N:Nat}{t:bA}{enc:aQ->Array aZ}{x:aQ}{z:aZ}(hr:h r=none)(hb:h' r=some (true,.cells (Array.replicate N z) t (0,0)))(hN:N<=16777216)(he:enc x=#[z]) :
  AO h h' (.slice (some ⟨r,0,none⟩) N N) t 1 enc (List.replicate N x):=
 .inr ⟨r,N,_,by rw [List.length_replicate],hr,hb,aD,aD,by rw [List.length_replicate];omega,by rw [KH he,List.length_replicate,Nat.mul_one];simp,λy a=>by rw [(List.mem_replicate.1 a).2,he];rfl⟩
end
def Ci(nj:Nat)(k:Int):Int:=if¬(0<=k/\k<=(nj:Int)-1) then 6 else 0
def Ho(nj:Nat)(l:List Int)(k:Nat):Int:=if¬Ci nj (l.getD k 0)=0 then Ci nj (l.getD k 0) else if (l.take k).any (λx=>decide (l.getD k 0=x))=true then 5 else 0
def Af(nj:Nat)(l:List Int):Int:=Cv (Ho nj l) 0 l.length
def GV(aS aR:Int)(ps:List bB)(ws:List AF)(js:List AM)(ns:List AL)(l:List Int):Int:=
 if¬BW aS aR ps ws js ns=0 then BW aS aR ps ws js ns else Af js.length l
theorem ON{nj:Nat}{k:Int}(h:Ci nj k=0):0<=k/\k<nj:=by
 unfold Ci at h;split at h
 ·cases h
 ·omega
theorem FQ{nj:Nat}{l:List Int}(h:Af nj l=0)(k:Nat)(hk:k<l.length):0<=l.getD k 0/\l.getD k 0<nj:=by
 have b:=DX h k (Nat.zero_le _) U;unfold Ho at b;split at b
 ·rename_i a;exact absurd b a
 ·rename_i a;exact ON (Decidable.not_not.1 a)
def Gq(out ps:List Int):Nat->List Int
 | 0=>out
 | i+1=>(Gq out ps i).set i ((Gq out ps i).getD i 0+ps.getD i 0)
def Ch(aR:Int)(js:List AM)(l:List Int):Nat->List Int
 | 0=>List.replicate aR.toNat 0
 | q+1=>Gq (Ch aR js l q) (js.getD (l.getD q 0).toNat AM.z).parts (js.getD (l.getD q 0).toNat AM.z).parts.length
def DN(aR:Int)(js:List AM)(l:List Int):List Int:=Ch aR js l l.length
theorem MY(out ps:List Int):∀i,(Gq out ps i).length=out.length
 | 0=>rfl
 | i+1=>by rw [Gq,List.length_set,MY out ps i]
theorem QI(out ps:List Int)(hl:ps.length=out.length):∀i,i<=ps.length->∀j,(Gq out ps i).getD j 0=if j<i then out.getD j 0+ps.getD j 0 else out.getD j 0
 | 0,_,j=>by rw [aX U];rfl
 | i+1,h,j=>by
  have e:=QI out ps hl i U;have c:=MY out ps i;unfold Gq;rw [List.getD_eq_getElem?_getD,List.getElem?_set];by_cases a:i=j
  ·subst a;rw [aY rfl,aY U,aY U,Option.getD_some,e i,aX U]
  ·rw [aX a,<-List.getD_eq_getElem?_getD,e j];by_cases b:j<i
   ·rw [aY b,aY U]
   ·rw [aX b,aX U]
section
variable {aS aR:Int} {ps:List bB} {ws:List AF} {js:List AM} {ns:List AL} {l:List Int}
theorem Lm(b:BL aS aR ps ws js ns){k:Int}(h:0<=k/\k<js.length):JobOK ps.length aR (js.getD k.toNat AM.z):=QB (b.job k.toNat U)
theorem JT(b:BL aS aR ps ws js ns):∀q,(Ch aR js l q).length=aR.toNat
 | 0=>List.length_replicate
 | q+1=>by rw [Ch,MY,JT b q]
theorem Lp(b:BL aS aR ps ws js ns)(hr:∀k,k<l.length->0<=l.getD k 0/\l.getD k 0<js.length):∀q,q<=l.length->∀j,0<=(Ch aR js l q).getD j 0/\(Ch aR js l q).getD j 0<=5*(q:Int)
 | 0,_,j=>by
  unfold Ch;rw [List.getD_eq_getElem?_getD,List.getElem?_replicate];split <;> simp
 | q+1,h,j=>by
  have e:=Lp b hr q U j;have x:=Lm b (hr q U);have a:=x.part j;have c:=x.len;unfold Ch;rw [QI _ _ (by rw [JT b q];omega) _ (Nat.le_refl _)];split <;> omega
theorem addP_rng(b:BL aS aR ps ws js ns)(hr:∀k,k<l.length->0<=l.getD k 0/\l.getD k 0<js.length){q:Nat}(hq:q<l.length){i:Nat}(hi:i<(js.getD (l.getD q 0).toNat AM.z).parts.length) :
  (Gq (Ch aR js l q) (js.getD (l.getD q 0).toNat AM.z).parts i).length=(js.getD (l.getD q 0).toNat AM.z).parts.length/\0<=(Gq (Ch aR js l q) (js.getD (l.getD q 0).toNat AM.z).parts i).getD i 0/\(Gq (Ch aR js l q) (js.getD (l.getD q 0).toNat AM.z).parts i).getD i 0<=5*(q:Int)/\
  0<=(js.getD (l.getD q 0).toNat AM.z).parts.getD i 0/\(js.getD (l.getD q 0).toNat AM.z).parts.getD i 0<=5:=by
 have x:=Lm b (hr q hq);have e:=Lp b hr q U i;have c:=x.len;have a:=JT (l:=l) b q;refine ⟨by rw [MY,a];omega,?_⟩;rw [QI _ _ (by rw [a];omega) i U,aX U];exact ⟨e.1,e.2,x.part i⟩
theorem Xi(b:BL aS aR ps ws js ns):(DN aR js l).length=aR.toNat:=JT b _
theorem Xj(b:BL aS aR ps ws js ns)(hr:∀k,k<l.length->0<=l.getD k 0/\l.getD k 0<js.length)(j:Nat):0<=(DN aR js l).getD j 0/\(DN aR js l).getD j 0<=5*(l.length:Int):=Lp b hr _ (Nat.le_refl _) j
theorem sum_take(xs:List Int){k:Nat}(h:k<xs.length):(xs.take (k+1)).sum=(xs.take k).sum+xs.getD k 0:=by
 rw [List.take_add_one,List.sum_append,List.getD_eq_getElem?_getD,List.getElem?_eq_getElem h];simp
theorem sum_all(xs:List Int){k:Nat}(h:xs.length<=k):(xs.take k).sum=xs.sum:=by rw [List.take_of_length_le h]
theorem Vh(h:GV aS aR ps ws js ns l=0):BL aS aR ps ws js ns/\∀k,k<l.length->0<=l.getD k 0/\l.getD k 0<js.length:=by
 unfold GV at h;split at h
 ·rename_i a;exact absurd h a
 ·rename_i a;exact ⟨Cn (Decidable.not_not.1 a),FQ h⟩
def S0(aS aR:Int)(ps:List bB)(ws:List AF)(js:List AM)(ns:List AL)(l:List Int):List Int:=if¬GV aS aR ps ws js ns l=0 then [] else DN aR js l
def AAB(aS aR:Int)(ps:List bB)(ws:List AF)(js:List AM)(ns:List AL)(l:List Int):Bool:=if¬GV aS aR ps ws js ns l=0 then false else decide ((DN aR js l).sum<=aS)
end
end Go.Ns
namespace Go.Ns
open Go.Conc
section
variable {P:Program} {E:Gb P} {O:Nat->aZ} {ds:List Deferred} {h:Y} {T:(Nat->aZ)->List Deferred->Y->Prop}
variable {dst:Option Nat} {ty:bA} {pos:String} {af:Array Edge} {gd:Option (Nat×Bool)}
theorem Lq{t kt vt:bA}{x ix:Operand}{r np:Nat}{ws:List AF}{pq:List AI}{q:AI}{a b:Int}{z:aZ}(ht:MI P t=some (kt,vt))(hx:AN O x=.map (some r))(hk:AN O ix=E6 (q.w5,a,b))(hm:EP h r np ws pq)
  (hc:∀a:FP,ckP P 4 kt (E6 a)=true)
  (he:∀a b:FP,Pd P 4 kt (E6 a) (E6 b)=some ((a.1.1==b.1.1 && (a.1.2.1==b.1.2.1 && (a.1.2.2.1==b.1.2.2.1 && (a.1.2.2.2.1==b.1.2.2.2.1 && (a.1.2.2.2.2==b.1.2.2.2.2 && true))))) && (a.2.1==b.2.1 && (a.2.2==b.2.2 && true))))
  (hz:(P.info? vt).bind (·.zero)=some z) (hq:q ∈ pq) (ha:0<=a/\a<np) (hb:0<=b/\b<np)
  (k:T (putS O dst (.int .i64 (Aw np ws q a.toNat b.toNat))) ds h):BR E ⟨dst,.lookup t x ix false,ty,pos,af,gd⟩ O ds h T:=by
 obtain ⟨g,M,c,f⟩:=hm;have e:=f q hq a.toNat b.toNat U U;rw [Int.toNat_of_nonneg ha.1,Int.toNat_of_nonneg hb.1] at e;refine Sg (d:=3) (a:=(q.w5,a,b)) ht hx hk c rfl (hc _) (λb=>by rw [he,FP.eq_iff]) hz ?_;rw [e];exact k
theorem S1{aQ:Type}{t:bA}{x:Operand}{olo ohi:Option Operand}{n:Nat}{enc:aQ->Array aZ}{xs:List aQ}{v:aZ}{hk:Y}(lo hi:Nat)(ht:D0 P t=some n)(hs:AG hk v n enc xs)(hx:AN O x=v)
  (hlo:match olo with | none=>lo=0 | some o=>∃kd,AN O o=.int kd lo) (hhi:match ohi with | none=>hi=xs.length | some o=>∃kd,AN O o=.int kd hi) (h1:lo<=hi) (h2:hi<=xs.length)
  (k:∀v',AG hk v' n enc ((xs.take hi).drop lo)->T (putS O dst v') ds h):BR E ⟨dst,.slice t x olo ohi none,ty,pos,af,gd⟩ O ds h T:=by
 have b:=hs;obtain ⟨a,c,rfl,d,_,_⟩:=b;exact Kk lo hi ht d hx hlo hhi h1 h2 (k _ (hs.part h1 h2))
end
def Xk(F:AI->Int)(l:List AI):Nat->Int
 | 0=>F (l.getD 0 AI.zero)
 | k+1=>min (Xk F l k) (F ((l.drop 1).getD k AI.zero))
def Xl(F:AI->Int)(l:List AI):Nat->Int
 | 0=>F (l.getD 0 AI.zero)
 | k+1=>max (Xl F l k) (F ((l.drop 1).getD k AI.zero))
def DT(F:AI->Int)(l:List AI):Int:=Xk F l (l.length-1)
def Ba(F:AI->Int)(l:List AI):Int:=Xl F l (l.length-1)
theorem NQ{l:List AI}{k:Nat}(h:k<l.length-1):(l.drop 1).getD k AI.zero ∈ l:=List.mem_of_mem_drop (BV (by rw [List.length_drop];exact h))
def GG(s v:Int):Int:=if s=0 then v else 0
theorem LQ(v:Int):GG 0 v=v:=aY rfl
theorem OO{s v:Int}(h:¬s=0):GG s v=0:=aX h
end Go.Ns
namespace Go.Ns
open Go.Conc
theorem Ua:∀(n m:Nat)(f:Nat->Nat),(∀i,i<m->f i<n)->(∀i j,i<j->j<m->f i≠f j)->m<=n
 | 0,m,f,h,_=>by
  rcases Nat.eq_zero_or_pos m with e | e
  ·omega
  ·exact absurd (h 0 e) (Nat.not_lt_zero _)
 | n+1,m,f,h,d=>by
  rcases Nat.eq_zero_or_pos m with e | e
  ·omega
  ·have x:=Ua n (m-1) (λi=>if f i=n then f (m-1) else f i) (λi b=>by
    have c:=h i U;have g:=h (m-1) U;have k:=d i (m-1) b U;show (if f i=n then f (m-1) else f i)<n;split <;> omega) (λi j a l=>by
    have c:=d i j a U;have g:=d i (m-1) U U;have k:=d j (m-1) U U;show (if f i=n then f (m-1) else f i)≠(if f j=n then f (m-1) else f j);split <;> split <;> omega)
   omega
theorem H1{nj:Nat}{l:List Int}(h:Af nj l=0):l.length<=nj:=by
 refine Ua nj l.length (λk=>(l.getD k 0).toNat) (λi d=>?_) λi j f g=>?_
 ·have:=FQ h i d
  show (l.getD i 0).toNat<nj;omega
 ·have d:=FQ h i U;have m:=FQ h j g;have c:=DX h j (Nat.zero_le _) U;unfold Ho at c;split at c
  ·rename_i a;exact absurd c a
  ·split at c
   ·cases c
   ·rename_i a b
    show (l.getD i 0).toNat≠(l.getD j 0).toNat;intro e;refine b (List.any_eq_true.2 ⟨l.getD i 0,?_,decide_eq_true U⟩);rw [List.mem_iff_getElem];refine ⟨i,by rw [List.length_take];omega,?_⟩;rw [List.getElem_take,List.getD_eq_getElem?_getD,List.getElem?_eq_getElem U];rfl
def GZ(js:List AM)(l:List Int):Nat->Int
 | 0=>0
 | q+1=>(js.getD (l.getD q 0).toNat AM.z).place
def Bu(np:Nat)(ws:List AF)(js:List AM)(p:AI)(l:List Int):Nat->Int
 | 0=>0
 | q+1=>Bu np ws js p l q+(Aw np ws p (GZ js l q).toNat (js.getD (l.getD q 0).toNat AM.z).place.toNat+p.works (l.getD q 0).toNat)
def E8(np:Nat)(ws:List AF)(js:List AM)(p:AI)(l:List Int):Nat->List Int
 | 0=>[]
 | q+1=>E8 np ws js p l q++[Bu np ws js p l (q+1)]
def AY(np:Nat)(ws:List AF)(js:List AM)(p:AI)(l:List Int):Int:=Bu np ws js p l l.length+Aw np ws p (GZ js l l.length).toNat 0
theorem JU(np:Nat)(ws:List AF)(js:List AM)(p:AI)(l:List Int):∀q,(E8 np ws js p l q).length=q
 | 0=>rfl
 | q+1=>by rw [E8,List.length_append,JU np ws js p l q];rfl
theorem QJ(np:Nat)(ws:List AF)(js:List AM)(p:AI)(l:List Int):∀q i,i<q->(E8 np ws js p l q).getD i 0=Bu np ws js p l (i+1)
 | 0,i,h=>absurd h (Nat.not_lt_zero _)
 | q+1,i,h=>by
  have a:=JU np ws js p l q;rw [E8,List.getD_eq_getElem?_getD];by_cases e:i<q
  ·rw [List.getElem?_append_left U,<-List.getD_eq_getElem?_getD];exact QJ np ws js p l q i e
  ·have b:i=q:=U
   subst b;rw [List.getElem?_append_right U,a,Nat.sub_self];rfl
section
variable {aS aR:Int} {ps:List bB} {ws:List AF} {js:List AM} {ns:List AL} {l:List Int} {p:AI}
theorem S3{np:Nat}(hp:BX p):(Aw np ws p).ok:=Vf (Ll hp)
theorem goAt_rng(b:BL aS aR ps ws js ns)(hr:∀k,k<l.length->0<=l.getD k 0/\l.getD k 0<js.length):∀q,q<=l.length->0<=GZ js l q/\GZ js l q<ps.length
 | 0,_=>by have:=b.plen;show (0:Int)<=0/\(0:Int)<_;omega
 | q+1,h=>by have:=(Lm b (hr q U)).place;show 0<=(js.getD (l.getD q 0).toNat AM.z).place/\(js.getD (l.getD q 0).toNat AM.z).place<ps.length;omega
theorem S4(hp:BX p):∀q,0<=Bu ps.length ws js p l q/\Bu ps.length ws js p l q<=1048606*(q:Int)
 | 0=>⟨Int.le_refl 0,Int.le_refl 0⟩
 | q+1=>by
  have e:=S4 hp q;have f:=S3 (np:=ps.length) (ws:=ws) hp (GZ js l q).toNat (js.getD (l.getD q 0).toNat AM.z).place.toNat;have w:=hp.works (l.getD q 0).toNat;unfold Bu;omega
end
end Go.Ns
namespace Go.Ns
open Go.Conc
theorem EP.store{h h':Y}{q r np:Nat}{ws:List AF}{pq:List AI}(x:EP h r np ws pq)(ho:∀b,b≠q->h' b=h b)(n:r≠q):EP h' r np ws pq:=by
 obtain ⟨c,M,⟨d,a,e,f⟩,g⟩:=x;exact ⟨c,M,⟨d,a,(ho r n).trans e,f⟩,g⟩
def E9(x:Int×Int):Array aZ:=#[.int .i64 x.1,.int .i64 x.2]
section
variable (np:Nat) (ws:List AF) (js:List AM) (pq:List AI) (l:List Int)
def endLo(i:Nat):Int:=DT (λx=>Bu np ws js x l (i+1)) pq
def endHi(i:Nat):Int:=Ba (λx=>Bu np ws js x l (i+1)) pq
def JV:Nat->List (Int×Int)
 | 0=>[]
 | q+1=>JV q++[(endLo np ws js pq l q,endHi np ws js pq l q)]
theorem QK:∀q,(JV np ws js pq l q).length=q
 | 0=>rfl
 | q+1=>by rw [JV,List.length_append,QK q];rfl
def QL(i:Nat):Bool:=decide (endHi np ws js pq l i<=(js.getD (l.getD i 0).toNat AM.z).due)
def CB(aS aR:Int):Bool:=decide ((DN aR js l).sum<=aS) && (List.range l.length).all (QL np ws js pq l)
variable {np ws js pq l}
theorem onTime_of{q:Nat}(h:¬(js.getD (l.getD q 0).toNat AM.z).due<Ba (λx=>Bu np ws js x l ((q:Int).toNat+1)) pq):QL np ws js pq l q=true:=decide_eq_true (Int.not_lt.1 h)
theorem onTime_no{q:Nat}(h:(js.getD (l.getD q 0).toNat AM.z).due<Ba (λx=>Bu np ws js x l ((q:Int).toNat+1)) pq):QL np ws js pq l q=false:=decide_eq_false (Int.not_le.2 h)
variable {aS aR:Int}
theorem Xm(h:¬(DN aR js l).sum<=aS):CB np ws js pq l aS aR=false:=by unfold CB;rw [decide_eq_false h];rfl
theorem safe_late{k:Nat}(hk:k<l.length)(h:(js.getD (l.getD k 0).toNat AM.z).due<Ba (λx=>Bu np ws js x l ((k:Int).toNat+1)) pq):CB np ws js pq l aS aR=false:=by
 unfold CB;rw [Bool.and_eq_false_iff];refine .inr (Bool.eq_false_iff.2 λe=>?_)
 have:=List.all_eq_true.1 e k (List.mem_range.2 hk)
 rw [onTime_no h] at this;cases this
theorem safe_all{k:Nat}(h:¬¬(DN aR js l).sum<=aS)(hs:∀j,j<k->QL np ws js pq l j=true)(hk:l.length<=k):CB np ws js pq l aS aR=true:=by
 unfold CB;rw [decide_eq_true (Decidable.not_not.1 h),Bool.true_and];exact List.all_eq_true.2 λj a=>hs j (by have:=List.mem_range.1 a;omega)
end
def CW:Nat->List Int
 | 0=>[]
 | k+1=>CW k++[(k:Int)]
theorem Cq:∀n,(CW n).length=n
 | 0=>rfl
 | n+1=>by rw [CW,List.length_append,Cq n];rfl
def Cc(nj:Nat)(l:List Int)(i:Int):Int:=if¬Af nj l=0 then Af nj l else if¬(0<=i/\i<=(l.length:Int)-1) then 1 else 0
theorem Vi{nj:Nat}{l:List Int}{i:Int}(h:Cc nj l i=0):Af nj l=0/\0<=i/\i<l.length:=by
 unfold Cc at h;split at h
 ·rename_i a;exact absurd h a
 ·rename_i a
  split at h
  ·cases h
  ·exact ⟨Decidable.not_not.1 a,U⟩
section
variable (aS aR:Int) (ps:List bB) (ws:List AF) (js:List AM) (ns:List AL) (l:List Int)
def S5:List (Int×Int):=if¬AV aS aR ps ws js ns (Af js.length l)=0 then [] else JV ps.length ws js (AD ws js ns) l l.length
def AAC:Bool:=if¬AV aS aR ps ws js ns (Af js.length l)=0 then false else CB ps.length ws js (AD ws js ns) l aS aR
def LR(i:Int):Int:=
 if¬AV aS aR ps ws js ns (Cc js.length l i)=0 then 0 else if (js.getD (l.getD i.toNat 0).toNat AM.z).due<endLo ps.length ws js (AD ws js ns) l i.toNat then 1
 else if endHi ps.length ws js (AD ws js ns) l i.toNat<=(js.getD (l.getD i.toNat 0).toNat AM.z).due then 2 else 0
variable {aS aR ps ws js ns l} {i:Int}
theorem late_yes(h0:AV aS aR ps ws js ns (Cc js.length l i)=0)(h:(js.getD (l.getD i.toNat 0).toNat AM.z).due<DT (λx=>Bu ps.length ws js x l (i.toNat+1)) (AD ws js ns)):(1:Int)=LR aS aR ps ws js ns l i:=by
 unfold LR;rw [aX (λx=>x h0)];exact (aY h).symm
theorem late_no(h0:AV aS aR ps ws js ns (Cc js.length l i)=0)(h:¬(js.getD (l.getD i.toNat 0).toNat AM.z).due<DT (λx=>Bu ps.length ws js x l (i.toNat+1)) (AD ws js ns))
  (h2:Ba (λx=>Bu ps.length ws js x l (i.toNat+1)) (AD ws js ns)<=(js.getD (l.getD i.toNat 0).toNat AM.z).due):(2:Int)=LR aS aR ps ws js ns l i:=by
 unfold LR;rw [aX (λx=>x h0)];exact ((aX h).trans (aY h2)).symm
theorem late_open(h0:AV aS aR ps ws js ns (Cc js.length l i)=0)(h:¬(js.getD (l.getD i.toNat 0).toNat AM.z).due<DT (λx=>Bu ps.length ws js x l (i.toNat+1)) (AD ws js ns))
  (h2:¬Ba (λx=>Bu ps.length ws js x l (i.toNat+1)) (AD ws js ns)<=(js.getD (l.getD i.toNat 0).toNat AM.z).due):(0:Int)=LR aS aR ps ws js ns l i:=by
 unfold LR;rw [aX (λx=>x h0)];exact ((aX h).trans (aX h2)).symm
theorem late_bad(h0:¬AV aS aR ps ws js ns (Cc js.length l i)=0):(0:Int)=LR aS aR ps ws js ns l i:=by unfold LR;rw [aY h0]
end
end Go.Ns
namespace Go.Ns
open Go.Conc
def G6(i:Nat)(pq:List AI):Nat->List Int
 | 0=>[]
 | k+1=>G6 i pq k++[(pq.getD k AI.zero).works i]
theorem HJ(i:Nat)(pq:List AI):∀k,(G6 i pq k).length=k
 | 0=>rfl
 | k+1=>by rw [G6,List.length_append,HJ i pq k];rfl
theorem QM{i:Nat}{pq:List AI}{k:Nat}(h:0<k):G6 i pq k≠[]:=λe=>by
 have:=HJ i pq k
 rw [e] at this;simp at this;omega
def NR(aS aR:Int)(ps:List bB)(ws:List AF)(js:List AM)(ns:List AL)(i:Int):List Int:=
 if¬AV aS aR ps ws js ns (Ci js.length i)=0 then [] else Dv (Du (G6 i.toNat (AD ws js ns) (AD ws js ns).length))
end Go.Ns
namespace Go.Ns
open Go.Conc
theorem Vj{h:Y}{r:Nat}{M:Int->Option Int}(x:Cl h r Dz Dz M):∃y,h r=some y:=by
 obtain ⟨c,a,b,_⟩:=x;exact ⟨_,b⟩
def EA(ns:List AL)(mask:Int)(k:Nat):List AL:=((List.range k).filter (OD mask)).map λ(i:Nat)=>ns.getD i AL.z
section
variable {ns:List AL} {mask:Int} {k:Nat} {h:Y}
theorem pickN_t(hb:mask.fdiv (2 ^ k)%2=1):EA ns mask (k+1)=EA ns mask k++[ns.getD k AL.z]:=by
 unfold EA;rw [J7 (by unfold OD;rw [decide_eq_true hb]),List.map_append];rfl
theorem pickN_f(hb:¬mask.fdiv (2 ^ k)%2=1):EA ns mask (k+1)=EA ns mask k:=by
 unfold EA;rw [J8 (by unfold OD;rw [decide_eq_false hb])]
theorem S6(ns:List AL)(mask:Int)(k:Nat):(EA ns mask k).length<=k:=by
 unfold EA;rw [List.length_map]
 have:=List.length_filter_le (OD mask) (List.range k)
 rwa [List.length_range] at this
theorem Vk(ns:List AL)(mask:Int)(k q:Nat)(hq:q<(EA ns mask k).length):∃i,i<k/\(EA ns mask k).getD q AL.z=ns.getD i AL.z:=by
 have a:(EA ns mask k).getD q AL.z ∈ EA ns mask k:=BV hq;unfold EA at a ⊢;obtain ⟨i,b,e⟩:=List.mem_map.1 a;exact ⟨i,List.mem_range.1 (List.mem_filter.1 b).1,e.symm⟩
theorem Au.pick(x:Au h ns)(mask:Int)(k:Nat):Au h (EA ns mask k):=λq=>by
 by_cases a:q<(EA ns mask k).length
 ·obtain ⟨i,_,e⟩:=Vk ns mask k q a;rw [e];exact x i
 ·rw [List.getD_eq_getElem?_getD,List.getElem?_eq_none U];exact Au.nil h 0
theorem Au.fine1(x:Au h ns)(k:Nat):(CL (ns.getD k AL.z)).toList.all (·.oneCell')=true:=by
 show (((ns.getD k AL.z).wv.oneCell') && (true && (true && true)))=true;rw [(AG.one (x k)).2];rfl
theorem Au.fine(x:Au h ns):∀y ∈ ns,(CL y).toList.all (·.oneCell')=true:=λy a=>by
 obtain ⟨i,b,e⟩:=List.mem_iff_getElem.1 a
 have:=x.fine1 i
 rw [List.getD_eq_getElem?_getD,List.getElem?_eq_getElem b] at this;rw [<-e];exact this
theorem Ub{nw:Nat}{ns ns':List AL}{k i:Nat}(e:ns'.getD k AL.z=ns.getD i AL.z):EI nw ns' k=EI nw ns i:=by unfold EI;rw [e]
theorem BL.pick{aS aR:Int}{ps:List bB}{ws:List AF}{js:List AM}(b:BL aS aR ps ws js ns)(mask:Int):BL aS aR ps ws js (EA ns mask ns.length):=
 { b with
  nlen:=Nat.le_trans (S6 ns mask ns.length) b.nlen
  note:=λk a=>by
   obtain ⟨i,c,e⟩:=Vk ns mask ns.length k a;rw [Ub e];exact b.note i c }
end
section
variable (ws:List AF) (js:List AM) (ns:List AL)
def F4(x:Bool×List Int)(l:List Int):Bool:=x.1 && (decide ((x.2.length:Int)<l.length) || (decide ((l.length:Int)=x.2.length) && decide (0<Hl l x.2)))
def B2:Nat->Bool×List Int
 | 0=>(false,[])
 | q+1=>if F4 (B2 q) (D2 (q:Int) ns.length)=true then B2 q else if (AD ws js (EA ns (q:Int) ns.length)).length=0 then (true,D2 (q:Int) ns.length) else B2 q
variable {ws js ns} {q:Nat}
theorem IZ(h:F4 (B2 ws js ns q) (D2 (q:Int) ns.length)=true):B2 ws js ns (q+1)=B2 ws js ns q:=aY h
theorem OP(h:F4 (B2 ws js ns q) (D2 (q:Int) ns.length)=false)(h2:((AD ws js (EA ns (q:Int) ns.length)).length:Int)=0):B2 ws js ns (q+1)=(true,D2 (q:Int) ns.length):=by
 rw [B2,aX (by rw [h];simp),aY U]
theorem OQ(h:F4 (B2 ws js ns q) (D2 (q:Int) ns.length)=false)(h2:¬((AD ws js (EA ns (q:Int) ns.length)).length:Int)=0):B2 ws js ns (q+1)=B2 ws js ns q:=by
 rw [B2,aX (by rw [h];simp),aX U]
theorem tWorse_f1{x:Bool×List Int}{l:List Int}(h:x.1=false):F4 x l=false:=by unfold F4;rw [h];rfl
theorem tWorse_f2{x:Bool×List Int}{l:List Int}(h:¬(x.2.length:Int)<l.length)(h2:¬(l.length:Int)=x.2.length):F4 x l=false:=by
 unfold F4;rw [decide_eq_false h,decide_eq_false h2];simp
theorem tWorse_f3{x:Bool×List Int}{l:List Int}(h:¬(x.2.length:Int)<l.length)(h2:¬0<Hl l x.2):F4 x l=false:=by
 unfold F4;rw [decide_eq_false h,decide_eq_false h2];simp
theorem S7{x:Bool×List Int}{l:List Int}(h:x.1=true)(h1:(x.2.length:Int)<l.length):F4 x l=true:=by
 unfold F4;rw [h,decide_eq_true h1];simp
theorem S8{x:Bool×List Int}{l:List Int}(h:x.1=true)(h1:(l.length:Int)=x.2.length)(h2:0<Hl l x.2):F4 x l=true:=by
 unfold F4;rw [h,decide_eq_true h1,decide_eq_true h2];simp
theorem pow_16:∀{n:Nat},n<=4->(1:Int)<=(2:Int) ^ n/\(2:Int) ^ n<=16
 | 0,_=>aC
 | 1,_=>aC
 | 2,_=>aC
 | 3,_=>aC
 | 4,_=>aC
theorem QN:∀q,(B2 ws js ns q).2.length<=ns.length
 | 0=>Nat.zero_le _
 | q+1=>by
  have e:=QN q;unfold B2;split
  ·exact e
  ·split
   ·exact St _ _
   ·exact e
def G7(aS aR:Int)(ps:List bB)(ws:List AF)(js:List AM)(ns:List AL):List Int:=
 if¬BW aS aR ps ws js ns=0 then [] else if (0:Int)<(AD ws js ns).length then [] else (B2 ws js ns (2 ^ ns.length)).2
end
section
variable {aS aR:Int} {ps:List bB} {ws:List AF} {js:List AM} {ns:List AL} {q:Nat}
theorem Vl(h:¬BW aS aR ps ws js ns=0):G7 aS aR ps ws js ns=[]:=aY h
theorem Uc(h:(0:Int)<(AD ws js ns).length):G7 aS aR ps ws js ns=[]:=by
 unfold G7;rw [aY h];exact ite_self _
theorem Vm(h:BW aS aR ps ws js ns=0)(h1:¬(0:Int)<(AD ws js ns).length)(hq:¬(q:Int)<(2:Int) ^ ((ns.length:Int)).toNat)(hq2:(q:Int)<=(2:Int) ^ ((ns.length:Int)).toNat):G7 aS aR ps ws js ns=(B2 ws js ns q).2:=by
 have e:((2 ^ ns.length:Nat):Int)=(2:Int) ^ ((ns.length:Int)).toNat:=by rw [Int.toNat_natCast,Int.natCast_pow];rfl
 rw [<-e] at hq hq2
 have:2 ^ ns.length=q:=U
 unfold G7;rw [aX (λx=>x h),aX h1,this]
end
section
variable (ws:List AF) (js:List AM) (ns:List AL)
abbrev LF(pq:List AI)(i:Nat):Nat->Int:=λk=>(pq.getD k AI.zero).ways i
def Vn(pq:List AI)(i:Nat):Int:=LN (LF pq i) pq.length
def Hp(pq:List AI)(k:Nat):Int×Int:=askTo (Vn pq) (pq.length:Int) k
theorem S9{pq:List AI}{k:Nat}(h:Vn pq k<(Hp pq k).2):Hp pq (k+1)=((k:Int),Vn pq k):=aY h
theorem TA{pq:List AI}{k:Nat}(h:¬Vn pq k<(Hp pq k).2):Hp pq (k+1)=Hp pq k:=aX h
def Ud(aS aR:Int)(ps:List bB)(ws:List AF)(js:List AM)(ns:List AL):Int:=if¬AV aS aR ps ws js ns 0=0 then 0 else (Hp (AD ws js ns) ws.length).1
def PG(aS aR:Int)(ps:List bB)(ws:List AF)(js:List AM)(ns:List AL):Int:=if¬AV aS aR ps ws js ns 0=0 then 0 else (Hp (AD ws js ns) ws.length).2
end
end Go.Ns
namespace Go.Ns
open Go.Conc
def Oy(hs:Y)(k0 ln:Nat)(c:Array aZ)(t:bA)(k:Nat)(v:aZ)(h:Y):Prop:=k=k0->∃r,v=.slice (some ⟨r,0,none⟩) ln ln/\hs r=none/\h r=some (true,.cells c t (0,0))
theorem Oy.mono(hs:Y)(k0 ln:Nat)(c:Array aZ)(t:bA):∀k v h1 h2,Y.Le h1 h2->Oy hs k0 ln c t k v h1->Oy hs k0 ln c t k v h2:=λ_ _ _ _ l x e=>by
 obtain ⟨r,a,b,d⟩:=x e;exact ⟨r,a,b,l.keep d rfl⟩
theorem NS{P:Program}{E:Gb P}{O:Nat->aZ}{ds:List Deferred}{hs hx:Y}{dst:Option Nat}{ty:bA}{pos:String}{af:Array Edge}{gd:Option (Nat×Bool)}{t:bA}{len n k0 k:Nat}{z cells:Array aZ}{e:bA}{parts:Array (Nat×Operand)}
  (h0:DZ P t=some (n,z,e)) (hl:len*n<=2 ^ 24) (hn:(len*n=0)=False) (hf:Instr.fill (λi=>some (i*n,n)) ((Array.range (len*n)).map (z[·%z.size]!)) (parts.map λ(i,x)=>(i,AN O x)).toList=some cells) (l:hs.Le hx) :
  BR E ⟨dst,.buildSlice t len parts,ty,pos,af,gd⟩ O ds hx λσ' ds' h'=>ds'=ds/\∃v,σ'=putS O dst v/\hx.Le h'/\Oy hs k0 len cells e k v h':=
 AX h0 hl hn hf λr h' a le b _=>⟨rfl,_,rfl,le,λ_=>⟨r,rfl,Y.Le.nothing l a,b⟩⟩
def LfW(hs:Y)(k0 ln:Nat)(c:Array aZ)(t:bA)(n:Nat)(Fr:Y->Prop)(k:Nat)(v:aZ)(h:Y):Prop:=Oy hs k0 ln c t k v h/\(k=n->Fr h)
theorem LfW.mono(hs:Y)(k0 ln:Nat)(c:Array aZ)(t:bA)(n:Nat){Fr:Y->Prop}(m:∀h1 h2,Y.Le h1 h2->Fr h1->Fr h2):∀k v h1 h2,Y.Le h1 h2->LfW hs k0 ln c t n Fr k v h1->LfW hs k0 ln c t n Fr k v h2:=λ_ _ _ _ l x=>⟨Oy.mono _ _ _ _ _ _ _ _ _ l x.1,λe=>m _ _ l (x.2 e)⟩
theorem Xn{P:Program}{E:Gb P}{O:Nat->aZ}{ds:List Deferred}{hs hx:Y}{dst:Option Nat}{ty:bA}{pos:String}{af:Array Edge}{gd:Option (Nat×Bool)}{t:bA}{len n k0 N:Nat}{z cells:Array aZ}{e:bA}{parts:Array (Nat×Operand)}{Fr:Y->Prop}(hk:k0≠N)
  (h0:DZ P t=some (n,z,e)) (hl:len*n<=2 ^ 24) (hn:(len*n=0)=False) (hf:Instr.fill (λi=>some (i*n,n)) ((Array.range (len*n)).map (z[·%z.size]!)) (parts.map λ(i,x)=>(i,AN O x)).toList=some cells) (l:hs.Le hx) :
  BR E ⟨dst,.buildSlice t len parts,ty,pos,af,gd⟩ O ds hx λσ' ds' h'=>ds'=ds/\∃v,σ'=putS O dst v/\hx.Le h'/\LfW hs k0 len cells e N Fr k0 v h':=
 AX h0 hl hn hf λr h' a le b _=>⟨rfl,_,rfl,le,λ_=>⟨r,rfl,Y.Le.nothing l a,b⟩,λe=>absurd e hk⟩
theorem tFg{P:Program}{E:Gb P}{l:List Oper}{n:Nat}{fl:Bool}{hs:Y}{ds:List Deferred}{Lw:Nat->aZ->Y->Prop}{F:(Nat->aZ)->Y->Prop}{π:List Nat}{O:Nat->aZ}{h:Y}{m k g d:Nat}{dst:Option Nat}{op:Op}{ty:bA}{pos:String}{af:Array Edge}{v:aZ}{w:Bool}{og:Oper}
  (hk:LC m=(.p,k)) (ho:l[k]? =some ⟨dst,op,ty,pos,af,some (g,w)⟩) (h1:l[g]? =some og) (h2:og.dst=some d) (h3:O d=.bool w) (x:∀hx,Lw n undef hx->UH E ⟨dst,op,ty,pos,af,some (g,w)⟩ O ds hx v)
  (y:TD E l n fl hs ds Lw F (dK π) (putS O dst v) h):TD E l n fl hs ds Lw F (dK (m ::π)) O h:=by
 unfold dK;rw [hk];exact ⟨_,true,ho,Hk h1 h2 h3,λe=>(by cases e),λ_=>⟨v,x,y⟩⟩
theorem tWLg{P:Program}{E:Gb P}{l:List Oper}{n:Nat}{hs:Y}{ds:List Deferred}{Lw:Nat->aZ->Y->Prop}{F:(Nat->aZ)->Y->Prop}{π:List Nat}{O:Nat->aZ}{h:Y}{m k g d:Nat}{dst:Option Nat}{op:Op}{ty:bA}{pos:String}{af:Array Edge}{w:Bool}{og:Oper}(hk:LC m=(.w,k))(ho:l[k]? =some ⟨dst,op,ty,pos,af,some (g,w)⟩)(h1:l[g]? =some og)(h2:og.dst=some d)(h3:O d=.bool w)
  (x:BR E ⟨dst,op,ty,pos,af,some (g,w)⟩ O ds h λσ' ds' h'=>ds'=ds/\∃v,σ'=putS O dst v/\Lw n undef h'/\TD E l n false hs ds Lw F (dK π) (putS O dst v) h'):TD E l n false hs ds Lw F (dK (m ::π)) O h:=by
 unfold dK;rw [hk];exact ⟨_,true,ho,Hk h1 h2 h3,λe=>(by cases e),λ_ b a=>by rw [a.2 rfl];exact x⟩
def Ty(h:Y)(t:bA)(v:aZ):Prop:=∀b,CS v=some b->∃p c f,h b=some (p,.cells c t f)
def B7(h:Y)(t:bA)(v:aZ)(xs:List Int):Prop:=AG h v 1 eI xs/\Ty h t v
theorem B7.le{h h':Y}{t:bA}{v:aZ}{xs:List Int}(x:B7 h t v xs)(l:h.Le h'):B7 h' t v xs:=⟨x.1.le l,λb a=>by
 obtain ⟨p,c,f,q⟩:=x.2 b a;exact ⟨p,c,f,l.keep q rfl⟩⟩
theorem B7.nil(h:Y)(t:bA):B7 h t (.slice none 0 0) []:=⟨AG.nil _ _ _,λb a=>by cases a⟩
theorem B7.own{h0 h:Y}{t:bA}{v:aZ}{xs:List Int}(o:AO h0 h v t 1 eI xs):B7 h t v xs:=⟨o.sl,λb a=>by
 rcases o with ⟨rfl,_⟩ | ⟨f,d,c,rfl,_,e,_⟩
 ·cases a
 ·simp only [CS,Option.some.injEq] at a;subst a;exact ⟨_,_,_,e⟩⟩
theorem B7.same{h h':Y}{t:bA}{w:aZ}{xs:List Int}(x:B7 h t w xs)(key:∀b,CS w=some b->h' b=h b):B7 h' t w xs:=by
 refine ⟨?_,λb e=>by rw [key b e];exact x.2 b e⟩;obtain ⟨a,c,f,j,k,l⟩:=x.1;refine ⟨a,c,f,j,k,λi m=>?_⟩;obtain ⟨b,d,g,n⟩:=l i m;exact ⟨b,d,g,n.same (key b (by rw [f,g];rfl))⟩
theorem B7.grown{aQ:Type}{h h' h0:Y}{v v':aZ}{t t':bA}{n:Nat}{enc:aQ->Array aZ}{ys:List aQ}(g:Gc h h' v v')(o:AO h0 h v t' n enc ys)(ne:t'≠t){w:aZ}{xs:List Int}(x:B7 h t w xs):B7 h' t w xs:=
 x.same λb d=>by
  obtain ⟨p,c,f,q⟩:=x.2 b d;rw [q];refine g.1 b _ q λe=>?_;rcases o with ⟨rfl,_⟩ | ⟨j,i,k,rfl,_,a,_⟩
  ·cases e
  ·simp only [CS,Option.some.injEq] at e;subst e;rw [q] at a;cases a;exact ne rfl
theorem B7.keepX{X:Nat->Prop}{h h':Y}{t:bA}{w:aZ}{xs:List Int}(x:B7 h t w xs)(k:BO X h h')(n:∀b,CS w=some b->¬X b):B7 h' t w xs:=
 x.same λb a=>by
  obtain ⟨p,c,f,q⟩:=x.2 b a;rw [q];exact k.box q (n b a) rfl
theorem B7.store{h h':Y}{t t':bA}{w:aZ}{xs:List Int}{r:Nat}{p:Bool}{c:Array aZ}{f:Nat×Nat}(x:B7 h t w xs)(hr:h r=some (p,.cells c t' f))(ne:t'≠t)(ho:∀b,b≠r->h' b=h b):B7 h' t w xs:=
 x.same λb a=>ho b λe=>by
  obtain ⟨d,g,f2,q⟩:=x.2 b a;rw [e,hr] at q;cases q;exact ne rfl
def Br(h:Y)(t:bA)(l:List Sl):Prop:=∀k,B7 h t (l.getD k Sl.z).1 (l.getD k Sl.z).2
theorem Br.le{h h':Y}{t:bA}{l:List Sl}(x:Br h t l)(e:h.Le h'):Br h' t l:=λk=>(x k).le e
theorem Br.nil(h:Y)(t:bA):Br h t []:=λk=>by
 rw [Bl aD];exact B7.nil _ _
theorem II{aQ:Type}(z:aQ)(a b:List aQ)(k:Nat):(a++b).getD k z=if k<a.length then a.getD k z else b.getD (k-a.length) z:=by
 simp only [List.getD_eq_getElem?_getD,List.getElem?_append];split <;> rfl
theorem Br.app{h:Y}{t:bA}{l l':List Sl}(a:Br h t l)(b:Br h t l'):Br h t (l++l'):=λk=>by
 rw [II];split
 ·exact a k
 ·exact b _
theorem Br.one{h:Y}{t:bA}{x:Sl}(a:B7 h t x.1 x.2):Br h t [x]:=λk=>by
 cases k with
 | zero=>exact a
 | succ k=>rw [Bl aD];exact B7.nil _ _
theorem Br.fine{h:Y}{t:bA}{l:List Sl}(a:Br h t l):∀y ∈ l,(Jx y).toList.all (·.oneCell')=true:=λy b=>by
 obtain ⟨i,c,e⟩:=List.mem_iff_getElem.1 b;have z:=a i;rw [List.getD_eq_getElem?_getD,List.getElem?_eq_getElem c] at z;have d:B7 h t l[i].1 l[i].2:=z;rw [<-e];show ((l[i].1.oneCell') && true)=true;rw [(AG.one d.1).2];rfl
theorem NT(a b:List Sl):A5 (a++b)=A5 a++A5 b:=by simp [A5]
section
variable {aQ:Type} {hB:Y} {I:List aQ->(Nat->Prop)->Y->Prop} {aN:Y->Prop} {X0 X X1:Nat->Prop} {h hc h':Y} {pre l:List aQ} {v v':aZ}
def JW(hB:Y)(X0 X:Nat->Prop)(h:Y)(v:aZ):Prop:=∀b,CS v=some b->¬X b/\(X0 b\/h b=none)/\hB b=none
theorem D1.old(y:D1 hB I X0 h pre X hc){b:Nat}(e:hc b=none):X0 b\/h b=none:=by
 by_cases q:X0 b
 ·exact .inl q
 ·refine .inr ?_;cases c:h b with
  | none=>rfl
  | some x=>
   obtain ⟨d,a,_⟩:=y.keep b x.1 x.2 c q;rw [e] at a;cases a
theorem D1.fresh(P:Fh hB I)(y:D1 hB I X0 h pre X hc)(o:∀b,CS v=some b->hc b=none):JW hB X0 X h v:=λb a=>⟨P.off y.inv (o b a),y.old (o b a),y.base.nothing (o b a)⟩
theorem JW.grown(f:JW hB X0 X h v)(P:Fh hB I)(y:D1 hB I X0 h pre X hc)(g:Gc hc h' v v'):JW hB X0 X h v':=λb a=>by
 rcases g.2 with e | ⟨⟨r,d,c⟩,_⟩
 ·exact f b (e▸a)
 ·rw [d] at a;cases a;exact ⟨P.off y.inv c,y.old c,y.base.nothing c⟩
theorem D1.app(P:Fh hB I)(y:D1 hB I X0 h pre X hc)(g:Gc hc h' v v')(f:JW hB X0 X h v):D1 hB I X0 h pre X h':=by
 have j:hB.Le h':=λb p o a=>by
  obtain ⟨d,c,i⟩:=y.base b p o a;exact ⟨d,g.1 b _ c λe=>(by rw [(f b e).2.2] at a;cases a),i⟩
 refine ⟨P.stable _ _ hc h' y.inv (λb a=>?_) j,y.sub,λb p o a k=>?_,j⟩
 ·obtain ⟨p,o,c,_⟩:=P.dom _ _ _ b y.inv a;rw [c];exact g.1 b _ c λe=>(f b e).1 a
 ·obtain ⟨d,c,i⟩:=y.keep b p o a k;exact ⟨d,g.1 b _ c λe=>(f b e).2.1.elim k λq=>(by rw [q] at a;cases a),i⟩
theorem D1.callL(y:D1 hB I X0 h pre X hc)(f:JW hB X0 X h v){u:aZ}(r:EG hB I aN pre (λb=>X b\/CS v=some b) hc l u h') :
  ∃ok X',u=.bool ok/\(∀b,X' b->(X b\/CS v=some b)\/hc b=none)/\BO (λb=>X b\/CS v=some b) hc h'/\(ok=true->D1 hB I X0 h (pre++l) X' h')/\(ok=false->∀l',EG hB I aN pre X0 h l' (.bool false) h'):=by
 obtain ⟨ok,X',j,a,c,d,k,m⟩:=r;have s:∀b,(X b\/CS v=some b)->X0 b\/h b=none:=λb q=>q.elim (y.sub b) λe=>(f b e).2.1;have g:BO X0 h h':=y.keep.trans s c;have i:=subX s y.keep a;exact ⟨ok,X',j,a,c,λe=>⟨k e,i,g,d⟩,λe l'=>⟨false,X',rfl,i,g,d,(λx=>by cases x),λ_=>m e⟩⟩
end
structure QO{P:Program}(W:Wk P)(hB:Y)(yv:aZ)(t:bA)(I:List (List Int)->(Nat->Prop)->Y->Prop)(aN:Y->Prop)(all:List (List Int)):Prop where
 prom:Fh hB I
 one:yv.cells=#[yv]
 call:∀pre p post X h v,all=pre++p ::post->I pre X h->hB.Le h->B7 h t v p->(∀b,CS v=some b->¬X b/\hB b=none)->Bi W yv #[v] h (EG hB I aN pre (λb=>X b\/CS v=some b) h [p])
section
variable {P:Program} {E:Gb P} {O:Nat->aZ} {ds:List Deferred}
theorem TB{t0:bA}{all:List (List Int)}{hB hc:Y}{J:List (List Int)->(Nat->Prop)->Y->Prop}{Stop:Code->Y->Prop}{Y0:Nat->Prop}{par:Tmp}{f:Operand}{assign body:Code}{Q:Post}
  (hrd:E.rd=none) (hpar:Nat.blt par E.N=true) (hJ:Fh hB J) (hB0:hB.Le hc) (j0:J [] Y0 hc)
  (hS:∀c (h h':Y) l lo,Stop c h->h l=some (true,.loop lo)->(∀b,b≠l->h' b=h b)->Stop c h')
  (src:∀(yv:aZ)(I:List (List Int)->(Nat->Prop)->Y->Prop)(Sp:Y->Prop)(X:Nat->Prop)(h:Y),QO E.wk hB yv t0 I Sp all->hB.Le h->I [] X h->Bi E.wk (AN O f) #[yv] h λ_ h'=>YEnd hB I Sp all X h h')
  (round:∀(l d:Nat)(lo:Loop)(pre:List (List Int))(p:List Int)(post:List (List Int))(aO:Nat->Prop)(h:Y)(v:aZ),all=pre++p ::post->J pre aO h->hB.Le h->hB l=none->¬aO l->h l=some (true,.loop lo)->B7 h t0 v p->(∀b,CS v=some b->¬aO b/\hB b=none)->
   Tr ⟨E.wk,E.fn,some l,E.N⟩ assign (upd O par v) [] h λe σ' ds' h1=>e=.normal/\h1 l=some (true,.loop lo)/\∀h2,h2 l=some (true,.loop { lo with state:=.busy })->(∀b,b≠l->h2 b=h1 b)->
    Tr ⟨E.wk,E.fn,some l,E.N⟩ body σ' ds' h2 (VT hB J Stop (pre++[p]) (λb=>aO b\/CS v=some b) h l lo))
  (fin:∀(d l:Nat)(h':Y),hB.Le h'->hB d=none->hB l=none->hc d=none->h' d=some (true,.deferred (some []))->
   (∀aO,J all aO h'->(∀b,aO b->b≠d)->Q .normal O ({ target:=.collected d,args:=#[] } ::ds) h')/\
   (∀c,Stop c h'->match c with
    | .exit id=>Q (.exit id) O ({ target:=.collected d,args:=#[] } ::ds) h'
    | .ret=>Q .ret O ({ target:=.collected d,args:=#[] } ::ds) h'
    | _=>False)):Tr E (.rangeFunc f #[par] assign body) O ds hc Q:=by
 refine MK hrd λt d l hs H hl k=>?_;have m:hB l=none:=hB0.nothing hl;have K:hB d=none:=hB0.nothing H;let lo:Loop:={ state:=.ready,pending:=none,fn:=E.fn,tmps:=t,params:=#[par],assign,body,defers:=d };have nYl:¬Y0 l:=hJ.off j0 hl;have nYd:¬Y0 d:=hJ.off j0 H;have hL1:((hc.set d true (.deferred (some []))).set l true (.loop lo)) l=some (true,.loop lo):=Y.set_same _ _ _ _;have hL2:((hc.set d true (.deferred (some []))).set l true (.loop lo)) d=some (true,.deferred (some [])):=by rw [Y.set_ne _ _ _ (Ne.symm k)];exact Y.set_same _ _ _ _
 have hL3:∀b,b≠l->b≠d->((hc.set d true (.deferred (some []))).set l true (.loop lo)) b=hc b:=λb h1 h2=>by rw [Y.set_ne _ _ _ h1,Y.set_ne _ _ _ h2]
 have M:hB.Le ((hc.set d true (.deferred (some []))).set l true (.loop lo)):=(hB0.trans (Y.Le.new H _ _)).trans (Y.Le.new (by rw [Y.set_ne _ _ _ k];exact hl) _ _);have hI0:OB J l d lo [] (λb=>Y0 b\/b=l\/b=d) ((hc.set d true (.deferred (some []))).set l true (.loop lo)):=by
  refine ⟨Y0,hJ.stable _ _ hc _ j0 (λb a=>hL3 b (λe=>nYl (e▸a)) (λe=>nYd (e▸a))) M,λb=>Iff.rfl,nYl,nYd,hL1,hL2⟩
 have prom:Fh hB (OB J l d lo):=by
  refine ⟨?_,?_⟩
  ·rintro pre X h b ⟨aO,j,n,_,_,h1,h2⟩ a;rcases (n b).1 a with r | rfl | rfl
   ·exact hJ.dom _ _ _ _ j r
   ·exact ⟨_,_,h1,rfl⟩
   ·exact ⟨_,_,h2,rfl⟩
  ·rintro pre X h h' ⟨aO,j,n,C,D,h1,h2⟩ same lB;refine ⟨aO,hJ.stable _ _ h h' j (λb a=>same b ((n b).2 (.inl a))) lB,n,C,D,?_,?_⟩
   ·rw [same l ((n l).2 (.inr (.inl rfl)))];exact h1
   ·rw [same d ((n d).2 (.inr (.inr rfl)))];exact h2
 have yk:QO E.wk hB (.func (.yield l) #[] #[]) t0 (OB J l d lo) (Sn Stop l d lo) all:=by
  refine ⟨prom,rfl,?_⟩;rintro pre p post X h v R ⟨aO,j,n,C,D,h1,h2⟩ lB u T;have nvl:CS v≠some l:=λe=>by obtain ⟨_,_,_,q⟩:=u.2 l e;rw [h1] at q;cases q
  have W:CS v≠some d:=λe=>by obtain ⟨_,_,_,q⟩:=u.2 d e;rw [h2] at q;cases q
  refine Pg h1 rfl ?_;have ef:(lo.params.zip #[v]).foldl (λtmps x=>tmps.setIfInBounds x.1 x.2) lo.tmps=t.setIfInBounds par v:=by simp [lo]
  rw [ef];show BS E.wk l E.fn (t.setIfInBounds par v) assign body h _;have w:=hs.put hpar v;refine N6 (N:=E.N) w.1 ?_;have e0:(λi=>(t.setIfInBounds par v).getD i undef)=upd O par v:=funext w.2;rw [e0];refine Kf ?_ (round l d lo pre p post aO h v R j lB m C h1 u λb a=>⟨λq=>(T b a).1 ((n b).2 (.inl q)),(T b a).2⟩);rintro e σ' ds' ha ⟨rfl,ha1,a⟩;refine ⟨rfl,lo,ha1,rfl,?_⟩;refine Kf ?_ (a _ (Y.set_same _ _ _ _) λb a=>Y.set_ne _ _ _ a);rintro e σ2 ds2 r ⟨g1,Y',g2,g3,g4,F⟩;have y:r d=some (true,.deferred (some [])):=g3.box h2 (λq=>q.elim (λq=>q.elim D W) (λe=>k e.symm)) rfl;have nl:¬Y' l:=λq=>(g2 l q).elim (λq=>q.elim C nvl) λe=>by rw [h1] at e;cases e
  have nd:¬Y' d:=λq=>(g2 d q).elim (λq=>q.elim D W) λe=>by rw [h2] at e;cases e
  have A:∀(g:Loop)(ok:Bool),(if ok then J (pre++[p]) Y' (r.set l true (.loop g))/\g=lo else Sn Stop l d lo (r.set l true (.loop g)))->EG hB (OB J l d lo) (Sn Stop l d lo) pre (λb=>X b\/CS v=some b) h [p] (.bool ok) (r.set l true (.loop g)):=by
   intro g ok B;refine ⟨ok,λb=>Y' b\/b=l\/b=d,rfl,?_,?_,?_,?_,?_⟩
   ·rintro b (a | rfl | rfl)
    ·exact (g2 b a).imp (λq=>q.imp (λq=>(n b).2 (.inl q)) id) id
    ·exact .inl (.inl ((n _).2 (.inr (.inl rfl))))
    ·exact .inl (.inl ((n _).2 (.inr (.inr rfl))))
   ·intro b q o a hn;have nb:b≠l:=λe=>hn (.inl ((n b).2 (.inr (.inl e))));rw [Y.set_ne _ _ _ nb];exact g3 b q o a λq=>q.elim (λz=>z.elim (λz=>hn (.inl ((n b).2 (.inl z)))) λz=>hn (.inr z)) nb
   ·exact g4.upd m λb a=>Y.set_ne _ _ _ a
   ·rintro rfl;simp only [if_true] at B;obtain ⟨hj,rfl⟩:=B;exact ⟨Y',hj,λb=>Iff.rfl,nl,nd,Y.set_same _ _ _ _,by rw [Y.set_ne _ _ _ (Ne.symm k)];exact y⟩
   ·rintro rfl;simpa using B
  have js:∀(g:Loop),J (pre++[p]) Y' r->J (pre++[p]) Y' (r.set l true (.loop g)):=λg hj=>hJ.store hj nl (λb a=>Y.set_ne _ _ _ a) (g4.upd m λb a=>Y.set_ne _ _ _ a);have ss:∀c (g:Loop),Stop c r->Stop c (r.set l true (.loop g)):=λc g hc=>hS c r _ l _ hc g1 λb a=>Y.set_ne _ _ _ a;refine ⟨_,g1,?_⟩;cases e with
  | normal=>exact A _ true (by simp only [if_true];exact ⟨js _ F,rfl⟩)
  | exit id=>exact A _ false (by simp only [Bool.false_eq_true,if_false];exact ⟨_,ss _ _ F,Y.set_same _ _ _ _,by rw [Y.set_ne _ _ _ (Ne.symm k)];exact y⟩)
  | ret=>exact A _ false (by simp only [Bool.false_eq_true,if_false];exact ⟨_,ss _ _ F,Y.set_same _ _ _ _,by rw [Y.set_ne _ _ _ (Ne.symm k)];exact y⟩)
  | goto _=>exact F.elim
  | panic _=>exact F.elim
  | outgrown=>exact F.elim
 refine (src _ _ _ _ _ yk M hI0).mono ?_;rintro v h' ⟨X',w,hk,hl2,hor⟩;rcases hor with ⟨aO,j,n,C,D,h1,h2⟩ | ⟨c,hst,h1,h2⟩
 ·refine ⟨lo,h1,rfl,?_⟩;show Q .normal O _ _;have s:=hl2.upd m (λb a=>Y.set_ne h' true (.loop { lo with state:=.exhausted }) a);refine (fin d l _ s K m H (by rw [Y.set_ne _ _ _ (Ne.symm k)];exact h2)).1 aO (hJ.store j C (λb a=>Y.set_ne _ _ _ a) s) λb a e=>D (e▸a)
 ·refine ⟨_,h1,rfl,?_⟩;have s:=hl2.upd m (λb a=>Y.set_ne h' true (.loop { { lo with state:=.done,pending:=some c } with state:=.exhausted }) a)
  have:=(fin d l _ s K m H (by rw [Y.set_ne _ _ _ (Ne.symm k)];exact h2)).2 c (hS c h' _ l _ hst h1 λb a=>Y.set_ne _ _ _ a)
  cases c with
  | exit id=>exact this
  | ret=>exact this
  | _=>exact this.elim
end
def Hq(l:List Int)(k:Int):Bool:=l.any (λx=>decide (k=x))
def BG(jobs:List Int):Nat->List Int->List (List Int)
 | 0,l=>[l]
 | f+1,l=>l ::jobs.flatMap λk=>if Hq l k=true then [] else BG jobs f (l++[k])
def CD(jobs:List Int):Nat->List Int->Int->List (List Int)
 | 0,_,_=>[]
 | f+1,l,k=>if Hq l k=true then [] else BG jobs f (l++[k])
theorem Fm(jobs:List Int)(f:Nat)(l:List Int):BG jobs f l=l ::jobs.flatMap (CD jobs f l):=by
 cases f with
 | zero=>simp [BG,CD]
 | succ f=>rfl
def DY(jobs:List Int):List (List Int):=BG jobs jobs.length []
def Ls(jobs l:List Int):Nat:=(jobs.filter λk=> !Hq l k).length
theorem hasI_app(l:List Int)(k j:Int):Hq (l++[k]) j=(Hq l j || decide (j=k)):=by simp [Hq]
theorem OR{jobs l:List Int}{k:Int}(hk:k ∈ jobs)(h:Hq l k=false):Ls jobs (l++[k])<Ls jobs l:=by
 unfold Ls;have c:∀a:List Int,(a.filter λj=> !Hq (l++[k]) j).length<=(a.filter λj=> !Hq l j).length/\(k ∈ a->(a.filter λj=> !Hq (l++[k]) j).length<(a.filter λj=> !Hq l j).length):=by
  intro a
  induction a with
  | nil=>exact ⟨Nat.le_refl _,λe=>by cases e⟩
  | cons j a f=>
   obtain ⟨d,b⟩:=f;rw [List.filter_cons,List.filter_cons,hasI_app];by_cases e:j=k
   ·subst e;simp only [h,Bool.false_or,decide_true,Bool.not_true,Bool.false_eq_true,if_false,Bool.not_false,if_true,List.length_cons];exact ⟨U,λ_=>U⟩
   ·rw [decide_eq_false e,Bool.or_false];split
    ·simp only [List.length_cons];exact ⟨U,λq=>by have:=b ((List.mem_cons.1 q).resolve_left λz=>e z.symm);omega⟩
    ·exact ⟨d,λq=>b ((List.mem_cons.1 q).resolve_left λz=>e z.symm)⟩
 exact (c jobs).2 hk
theorem Xo{jobs:List Int}{i:Nat}{F:Int->List (List Int)}(hi:i<jobs.length):(jobs.take (i+1)).flatMap F=(jobs.take i).flatMap F++F (jobs.getD i 0):=by
 rw [Em 0 hi,List.flatMap_append];simp
theorem Bw.job{all pre:List (List Int)}{jobs:List Int}{f i:Nat}{l:List Int}(w:Bw all pre (BG jobs f l))(hi:i<jobs.length):Bw all (pre++[l]++(jobs.take i).flatMap (CD jobs f l)) (CD jobs f l (jobs.getD i 0)):=by
 rw [Fm] at w;have a:Bw all pre ([l]++((jobs.take i).flatMap (CD jobs f l)++(CD jobs f l (jobs.getD i 0)++(jobs.drop (i+1)).flatMap (CD jobs f l)))):=by
  rw [<-List.append_assoc (List.flatMap _ _),<-Xo hi,<-List.flatMap_append,List.take_append_drop];exact w
 exact (a.right.right).left
theorem Bw.head{all pre:List (List Int)}{jobs:List Int}{f:Nat}{l:List Int}(w:Bw all pre (BG jobs f l)):Bw all pre [l]:=by
 rw [Fm] at w;exact Bw.left (a:=[l]) w
section
variable {jobs l:List Int} {f f' i:Nat} {k:Int} {all pre:List (List Int)}
theorem Xp(hk:k ∈ jobs)(h:Hq l k=false)(hu:Ls jobs l<=f):∃f',f=f'+1:=⟨f-1,by have:=OR hk h;omega⟩
theorem MZ(hf:f=f'+1)(h:Hq l k=false):CD jobs f l k=BG jobs f' (l++[k]):=by
 subst hf;exact aX (by rw [h];simp)
theorem SG(h:Hq l k=true):CD jobs f l k=[]:=by
 cases f with
 | zero=>rfl
 | succ f=>exact aY h
theorem SH(hi:i<jobs.length)(h:Hq l (jobs.getD i 0)=true):pre++[l]++(jobs.take (i+1)).flatMap (CD jobs f l)=pre++[l]++(jobs.take i).flatMap (CD jobs f l):=by
 rw [Xo hi,SG h,List.append_nil]
theorem Ue(hi:i<jobs.length)(hf:f=f'+1)(h:Hq l (jobs.getD i 0)=false):pre++[l]++(jobs.take (i+1)).flatMap (CD jobs f l)=(pre++[l]++(jobs.take i).flatMap (CD jobs f l))++BG jobs f' (l++[jobs.getD i 0]):=by
 rw [Xo hi,MZ hf h,<-List.append_assoc]
theorem roundsEnd(hi:jobs.length<=i):pre++BG jobs f l=pre++[l]++(jobs.take i).flatMap (CD jobs f l):=by
 rw [List.take_of_length_le hi,Fm];simp
theorem Bw.go(w:Bw all pre (BG jobs f l))(hi:i<jobs.length)(hf:f=f'+1)(h:Hq l (jobs.getD i 0)=false):Bw all (pre++[l]++(jobs.take i).flatMap (CD jobs f l)) (BG jobs f' (l++[jobs.getD i 0])):=by
 have z:=w.job hi
 rwa [MZ hf h] at z
end
end Go.Ns
namespace Go.Ns
open Go.Conc
theorem Hb.mem{h:Y}{l:List Sl}(a:Hb h l){x:Sl}(hx:x ∈ l):AG h x.1 1 eI x.2:=by
 obtain ⟨i,b,e⟩:=List.mem_iff_getElem.1 hx;have z:=a i;rw [List.getD_eq_getElem?_getD,List.getElem?_eq_getElem b] at z;have c:AG h l[i].1 1 eI l[i].2:=z;rw [<-e];exact c
theorem Br.all{h:Y}{t:bA}{l:List Sl}(a:Br h t l):Hb h l:=λk=>(a k).1
theorem Br.drop1{h:Y}{t:bA}{l:List Sl}(a:Br h t l):Br h t (l.drop 1):=λk=>by
 rw [List.getD_eq_getElem?_getD,List.getElem?_drop,<-List.getD_eq_getElem?_getD];exact a (1+k)
theorem Xq{l:List Sl}{k:Nat}(h:k<l.length-1):(l.drop 1).getD k Sl.z ∈ l:=List.mem_of_mem_drop (BV (by rw [List.length_drop];exact h))
section
variable (G:List Int->Int) (l:List (List Int))
def DF:Nat->List Int×Int
 | 0=>(l.getD 0 [],G (l.getD 0 []))
 | k+1=>if G ((l.drop 1).getD k [])<(DF k).2 then ((l.drop 1).getD k [],G ((l.drop 1).getD k [])) else DF k
def Cw:List Int:=(DF G l (l.length-1)).1
end
section
variable {G:List Int->Int} {l:List Sl} {k:Nat}
theorem Xr(l:List Sl):(A5 l).length=l.length:=List.length_map _
theorem OS(hk:k<l.length-1):((A5 l).drop 1).getD k []=((l.drop 1).getD k Sl.z).2:=by
 have e:(A5 l).drop 1=A5 (l.drop 1):=by unfold A5;rw [List.map_drop]
 rw [e,F1 (by rw [List.length_drop];exact hk)]
theorem Ma(hk:k<l.length-1)(h:G ((l.drop 1).getD k Sl.z).2<(DF G (A5 l) k).2):DF G (A5 l) (k+1)=(((l.drop 1).getD k Sl.z).2,G ((l.drop 1).getD k Sl.z).2):=by
 rw [DF,OS hk,aY h]
theorem Mb(hk:k<l.length-1)(h:¬G ((l.drop 1).getD k Sl.z).2<(DF G (A5 l) k).2):DF G (A5 l) (k+1)=DF G (A5 l) k:=by
 rw [DF,OS hk,aX h]
theorem Vo(hk:k=l.length-1):Cw G (A5 l)=(DF G (A5 l) k).1:=by unfold Cw;rw [Xr,hk]
end
theorem OT{G:List Int->Int}{l:List (List Int)}:∀k,k<l.length->(DF G l k).1 ∈ l
 | 0,h=>BV h
 | k+1,h=>by
  unfold DF;split
  ·exact List.mem_of_mem_drop (BV (by rw [List.length_drop];omega))
  ·exact OT k U
theorem Xs{G:List Int->Int}{l:List (List Int)}(h:0<l.length):Cw G l ∈ l:=OT _ U
theorem QP:∀(n k:Nat),k<n->(CW n).getD k 0=(k:Int)
 | 0,k,h=>absurd h (Nat.not_lt_zero _)
 | n+1,k,h=>by
  have a:=Cq n;rw [CW,List.getD_eq_getElem?_getD];by_cases e:k<n
  ·rw [List.getElem?_append_left U,<-List.getD_eq_getElem?_getD];exact QP n k e
  ·have b:k=n:=U
   subst b;rw [List.getElem?_append_right U,a,Nat.sub_self];rfl
theorem QQ{n:Nat}{x:Int}(h:x ∈ CW n):0<=x/\x<n:=by
 obtain ⟨i,a,e⟩:=List.mem_iff_getElem.1 h;have b:=Cq n
 have:=QP n i U
 rw [List.getD_eq_getElem?_getD,List.getElem?_eq_getElem a,Option.getD_some,e] at this;omega
theorem KI{jobs:List Int}:∀(f:Nat)(l:List Int),(∀x ∈ l,x ∈ jobs)->∀r ∈ BG jobs f l,(∀x ∈ r,x ∈ jobs)/\r.length<=l.length+f
 | 0,l,h,r,hr=>by
  rw [BG,List.mem_singleton] at hr;subst hr;exact ⟨h,Nat.le_refl _⟩
 | f+1,l,h,r,hr=>by
  rw [BG,List.mem_cons] at hr;rcases hr with rfl | hr
  ·exact ⟨h,U⟩
  ·obtain ⟨k,a,hr⟩:=List.mem_flatMap.1 hr;split at hr
   ·cases hr
   ·have:=KI f (l++[k]) (λx hx=>by
     rcases List.mem_append.1 hx with hx | hx
     ·exact h x hx
     ·rw [List.mem_singleton.1 hx];exact a) r hr
    refine ⟨this.1,?_⟩;have e:=this.2;rw [List.length_append,List.length_singleton] at e;omega
theorem Uf{jobs r:List Int}(h:r ∈ DY jobs):(∀x ∈ r,x ∈ jobs)/\r.length<=jobs.length:=by
 have:=KI jobs.length [] (λx a=>by cases a) r h
 simpa using this
def Ug(nj:Nat)(l:List Int):Prop:=(∀k,k<l.length->0<=l.getD k 0/\l.getD k 0<nj)/\l.length<=4
theorem KJ{n:Nat}{jobs r:List Int}(hj:∀x ∈ jobs,0<=x/\x<(n:Int))(hl:jobs.length<=4)(h:r ∈ DY jobs):Ug n r:=by
 obtain ⟨a,c⟩:=Uf h;exact ⟨λk b=>hj _ (a _ (BV b)),U⟩
theorem KK{jobs:List Int}(hj:jobs.length<=4):∀(f:Nat)(l:List Int),f<=4->(BG jobs f l).length<=5 ^ f*1
 | 0,l,_=>Nat.le_refl _
 | f+1,l,d=>by
  have b:∀a:List Int,(a.flatMap λk=>if Hq l k=true then [] else BG jobs f (l++[k])).length<=a.length*5 ^ f:=by
   intro a
   induction a with
   | nil=>simp
   | cons j a c=>
    rw [List.flatMap_cons,List.length_append,List.length_cons,Nat.add_mul,Nat.one_mul,Nat.add_comm];refine Nat.add_le_add c ?_;split
    ·exact Nat.zero_le _
    ·have:=KK hj f (l++[j]) U;omega
  rw [BG,List.length_cons];have e:=b jobs;have g:jobs.length*5 ^ f<=4*5 ^ f:=Nat.mul_le_mul_right _ hj;have h:1<=5 ^ f:=Nat.one_le_pow _ _ aC;rw [Nat.pow_succ];omega
theorem Hr{jobs:List Int}(hj:jobs.length<=4):(DY jobs).length<=625:=by
 have h:=KK hj jobs.length [] hj;have a:5 ^ jobs.length<=5 ^ 4:=Nat.pow_le_pow_right aC hj;unfold DY;omega
end Go.Ns
namespace Go.Ns
open Go.Conc
section
variable {P:Program} {M:Type} {F:NL P M} {i:Option (Ck M)} {O:Nat->aZ} {ds:List Deferred} {h:Y} {Q:P2 M}
theorem trI_td{id:Nat}{l:List Oper}(n:Nat)(fl:Bool)(π:List Nat)(hm:P.follows .mixedOrders=true)
  (ok:Pn l (l.take n) 0 [] (λcls=>Po P F.N l n cls fl (dK π))=true) (x:TD (F.env i) l n fl h ds (λ_ _ _=>True) (λσ' h'=>GY F l.toArray (l.drop n) i σ' ds h' Q) (dK π) O h):Ow F (.region id l.toArray true) i O ds h Q:=by
 obtain ⟨cls,e⟩:=H9 ok;intro b k g m t c d o p q;exact Z1 (E:=F.env i) n cls fl (dK π) hm (λ_ _ _ _ _ y=>y) trivial e x c d p λσ' h' f r a=>f n b k g m r (λj=>aD) c d o a q
def JX(P:Program):Frame:={ (default:Frame) with fn:=P.funcs.size,defers:=[],mode:=.panicking [goexitEntry] }
theorem quit_bot:QuitsIn P 1 (G (JX P) []):=.inr ⟨rfl,{ G (JX P) [] with status:=.finished },λw=>by
 show unwind P false (JX P) [] none w=_;have a:(JX P).catches P=false:=by
  unfold Frame.catches
  have:P.funcs[(JX P).fn]? =none:=Array.getElem?_eq_none (Nat.le_refl _)
  rw [this];rfl
 have c:(JX P).defers=[]:=rfl;have b:(JX P).mode=.panicking [goexitEntry]:=rfl;unfold unwind;simp only [c,b,a]
 rfl,rfl⟩
theorem Vp{fn:Func}{f:FuncId}{args:Array aZ}{t:Array aZ}{ops:Array Oper}(hf:P.funcs[f]? =some fn)(hres:fn.results=#[]):QuitsIn P 4 (G (Cd (Frame.enter P f args .deferred) t [] [.inRegion ops []]) [JX P]):=by
 refine .inr ⟨rfl,G (Cd (Frame.enter P f args .deferred) t [] []) [JX P],λw=>by rw [A6];simp [stepG.exec,Cd,G],?_⟩;refine .inr ⟨rfl,G (Er (Frame.enter P f args .deferred) t [] []) [JX P],λw=>by rw [A6];simp [stepG.exec,Cd,Er,G,Frame.enter],?_⟩;refine .inr ⟨rfl,G (JX P) [],λw=>?_,quit_bot⟩;show unwind P false (Er (Frame.enter P f args .deferred) t [] []) [JX P] none w=_;have a:(Er (Frame.enter P f args .deferred) t [] []).fn=f:=rfl;have c:(Er (Frame.enter P f args .deferred) t [] []).kind=.deferred:=rfl;have b:(Er (Frame.enter P f args .deferred) t [] []).mode=.returning:=rfl;have d:(Er (Frame.enter P f args .deferred) t [] []).defers=[]:=rfl;have e:∀t,(results fn t).runT P w #[]=(.ok (.tuple #[]) w,#[]):=λt=>by
  unfold results;rw [hres];simp only [Array.mapM_empty];rfl
 unfold unwind;simp only [d,b,a,hf,e,GStep.after,doReturn,c,seen_none];rfl
def JY(F:NL P M)(R:Code)(args:Array aZ)(i:Option (Ck M))(O:Nat->aZ)(h:Y):Prop:=∀t,BT t F.N O->(F.wk i).K (G (Cd (Frame.enter P F.fn args .deferred) t [] [.code R]) [JX P]) h
theorem NU{fn:Func}{c R:Code}{s:Ck M}{ars cap args:Array aZ}(hm:F.main=false)(hrd:F.rd=none)(ha:ars++cap=args)(hf:P.funcs[F.fn]? =some fn)(hc:AK fn=true)(hb:fn.body=some (.seq c R))(hN:F.N=fn.ntmps)(hsz:args.size<=fn.ntmps)(hs:¬s.isDone)
  (x:Ow F c (some s) (λi=>args.getD i undef) [] h λi e O ds h=>e=.normal/\ds=[]/\JY F R args i O h):Fb P F.Rep F.W.K s false (born P { target:=.fn (.func F.fn) cap,args:=ars }) h:=by
 have a:∀s,(F.wk (some s)).K=ET P false (Ij P F.Rep F.W.K s false):=λs=>by show ET P F.main (Ij P F.Rep F.W.K s F.main)=_;rw [hm]
 rw [HC hs];refine MC _ _ _ _ rfl λw f=>⟨G (Frame.enter P F.fn args .deferred) [JX P],w,#[],h,?_,Bf.refl f,?_⟩
 ·subst ha;have b:(invoke (.fn (.func F.fn) cap) ars).runT P w #[]=(.ok (.enter F.fn (ars++cap)) w,#[]):=UT hf hc w;show callDeferred P (JX P) [] none { target:=.fn (.func F.fn) cap,args:=ars } w=_;unfold callDeferred;rw [aX aD];simp only [b,seen_none];rfl
 have g:Frame.enter P F.fn args .deferred=Cd (Frame.enter P F.fn args .deferred) (args++Array.replicate (fn.ntmps-args.size) undef) [] [.code (.seq c R)]:=by simp [Frame.enter,Cd,hf,hb]
 rw [g,<-a s];refine Wk.go (Cd (Frame.enter P F.fn args .deferred) (args++Array.replicate (fn.ntmps-args.size) undef) [] (.code c ::.code R ::[])) (λw=>by rw [A6];simp [stepG.exec,Cd,G]) ?_;refine x (Frame.enter P F.fn args .deferred) [.code R] [JX P] (λ_ _ _ _ _=>False) _ rfl hrd.symm (λi=>⟨λ_ _ _ q=>q.elim,λ_ _ _ _ q=>q.elim,λ_ _ _ _ _ _ q=>q.elim⟩) ⟨by rw [hN];simp;omega,λi=>?_⟩ ?_
 ·by_cases b:i<args.size
  ·simp [Array.getD_eq_getD_getElem?,Array.getElem?_append_left b]
  ·simp only [Array.getD_eq_getD_getElem?];rw [Array.getElem?_append_right U,Array.getElem?_eq_none (show args.size<=i by omega),Array.getElem?_replicate];split <;> rfl
 ·rintro i e O ds k ⟨rfl,rfl,z⟩ j d;exact z j d
theorem last_send{fn:Func}{id:Nat}{o1 o2:Oper}{args:Array aZ}{c:Nat}{m:M}{v z:aZ}{hm:Y}{h1:Y}(hmn:F.main=false)(hrd:F.rd=none)(hf:P.funcs[F.fn]? =some fn)(hres:fn.results=#[])
  (hg1:o1.guard=none) (hd1:Cy o1.dst F.N=true) (hg2:o2.guard=none) (hdf1:C2 o1.op=false) (hdf:C2 o2.op=false) (hd2:Cy o2.dst F.N=true)
  (x:BR (F.env (some (.send c m .done))) o1 O [] h λσ' ds' h'=>ds'=[]/\(∀w,(execOp (AN σ') o2).runT P w #[]=(.ok (.comm #[scase c v z] true .send) w,#[]))/\Y.Split h' h1 hm/\F.Rep c m v hm) :
  JY F (.region id [o1,o2].toArray false) args (some (.send c m .done)) O h:=by
 intro t e;refine Wk.go (Cd (Frame.enter P F.fn args .deferred) t [] (.inRegion [o1,o2].toArray [0,1] ::[])) (λw=>by rw [A6];simp [stepG.exec,Cd,G,List.range_eq_range',Array.range];rfl) ?_;refine Kg (E:=F.env (some (.send c m .done))) (o:=o1) (rest:=[1]) rfl (by simp [Region.wanted,hg1]) (.inr hdf1) hd1 e x ?_;rintro σ' ds' h' ⟨rfl,f,b,a⟩ g d;refine ET.stop ⟨_,[JX P],v,z,hm,h1,rfl,⟨λw j=>?_,b,a,4,?_⟩⟩
 ·rw [hmn];exact UR d rfl (by simp [Region.wanted,hg2]) (.inr hdf) (f w)
 ·rw [C3 (ops:=[o1,o2].toArray) (i:=1) (o:=o2) rfl];exact Vp hf hres
theorem run_close{dst:Option Nat}{x:Operand}{tys:Array bA}{ty:bA}{pos:String}{af:Array Edge}{gd:Option (Nat×Bool)}{ch s r:Nat}{w:World}(hx:AN O x=.chan (some ch))(hw:w.heap[ch]? =some (.chan 0 #[] false s r false)) :
  (execOp (AN O) ⟨dst,.call ⟨.builtin .close,#[x],tys⟩,ty,pos,af,gd⟩).runT P w #[]=(.ok (.value (.tuple #[])) { w with heap:=w.heap.setIfInBounds ch (.chan 0 #[] true s r false) },#[⟨.obj ch,false,true⟩,⟨.obj ch,true,true⟩]):=by
 have q:execOp (AN O) ⟨dst,.call ⟨.builtin .close,#[x],tys⟩,ty,pos,af,gd⟩=builtin .close tys ty (#[x].map fun | .const _=>true | _=>false) (#[x].map (AN O)):=by
  show (resolve (AN O) _ ty).bind _=_;unfold resolve;rfl
 have e:(#[x].map (AN O))=#[Value.chan (some ch)]:=by simp [hx]
 rw [q,e];show Sem.runT P (.getObj ch λo=>_) w #[]=_;unfold Sem.runT;rw [hw];show Sem.runT P (.setObj ch (.chan 0 #[] true s r false) _) w _=_;unfold Sem.runT;rw [hw];rfl
theorem QR{fn:Func}{id:Nat}{o1:Oper}{dst:Option Nat}{xo:Operand}{tys:Array bA}{ty:bA}{pos:String}{af:Array Edge}{args:Array aZ}{c:Nat}(hmn:F.main=false)(hf:P.funcs[F.fn]? =some fn)(hres:fn.results=#[])
  (hg1:o1.guard=none) (hd1:Cy o1.dst F.N=true) (hdf1:C2 o1.op=false)
  (x:BR (F.env (some (.close c .done))) o1 O [] h λσ' ds' _=>ds'=[]/\AN σ' xo=.chan (some c)) :
  JY F (.region id [o1,⟨dst,.call ⟨.builtin .close,#[xo],tys⟩,ty,pos,af,none⟩].toArray false) args (some (.close c .done)) O h:=by
 intro t d;refine Wk.go (Cd (Frame.enter P F.fn args .deferred) t [] (.inRegion [o1,⟨dst,.call ⟨.builtin .close,#[xo],tys⟩,ty,pos,af,none⟩].toArray [0,1] ::[])) (λw=>by rw [A6];simp [stepG.exec,Cd,G,List.range_eq_range',Array.range];rfl) ?_;refine Kg (E:=F.env (some (.close c .done))) (o:=o1) (rest:=[1]) rfl (by simp [Region.wanted,hg1]) (.inr hdf1) hd1 d x ?_;rintro σ' ds' j ⟨rfl,e⟩ b a;refine ET.stop ⟨_,[JX P],Cd (Frame.enter P F.fn args .deferred) (W9 b dst (.tuple #[])) [] [.inRegion [o1,⟨dst,.call ⟨.builtin .close,#[xo],tys⟩,ty,pos,af,none⟩].toArray []],[JX P],rfl,⟨λw s r k f=>?_,rfl,4,Vp hf hres⟩⟩;rw [hmn,P3 a (ops:=[o1,⟨dst,.call ⟨.builtin .close,#[xo],tys⟩,ty,pos,af,none⟩].toArray) (n:=1) (o:=⟨dst,.call ⟨.builtin .close,#[xo],tys⟩,ty,pos,af,none⟩) rfl (by simp [Region.wanted]) (.inr rfl)];simp only [stepG.apply,run_close e f,if_true];have g:((Cd (Frame.enter P F.fn args .deferred) b [] [.inRegion [o1,⟨dst,.call ⟨.builtin .close,#[xo],tys⟩,ty,pos,af,none⟩].toArray [1]]).kind==CallKind.early)=false:=rfl;rw [C3 (ops:=[o1,⟨dst,.call ⟨.builtin .close,#[xo],tys⟩,ty,pos,af,none⟩].toArray) (i:=1) rfl];simp only [g,Bool.false_eq_true,if_false];show GStep.go _ _ (seen P _ _++ #[])=_;rw [XU];rfl
end
end Go.Ns
namespace Go.Ns
open Go.Conc
theorem Br.at{h:Y}{t:bA}{l:List Sl}(a:Br h t l){x:Sl}(hx:x ∈ l):B7 h t x.1 x.2:=by
 obtain ⟨i,b,e⟩:=List.mem_iff_getElem.1 hx;have z:=a i;rw [List.getD_eq_getElem?_getD,List.getElem?_eq_getElem b] at z;have c:B7 h t l[i].1 l[i].2:=z;rw [<-e];exact c
theorem Br.of{h:Y}{t:bA}{l:List Sl}(a:∀x ∈ l,B7 h t x.1 x.2):Br h t l:=λk=>by
 by_cases b:k<l.length
 ·exact a _ (BV b)
 ·rw [Bl U];exact B7.nil _ _
theorem Br.grown{aQ:Type}{h h' h0:Y}{v v':aZ}{t t':bA}{n:Nat}{enc:aQ->Array aZ}{ys:List aQ}(g:Gc h h' v v')(o:AO h0 h v t' n enc ys)(ne:t'≠t){l:List Sl}(x:Br h t l):Br h' t l:=λk=>(x k).grown g o ne
theorem Br.store{h h':Y}{t t':bA}{l:List Sl}{r:Nat}{p:Bool}{c:Array aZ}{f:Nat×Nat}(x:Br h t l)(hr:h r=some (p,.cells c t' f))(ne:t'≠t)(ho:∀b,b≠r->h' b=h b):Br h' t l:=λk=>(x k).store hr ne ho
theorem B7.storeL{h h':Y}{t:bA}{w:aZ}{xs:List Int}{r:Nat}{p:Bool}{lo:Loop}(x:B7 h t w xs)(hr:h r=some (p,.loop lo))(ho:∀b,b≠r->h' b=h b):B7 h' t w xs:=
 x.same λb a=>ho b λe=>by
  obtain ⟨c,d,f2,q⟩:=x.2 b a;rw [e,hr] at q;cases q
def TC(hB:Y)(r:Nat)(T t t0:bA)(F:List Int->Bool)(pre:List (List Int))(aO:Nat->Prop)(h:Y):Prop:=
 ∃w l',h r=some (true,.cells #[w] T (0,0))/\AO hB h w t 1 Jx l'/\BD w r/\hB r=none/\A5 l'=pre.filter F/\Br h t0 l'/\∀b,aO b↔b=r\/CS w=some b\/∃x ∈ l',CS x.1=some b
section
variable {hB h h' ha hb:Y} {r:Nat} {T t t0:bA} {F:List Int->Bool} {pre:List (List Int)} {p:List Int} {w w' v:aZ} {aO:Nat->Prop} {l':List Sl}
theorem QS(hB:Y)(r:Nat)(T t t0:bA)(F:List Int->Bool):Fh hB (TC hB r T t t0 F):=by
 refine ⟨?_,?_⟩
 ·rintro pre aO h b ⟨w,l',e,g,k,l,m,i,a⟩ hb;rcases (a b).1 hb with rfl | h7 | ⟨x,d,h7⟩
  ·exact ⟨_,_,e,rfl⟩
  ·obtain ⟨c,j⟩:=g.cellsAt b h7;exact ⟨_,_,j,rfl⟩
  ·obtain ⟨q,c,f,j⟩:=(i.at d).2 b h7;exact ⟨_,_,j,rfl⟩
 ·rintro pre aO h h' ⟨w,l',e,g,k,l,m,i,a⟩ same s;refine ⟨w,l',by rw [same r ((a r).2 (.inl rfl))];exact e,g.keep λb o hb n=>by rw [same b ((a b).2 (.inr (.inl hb)))];exact n,k,l,m,.of λx d=>(i.at d).same λb hb=>same b ((a b).2 (.inr (.inr ⟨x,d,hb⟩))),a⟩
theorem OU(x:h r=some (true,.cells #[.slice none 0 0] T (0,0)))(h0:hB r=none):TC hB r T t t0 F [] (λb=>b=r) h:=
 ⟨_,[],x,AO.nil _ _ _ _ _,BD.nil,h0,rfl,Br.nil _ _,λ_=>⟨.inl,λq=>q.elim id λe=>e.elim (λe=>by cases e) λ⟨_,e,_⟩=>by cases e⟩⟩
theorem TE(hY:∀b,aO b↔b=r\/CS w=some b\/∃x ∈ l',CS x.1=some b)(g:Gc ha hb w w')(hn:∀q,ha q=none->h q=none)(x:h' r=some (true,.cells #[w'] T (0,0)))(o:AO hB h' w' t 1 Jx (l'++[(v,p)]))(f:BD w' r)(h0:hB r=none)
  (hl:A5 l'=pre.filter F) (hp:F p=true) (ta:Br h' t0 (l'++[(v,p)])):∃Y',(∀b,Y' b->(aO b\/CS v=some b)\/h b=none)/\TC hB r T t t0 F (pre++[p]) Y' h':=by
 refine ⟨λb=>b=r\/CS w'=some b\/∃x ∈ l'++[(v,p)],CS x.1=some b,?_,w',_,x,o,f,h0,?_,ta,λ_=>Iff.rfl⟩
 ·rintro b (rfl | hb | ⟨y,hy,hb⟩)
  ·exact .inl (.inl ((hY _).2 (.inl rfl)))
  ·rcases g.2 with e | ⟨⟨q,a,c⟩,_⟩
   ·exact .inl (.inl ((hY _).2 (.inr (.inl (by rw [<-e];exact hb)))))
   ·rw [a] at hb;cases hb;exact .inr (hn _ c)
  ·rcases List.mem_append.1 hy with hy | hy
   ·exact .inl (.inl ((hY _).2 (.inr (.inr ⟨y,hy,hb⟩))))
   ·rw [List.mem_singleton.1 hy] at hb;exact .inl (.inr hb)
 ·rw [NT,hl,List.filter_append];simp [A5,hp]
theorem Xu(hY:∀b,aO b↔b=r\/CS w=some b\/∃x ∈ l',CS x.1=some b)(x:h' r=some (true,.cells #[w] T (0,0)))(o:AO hB h' w t 1 Jx l')(f:BD w r)(h0:hB r=none)(hl:A5 l'=pre.filter F)(hp:F p=false)(ta:Br h' t0 l') :
  ∃Y',(∀b,Y' b->(aO b\/CS v=some b)\/h b=none)/\TC hB r T t t0 F (pre++[p]) Y' h':=
 ⟨aO,λ_ q=>.inl (.inl q),w,l',x,o,f,h0,by rw [hl,List.filter_append];simp [hp],ta,hY⟩
end
def tVal:Dw->aZ
 | .job i=>.int .i64 i
 | .res i b=>.agg #[.int .i64 i,.bool b]
 | .tick=>.bool true
def tOK(n:Nat):Dw->Prop
 | .job i=>i<n
 | .res i _=>i<n
 | .tick=>True
def Oz(n:Nat):Nat->Dw->aZ->Y->Prop:=λ_ m v hm=>v=tVal m/\tOK n m/\hm=λ_=>none
theorem Y.split_none(h:Y):Y.Split h h (λ_=>none) where
 left:=λb p o a=>⟨p,a,id⟩
 right:=λb p o a=>by cases a
 one:=λ_ _ _ _ a=>by cases a
 two:=λ_ _ _ a _=>by cases a
section
variable {cj co cd n k:Nat} {ok:Nat->Bool}
theorem feed_some(h:k<n):some (Hc cj (n-k) k)=some (.send cj (.job k) (Hc cj (n-(k+1)) (k+1))):=by
 rw [show n-k=(n-(k+1))+1 by omega];rfl
theorem feed_end(h:n<=k):some (Hc cj (n-k) k)=some (.close cj .done):=by rw [show n-k=0 by omega];rfl
theorem Vq:∀m k,¬(Hc cj m k).isDone
 | 0,_=>id
 | _+1,_=>id
theorem Vr:∀m,¬(Fj cj co cd ok m).isDone
 | 0=>id
 | _+1=>id
theorem workF_not{m:Nat}:∀o,¬(Vb co cd ok (Fj cj co cd ok m) o).isDone
 | none=>id
 | some (.job _)=>id
 | some (.res _ _)=>id
 | some .tick=>id
theorem TF:∀t,¬(EO co cd t).isDone
 | 0=>id
 | _+1=>id
theorem Xv{t:Nat}:∀o,¬(NM (EO co cd t) o).isDone
 | none=>id
 | some (.job _)=>id
 | some (.res _ _)=>id
 | some .tick=>TF t
theorem Vs:∀m R,¬(Fk co ok m R).isDone
 | 0,_=>id
 | _+1,_=>id
theorem AAD{c:Prop}[Decidable c]{a b:Ck Dw}(ha:¬a.isDone)(hb:¬b.isDone):¬(if c then a else b).isDone:=by split <;> assumption
theorem mainF_not{m:Nat}{R:List Nat}:∀o,¬(IY ok R (Fk co ok m) o).isDone
 | none=>AAD id id
 | some (.job _)=>id
 | some .tick=>id
 | some (.res _ _)=>AAD (Vs _ _) id
theorem Vt:∀m,¬(IG cj co cd n ok m).isDone
 | 0=>id
 | _+1=>id
theorem Xw(h:k<3):some (EO co cd (3-k))=some (.recv cd (NM (EO co cd (3-(k+1))))):=by
 rw [show 3-k=(3-(k+1))+1 by omega];rfl
theorem close_end(h:3<=k):some (EO co cd (3-k))=some (.close co .done):=by rw [show 3-k=0 by omega];rfl
theorem crew_some(h:k<3):some (IG cj co cd n ok (3-k))=some (.spawn (Fj cj co cd ok (n+1)) (IG cj co cd n ok (3-(k+1)))):=by
 rw [show 3-k=(3-(k+1))+1 by omega];rfl
theorem crew_end(h:3<=k):some (IG cj co cd n ok (3-k))=some (.spawn (EO co cd 3) (Fk co ok (n+1) (List.range n))):=by rw [show 3-k=0 by omega];rfl
end
def Uh(n:Nat)(ok:Nat->Bool)(R:List Nat):List Bool:=(List.range n).map λi=>if i ∈ R then false else ok i
theorem AAE(n:Nat)(ok:Nat->Bool)(R:List Nat):(Uh n ok R).length=n:=by unfold Uh;rw [List.length_map,List.length_range]
theorem isL_start(n:Nat)(ok:Nat->Bool):Uh n ok (List.range n)=List.replicate n false:=by
 unfold Uh;refine List.ext_getElem aD λi a b=>?_
 have:i<n:=by simpa using a
 simp [this]
theorem isL_put{n i:Nat}{ok:Nat->Bool}{R:List Nat}(hR:R.Nodup):(Uh n ok R).set i (ok i)=Uh n ok (R.erase i):=by
 unfold Uh;refine List.ext_getElem aD λj a b=>?_;rw [List.getElem_set];simp only [List.getElem_map,List.getElem_range,List.Nodup.mem_erase_iff hR];by_cases e:i=j
 ·subst e;simp
 ·rw [aX e]
  have:j≠i:=λq=>e q.symm
  simp [this]
theorem AAF{n:Nat}{ok:Nat->Bool}{k:Nat}(hk:k<n):(Uh n ok []).getD k false=ok k:=by
 unfold Uh;rw [List.getD_eq_getElem?_getD,List.getElem?_map,List.getElem?_range hk];simp
def JZ(fl:List Sl)(ok:Nat->Bool):Nat->List Sl
 | 0=>[]
 | k+1=>if ok k=true then JZ fl ok k++[fl.getD k Sl.z] else JZ fl ok k
theorem selS_t{fl:List Sl}{ok:Nat->Bool}{k:Nat}(h:ok k=true):JZ fl ok (k+1)=JZ fl ok k++[fl.getD k Sl.z]:=aY h
theorem selS_f{fl:List Sl}{ok:Nat->Bool}{k:Nat}(h:ok k=false):JZ fl ok (k+1)=JZ fl ok k:=aX (by rw [h];simp)
theorem Vu(fl:List Sl)(ok:Nat->Bool):∀k,(JZ fl ok k).length<=k
 | 0=>Nat.le_refl _
 | k+1=>by
  have:=Vu fl ok k
  unfold JZ;split
  ·rw [List.length_append,List.length_singleton];omega
  ·omega
theorem QT{fl:List Sl}{G:List Int->Bool}:∀k,k<=fl.length->A5 (JZ fl (λi=>G (fl.getD i Sl.z).2) k)=((A5 fl).take k).filter G
 | 0,_=>rfl
 | k+1,h=>by
  have a:=QT (fl:=fl) (G:=G) k U;have e:(A5 fl).take (k+1)=(A5 fl).take k++[(fl.getD k Sl.z).2]:=by rw [Em [] (by rw [B5];omega),F1 (l:=fl) U]
  unfold JZ;rw [e,List.filter_append];by_cases q:G (fl.getD k Sl.z).2=true
  ·rw [aY q,NT,a,List.filter_cons_of_pos q];rfl
  ·rw [aX q,a,List.filter_cons_of_neg q,List.filter_nil,List.append_nil]
end Go.Ns
namespace Go.Ns
open Go.Conc
section
variable {P:Program} {M:Type} {F:NL P M} {i i':Option (Ck M)} {O:Nat->aZ} {ds:List Deferred} {h:Y} {Q:P2 M}
theorem trI_ix{c:Code}(e:i=i')(x:Ow F c i' O ds h Q):Ow F c i O ds h Q:=e▸x
theorem Ja{ops:Array Oper}{l:List Oper}(e:i=i')(x:GY F ops l i' O ds h Q):GY F ops l i O ds h Q:=e▸x
theorem tr_of_trI{c:Code}{Q:Post}(x:Ow F c none O ds h λi e O ds h=>i=none/\Q e O ds h):Tr ⟨F.W,F.fn,F.rd,F.N⟩ c O ds h Q:=by
 intro b k f g t j l m n o;refine x b k f (λi=>match i with | none=>g | some _=>λ_ _ _ _=>False) t j l (λi=>?_) n λi e σ' a p q r d=>?_
 ·cases i with
  | none=>exact m
  | some s=>exact ⟨λ_ _ _ x=>x.elim,λ_ _ _ _ x=>x.elim,λ_ _ _ _ _ _ x=>x.elim⟩
 ·obtain ⟨rfl,q⟩:=q;exact o e σ' a p q r d
theorem trI_end{c:Code}{Q:Post}(x:Tr (F.env none) c O ds h Q):Ow F c none O ds h λi e O ds h=>i=none/\Q e O ds h:=
 I5 (Kf (λ_ _ _ _ q=>⟨rfl,q⟩) x)
variable {dst:Option Nat} {ty:bA} {pos:String} {af:Array Edge} {gd:Option (Nat×Bool)}
theorem QU{a x:Operand}{c:Nat}{v:aZ}(ha:AN O a=.chan (some c))(hx:AN O x=v)(w:World):(execOp (AN O) ⟨dst,.send a x,ty,pos,af,gd⟩).runT P w #[]=(.ok (.comm #[scase c v (.tuple #[])] true .send) w,#[]):=by
 subst hx;show (Result.ok (Next.comm #[{ chan:=AN O a,send:=some (AN O x),zero:=.tuple #[] }] true .send) w,#[])=_;rw [ha];rfl
theorem run_recv{a:Operand}{c:Nat}{t e:bA}{d:ChanDir}{ok:Bool}{z:aZ}{inf:TypeInfo}(ht:P.underlying t=some (.chan d e))(hi:P.info? e=some inf)(hz:inf.zero=some z)(ha:AN O a=.chan (some c))(w:World) :
  (execOp (AN O) ⟨dst,.recv t a ok,ty,pos,af,gd⟩).runT P w #[]=(.ok (.comm #[rcase c z] true (.recv ok)) w,#[]):=by
 have b:(zeroValue e).run P w=.ok z w:=by
  unfold zeroValue typeInfo;simp only [Sem.run_bind,program,hi];simp [Sem.run,hi,hz]
 have f:(underlying t).run P w=.ok (.chan d e) w:=run_underlying ht w;rw [Sem.runT_eq];unfold execOp;simp [b,f,ha,rcase]
theorem NV{a:Operand}{c:Nat}{t e:bA}{d:ChanDir}{ok:Bool}{z:aZ}(ht:P.underlying t=some (.chan d e))(hz:(P.info? e).map (·.zero)=some (some z))(ha:AN O a=.chan (some c))(w:World) :
  (execOp (AN O) ⟨dst,.recv t a ok,ty,pos,af,gd⟩).runT P w #[]=(.ok (.comm #[rcase c z] true (.recv ok)) w,#[]):=by
 obtain ⟨b,f,g⟩:=Option.map_eq_some_iff.1 hz;exact run_recv ht f g ha w
theorem Xx{x:Operand}{f:Fn}{cap:Array aZ}{tys:Array bA}(hx:AN O x=.func f #[] cap)(w:World):(execOp (AN O) ⟨dst,.go ⟨.value x,#[],tys⟩,ty,pos,af,gd⟩).runT P w #[]=(.ok (.spawn { target:=.fn f cap,args:=#[] }) w,#[]):=by
 have e:resolve (AN O) ⟨.value x,#[],tys⟩ ty=(pure { target:=.fn f cap,args:=#[] }:Sem Deferred):=by
  unfold resolve;simp only [hx,Deferred.ofValue];simp
 unfold execOp;simp only [e];rfl
variable {E:Gb P} {T:(Nat->aZ)->List Deferred->Y->Prop}
theorem KL{t e:bA}{d:ChanDir}{n:Operand}(ht:P.underlying t=some (.chan d e))(hi0:(P.info? e).isSome=true)(hn:AN O n=.int .i64 0)
  (k:∀r h',h r=none->h.Le h'->h' r=some (true,.chan 0 #[] false 0 0 false)->(∀b,b≠r->h' b=h b)->T (putS O dst (.chan (some r))) ds h'):BR E ⟨dst,.makeChan t n,ty,pos,af,gd⟩ O ds h T:=by
 unfold BR execOp;refine Fg ?_;unfold Instr.makeChan;rw [hn];refine AE _ _ (Ak ?_);refine AE _ _ (Ai ht ?_);simp only [];obtain ⟨c,f⟩:=Option.isSome_iff_exists.1 hi0;refine AE _ _ (CU f ?_);rw [aX (by simp [IntKind.max];decide)];refine AE _ _ ?_;exact λr a=>k r _ a (Y.Le.new a _ _) (Y.set_same _ _ _ _) λb g=>Y.set_ne _ _ _ g
end
section
variable {P:Program} {F:NL P Dw} {i i':Option (Ck Dw)} {O:Nat->aZ} {ds:List Deferred} {h:Y} {Q:P2 Dw} {ops:Array Oper} {o:Oper} {l:List Oper} {n:Nat} {cj co cd c m k:Nat} {ok:Nat->Bool} {R:List Nat} {z:aZ}
theorem JY.ix{X:Code}{args:Array aZ}(e:i=i')(x:JY F X args i' O h):JY F X args i O h:=e▸x
theorem Hs:GY F ops l (some .never) O ds h Q:=λ_ _ _ _ _ _ _ _ _ _ _ _=>ET.stop rfl
theorem Y.join_none(h:Y):h.join (λ_=>none)=h:=by
 funext b;unfold Y.join;cases h b <;> rfl
theorem Vv{s:Dw}{nx:Ck Dw}(hR:F.Rep=Oz n)(hg:o.guard=none)(hdf:C2 o.op=false)(hd:Cy o.dst F.N=true)(hr:∀w,(execOp (AN O) o).runT P w #[]=(.ok (.comm #[scase c (tVal s) z] true .send) w,#[]))(hs:tOK n s)(hnx:¬nx.isDone)
  (x:GY F ops l (some nx) (putS O o.dst undef) ds h Q):GY F ops (o ::l) (some (.send c s nx)) O ds h Q:=
 trLI_send hg hdf hd hr (Y.split_none h) (by rw [hR];exact ⟨rfl,hs,rfl⟩) hnx x
theorem NW{f:Option Dw->Ck Dw}{r:Bool}(hR:F.Rep=Oz n)(hg:o.guard=none)(hdf:C2 o.op=false)(hd:Cy o.dst F.N=true)(hr:∀w,(execOp (AN O) o).runT P w #[]=(.ok (.comm #[rcase c z] true (.recv r)) w,#[]))(hnx:∀o,¬(f o).isDone)
  (x:∀s,tOK n s->GY F ops l (some (f (some s))) (putS O o.dst (recvd r (tVal s) true)) ds h Q) (y:GY F ops l (some (f none)) (putS O o.dst (recvd r z false)) ds h Q):GY F ops (o ::l) (some (.recv c f)) O ds h Q:=
 trLI_recv hg hdf hd hr hnx (λs v d a _=>by
  rw [hR] at a;obtain ⟨rfl,b,rfl⟩:=a;rw [Y.join_none];exact x s b) y
theorem Vw(hR:F.Rep=Oz n)(hg:o.guard=none)(hdf:C2 o.op=false)(hd:Cy o.dst F.N=true)(hr:∀w,(execOp (AN O) o).runT P w #[]=(.ok (.comm #[rcase cj z] true (.recv true)) w,#[]))
  (x:∀i,i<n->GY F ops l (some (.send co (.res i (ok i)) (Fj cj co cd ok m))) (putS O o.dst (.tuple #[.int .i64 i,.bool true])) ds h Q) (y:GY F ops l (some (.send cd .tick .done)) (putS O o.dst (.tuple #[z,.bool false])) ds h Q) :
  GY F ops (o ::l) (some (Fj cj co cd ok (m+1))) O ds h Q:=
 NW (f:=Vb co cd ok (Fj cj co cd ok m)) hR hg hdf hd hr workF_not (λs a=>by
  cases s with
  | job i=>exact x i a
  | res i b=>exact Hs
  | tick=>exact Hs) y
theorem Vx(hR:F.Rep=Oz n)(hg:o.guard=none)(hdf:C2 o.op=false)(hd:Cy o.dst F.N=true)(hr:∀w,(execOp (AN O) o).runT P w #[]=(.ok (.comm #[rcase cd z] true (.recv false)) w,#[]))(hk:k<3)
  (x:GY F ops l (some (EO co cd (3-(k+1)))) (putS O o.dst (.bool true)) ds h Q):GY F ops (o ::l) (some (EO co cd (3-k))) O ds h Q:=
 Ja (Xw hk) (NW (f:=NM (EO co cd (3-(k+1)))) hR hg hdf hd hr Xv (λs _=>by
  cases s with
  | job i=>exact Hs
  | res i b=>exact Hs
  | tick=>exact x) Hs)
theorem trLI_main(hR:F.Rep=Oz n)(hg:o.guard=none)(hdf:C2 o.op=false)(hd:Cy o.dst F.N=true)(hr:∀w,(execOp (AN O) o).runT P w #[]=(.ok (.comm #[rcase co z] true (.recv true)) w,#[]))
  (x:∀i,i<n->i ∈ R->GY F ops l (some (Fk co ok m (R.erase i))) (putS O o.dst (.tuple #[.agg #[.int .i64 i,.bool (ok i)],.bool true])) ds h Q) (y:R=[]->GY F ops l (some .stop) (putS O o.dst (.tuple #[z,.bool false])) ds h Q) :
  GY F ops (o ::l) (some (Fk co ok (m+1) R)) O ds h Q:=
 NW (f:=IY ok R (Fk co ok m)) hR hg hdf hd hr mainF_not (λs d=>by
  cases s with
  | job i=>exact Hs
  | tick=>exact Hs
  | res i b=>
   by_cases e:i ∈ R/\b=ok i
   ·obtain ⟨a,rfl⟩:=e;exact Ja (show some (IY ok R (Fk co ok m) (some (.res i (ok i))))=some (Fk co ok m (R.erase i)) by unfold IY;simp [a]) (x i d a)
   ·exact Ja (show some (IY ok R (Fk co ok m) (some (.res i b)))=some .never by show some (if i ∈ R/\b=ok i then _ else _)=_;rw [aX e]) Hs) (by
  by_cases e:R=[]
  ·exact Ja (show some (IY ok R (Fk co ok m) none)=some .stop by unfold IY;rw [aY e]) (y e)
  ·exact Ja (show some (IY ok R (Fk co ok m) none)=some .never by unfold IY;rw [aX e]) Hs)
end
theorem CV.flags{h h':Y}{js:List AM}(s:h.Same h')(x:CV h js):CV h' js:=λk=>(x k).flags s
theorem Au.flags{h h':Y}{ns:List AL}(s:h.Same h')(x:Au h ns):Au h' ns:=λk=>(x k).flags s
theorem Hb.flags{h h':Y}{l:List Sl}(s:h.Same h')(a:Hb h l):Hb h' l:=λk=>(a k).flags s
theorem EP.flags{h h':Y}{r np:Nat}{ws:List AF}{pq:List AI}(s:h.Same h')(x:EP h r np ws pq):EP h' r np ws pq:=by
 obtain ⟨i,M,⟨c,a,d,e⟩,f⟩:=x;obtain ⟨g,b⟩:=s _ _ _ d;exact ⟨g,M,⟨c,a,b,e⟩,f⟩
theorem tr_lays5{P:Program}{E:Gb P}{id:Nat}{a0 a1 a2 a3 a4:Oper}{rest:List Oper}{d0 d1 d2 d3:Nat}{O:Nat->aZ}{ds:List Deferred}{h:Y}{Q:Post}(o0 o1 o2 o3:Obj)(o4:Nat->Obj)(v0 v1 v2 v3:Nat->aZ)(hm:P.follows .mixedOrders=true)
  (ok:GJ E.N (a0 ::a1 ::a2 ::a3 ::a4 ::rest) 5 [[],[],[],[],[0,2,3]]=true)
  (g0:a0.guard=none) (g1:a1.guard=none) (g2:a2.guard=none) (g3:a3.guard=none) (g4:a4.guard=none) (e0:a0.dst=some d0) (e1:a1.dst=some d1) (e2:a2.dst=some d2) (e3:a3.dst=some d3)
  (l0:∀σ' h',BR E a0 σ' ds h' λσ'' ds'' h''=>ds''=ds/\∃r,σ''=putS σ' a0.dst (v0 r)/\h' r=none/\h'.Le h''/\h'' r=some (true,o0)) (l1:∀σ' h',BR E a1 σ' ds h' λσ'' ds'' h''=>ds''=ds/\∃r,σ''=putS σ' a1.dst (v1 r)/\h' r=none/\h'.Le h''/\h'' r=some (true,o1))
  (l2:∀σ' h',BR E a2 σ' ds h' λσ'' ds'' h''=>ds''=ds/\∃r,σ''=putS σ' a2.dst (v2 r)/\h' r=none/\h'.Le h''/\h'' r=some (true,o2)) (l3:∀σ' h',BR E a3 σ' ds h' λσ'' ds'' h''=>ds''=ds/\∃r,σ''=putS σ' a3.dst (v3 r)/\h' r=none/\h'.Le h''/\h'' r=some (true,o3))
  (l4:∀r0 r2 σ' h',σ' d0=v0 r0->σ' d2=v2 r2->h' r2=some (true,o2)->BR E a4 σ' ds h' λσ'' ds'' h''=>ds''=ds/\σ''=σ'/\h'' r2=some (true,o4 r0)/\∀b,b≠r2->h'' b=h' b)
  (fin:∀(r0 r1 r2 r3:Nat) σ' h',h.Le h'->(h r0=none/\h' r0=some (true,o0)/\σ' d0=v0 r0)->(h r1=none/\h' r1=some (true,o1)/\σ' d1=v1 r1)->(h r2=none/\h' r2=some (true,o4 r0)/\σ' d2=v2 r2)->(h r3=none/\h' r3=some (true,o3)/\σ' d3=v3 r3)->
   (r0≠r1/\r0≠r2/\r0≠r3/\r1≠r2/\r1≠r3/\r2≠r3)->(∀t,(Dd (a0 ::a1 ::a2 ::a3 ::a4 ::rest) 5).contains t=false->σ' t=O t)->DK E (a0 ::a1 ::a2 ::a3 ::a4 ::rest).toArray rest σ' ds h' Q):Tr E (.region id (a0 ::a1 ::a2 ::a3 ::a4 ::rest).toArray true) O ds h Q:=by
 let l:=a0 ::a1 ::a2 ::a3 ::a4 ::rest;let I:Nat->Obj:=λi=>match i with | 0=>o0 | 1=>o1 | 2=>o2 | _=>o3
 let K:Nat->Nat->aZ:=λi=>match i with | 0=>v0 | 1=>v1 | 2=>v2 | _=>v3
 have lay:∀i o,i<4->l[i]? =some o->∀σ' h',BR E o σ' ds h' λσ'' ds'' h''=>ds''=ds/\∃r,σ''=putS σ' o.dst (K i r)/\h' r=none/\h'.Le h''/\h'' r=some (true,I i):=by
  intro i o M g σ' h';rcases i with _ | _ | _ | _ | i
  ·cases g;exact l0 σ' h'
  ·cases g;exact l1 σ' h'
  ·cases g;exact l2 σ' h'
  ·cases g;exact l3 σ' h'
  ·omega
 have nd:(Dd l 5).Nodup:=by
  have:=ok
  unfold GJ at this;simp only [Bool.and_eq_true] at this;exact of_decide_eq_true this.1.2
 refine VK 5 [[],[],[],[],[0,2,3]] (λD σ' h'=>h.Le h'/\(D 4=true->D 0=true/\D 2=true)/\∃c:Nat->Nat,(∀i,i<4->D i=true->h (c i)=none/\h' (c i)=some (true,if i=2/\D 4=true then o4 (c 0) else I i)/\∀o d,l[i]? =some o->o.dst=some d->σ' d=K i (c i))/\
  (∀i j,i<4->j<4->D i=true->D j=true->i≠j->c i≠c j)/\∀t,(Dd l 5).contains t=false->σ' t=O t) hm ok ⟨Y.Le.refl _,(λe=>by cases e),λ_=>0,(λ_ _ q=>by cases q),(λ_ _ _ _ q=>by cases q),λ_ _=>rfl⟩ ?_ ?_
 ·rintro D σ' h' i o ⟨n,u,c,s,R,h3⟩ M T g W _;have hgd:o.guard=none:=by
   rcases i with _ | _ | _ | _ | _ | i
   ·cases g;exact g0
   ·cases g;exact g1
   ·cases g;exact g2
   ·cases g;exact g3
   ·cases g;exact g4
   ·omega
  refine ⟨λ_=>?_,λq=>absurd (by unfold DQ;rw [hgd];trivial) q⟩;by_cases X:i=4
  ·subst X;have c0:D 0=true:=W 0 aD;have B:D 2=true:=W 2 aD;cases g;obtain ⟨q1,q2,q3⟩:=s 0 aC c0;obtain ⟨p1,p2,p3⟩:=s 2 aC B;rw [aX (λe=>by rw [T] at e;cases e.2)] at p2;refine (l4 (c 0) (c 2) σ' h' (q3 a0 d0 rfl e0) (p3 a2 d2 rfl e2) p2).mono λσ'' ds'' h'' q=>?_;obtain ⟨rfl,rfl,k1,k2⟩:=q;refine ⟨rfl,λb p x y=>?_,λ_=>⟨by rw [Bd aC];exact c0,by rw [Bd aC];exact B⟩,c,λj z f=>?_,λa b ha y m k v=>?_,h3⟩
   ·rw [k2 b λe=>by subst e;rw [p1] at y;cases y];exact n b p x y
   ·rw [Bd U] at f;obtain ⟨u1,u2,u3⟩:=s j z f;refine ⟨u1,?_,u3⟩;by_cases ej:j=2
    ·subst ej;rw [aY ⟨rfl,aY rfl⟩];exact k1
    ·rw [aX (λe=>ej e.1),k2 _ (R j 2 z aC f B ej)];rw [aX (λe=>ej e.1)] at u2;exact u2
   ·rw [Bd U] at m k;exact R a b ha y m k v
  ·have hi':i<4:=U
   refine (lay i o hi' g σ' h').mono λσ'' ds'' h'' q=>?_;obtain ⟨rfl,r,rfl,hr,C,hr2⟩:=q;have h4e:HX D i 4=D 4:=Bd (λe=>X e.symm);have hne:∀j,j<4->D j=true->c j≠r:=λj z f e=>by
    have:=(s j z f).2.1
    rw [e,hr] at this;cases this
   refine ⟨rfl,n.trans C,λe=>?_,λj=>if j=i then r else c j,λj z f=>?_,λa b ha y m k v=>?_,λt ht=>?_⟩
   ·rw [h4e] at e;obtain ⟨c0,B⟩:=u e;exact ⟨by rw [Bd (λq=>by subst q;rw [T] at c0;cases c0)];exact c0,by rw [Bd (λq=>by subst q;rw [T] at B;cases B)];exact B⟩
   ·by_cases e:j=i
    ·subst e;dsimp only;rw [aY rfl];refine ⟨n.nothing hr,?_,λo' d w hd=>?_⟩
     ·rw [aX (λe=>by have e2:=e.2;rw [h4e] at e2;have e3:=(u e2).2;rw [<-e.1,T] at e3;cases e3)];exact hr2
     ·obtain rfl:o'=o:=Option.some.inj (w.symm.trans g);rw [hd];exact upd_same _ _ _
    ·dsimp only;rw [aX e];rw [Bd e] at f;obtain ⟨q1,q2,q3⟩:=s j z f;refine ⟨q1,?_,λo' d w hd=>by rw [Cp λd' hd'=>EF nd M (U:j<5) (λq=>e q.symm) g w hd' hd];exact q3 o' d w hd⟩;rw [h4e];by_cases hc:j=2/\D 4=true
     ·rw [aY hc] at q2 ⊢;rw [aX (λq=>by have c0:=(u hc.2).1;rw [q,T] at c0;cases c0)];exact C.keep q2 rfl
     ·rw [aX hc] at q2 ⊢;exact C.keep q2 rfl
   ·show (if a=i then r else c a)≠(if b=i then r else c b);by_cases ea:a=i
    ·by_cases F:b=i
     ·exact absurd (ea.trans F.symm) v
     ·rw [aY ea,aX F];rw [Bd F] at k;exact (hne b y k).symm
    ·rw [Bd ea] at m;by_cases F:b=i
     ·rw [aX ea,aY F];exact hne a ha m
     ·rw [aX ea,aX F];rw [Bd F] at k;exact R a b ha y m k v
   ·rw [Cp (Hi M g ht)];exact h3 t ht
 ·rintro D σ' h' ⟨n,u,c,s,R,h3⟩ hall;have A:∀i,i<5->D i=true:=hall;have f0:=s 0 aC (A 0 aC);have f1:=s 1 aC (A 1 aC);have f2:=s 2 aC (A 2 aC);have f3:=s 3 aC (A 3 aC);rw [aX (λe=>by have:=e.1;omega)] at f0;rw [aX (λe=>by have:=e.1;omega)] at f1;rw [aY ⟨rfl,A 4 aC⟩] at f2;rw [aX (λe=>by have:=e.1;omega)] at f3;have H:=λi j (M:i<4) (z:j<4)=>R i j M z (A i U) (A j U);exact fin (c 0) (c 1) (c 2) (c 3) σ' h' n ⟨f0.1,f0.2.1,f0.2.2 a0 d0 rfl e0⟩ ⟨f1.1,f1.2.1,f1.2.2 a1 d1 rfl e1⟩ ⟨f2.1,f2.2.1,f2.2.2 a2 d2 rfl e2⟩ ⟨f3.1,f3.2.1,f3.2.2 a3 d3 rfl e3⟩
   ⟨H 0 1 aC aC aC,H 0 2 aC aC aC,H 0 3 aC aC aC,H 1 2 aC aC aC,H 1 3 aC aC aC,H 2 3 aC aC aC⟩ h3
section
variable {h h' h0:Y} {r:Nat}
theorem Y.cut_ne{b:Nat}(e:b≠r):h.cut r b=h b:=aX e
theorem Y.Le.cut(l:h0.Le h)(n:h0 r=none):h0.Le (h.cut r):=λb p o a=>by
 rw [Y.cut_ne λe=>by subst e;rw [n] at a;cases a];exact l b p o a
theorem AO.cut{aQ:Type}{v:aZ}{t:bA}{n:Nat}{enc:aQ->Array aZ}{xs:List aQ}(x:AO h0 h v t n enc xs)(f:BD v r):AO h0 (h.cut r) v t n enc xs:=
 x.keep λb o a c=>by rw [Y.cut_ne λe=>by subst e;exact f a];exact c
theorem AO.del'{aQ:Type}{v:aZ}{t:bA}{n:Nat}{enc:aQ->Array aZ}{xs:List aQ}(x:AO h0 h v t n enc xs)(f:BD v r):AO h0 (h.del r) v t n enc xs:=
 x.keep λb o a c=>by rw [Y.del_ne λe=>by subst e;exact f a];exact c
theorem B7.keep3{X:Nat->Prop}{t0 T t:bA}{n l:Nat}{w v:aZ}{p q:Bool}{c:Array aZ}{f:Nat×Nat}{lo:Loop}{ys:List Sl}{hB:Y}{ys':List Int}(x:B7 h t0 v ys')(k:BO X h h')(hX:∀b,X b->(b=r\/CS w=some b)\/b=l)(hr:h r=some (p,.cells c T f))(ow:AO hB h w t n Jx ys)(hl:h l=some (q,.loop lo))(n1:T≠t0)(n2:t≠t0):B7 h' t0 v ys':=
 x.keepX k λb a d=>by
  obtain ⟨j,m,f2,e⟩:=x.2 b a;rcases hX b d with (rfl | q3) | rfl
  ·rw [hr] at e;cases e;exact n1 rfl
  ·rcases ow with ⟨rfl,_⟩ | ⟨o,g,s,rfl,_,i,_⟩
   ·cases q3
   ·simp only [CS,Option.some.injEq] at q3;subst q3;rw [i] at e;cases e;exact n2 rfl
  ·rw [hl] at e;cases e
theorem BO.mono{X aO:Nat->Prop}(k:BO X h h')(s:∀b,X b->aO b):BO aO h h':=λb p o a c=>k b p o a λx=>c (s b x)
end
theorem rounds_ok{n:Nat}{fl:List Sl}(h:A5 fl=DY (CW n))(hn:n<=4)(i:Nat):Ug n (fl.getD i Sl.z).2:=by
 by_cases a:i<fl.length
 ·refine KJ (λx b=>QQ b) (by rw [Cq];exact hn) (r:=(fl.getD i Sl.z).2) ?_;rw [<-h,<-F1 a];exact BV (by rw [B5];exact a)
 ·rw [Bl U];exact ⟨λk c=>absurd c (Nat.not_lt_zero _),Nat.zero_le _⟩
theorem B7.storeD{h h':Y}{t:bA}{v:aZ}{xs:List Int}{r:Nat}{p:Bool}{q:Option (List Deferred)}(x:B7 h t v xs)(hr:h r=some (p,.deferred q))(ho:∀b,b≠r->h' b=h b):B7 h' t v xs:=
 x.same λb a=>ho b λe=>by
  obtain ⟨c,d,f2,z⟩:=x.2 b a;rw [e,hr] at z;cases z
theorem Br.storeD{h h':Y}{t:bA}{l:List Sl}{r:Nat}{p:Bool}{q:Option (List Deferred)}(x:Br h t l)(hr:h r=some (p,.deferred q))(ho:∀b,b≠r->h' b=h b):Br h' t l:=λk=>
 (x k).same λb a=>ho b λe=>by
  obtain ⟨c,d,f2,z⟩:=(x k).2 b a;rw [e,hr] at z;cases z
theorem selS_all{fl:List Sl}{G:List Int->Bool}{all:List (List Int)}{k:Nat}(h:A5 fl=all)(h1:k<=fl.length)(h2:fl.length<=k):A5 (JZ fl (λi=>G (fl.getD i Sl.z).2) k)=all.filter G:=by
 rw [QT k h1,List.take_of_length_le (by rw [B5];exact h2),h]
theorem Br.sel{h:Y}{t:bA}{fl:List Sl}{ok:Nat->Bool}{k:Nat}(a:Br h t fl):Br h t (JZ fl ok k):=by
 induction k with
 | zero=>exact Br.nil h t
 | succ k b=>
  unfold JZ;split
  ·exact Br.app b (Br.one (a k))
  ·exact b
end Go.Ns
namespace Go.Ns
theorem Ui{P:Program}{O:Nat->aZ}{h:Y}{fn:Func}{R:aZ->Y->Prop}{a u s:Tmp}{t:bA}{b off:Nat}{v v' v2:aZ}(hr:fn.results=#[.tmp u,.cell a t,.tmp s])(hv:O u=v)(ha:O a=.pointer (some ⟨b,off,none⟩))(hv':Rd P h t b off v')(hv2:O s=v2)(x:R (.tuple #[v,v',v2]) h):Gf P fn O R [] h:=by
 unfold Gf;rw [hr];subst hv;subst hv2;exact ⟨b,off,v',ha,hv',x⟩
section
variable (np:Nat) (ws:List AF) (js:List AM) (pq:List AI) (aS aR:Int)
def IJ:List (List Int):=(DY (CW js.length)).filter (λq=>CB np ws js pq q aS aR)
end
def PH(g:List (List Int))(x:List Int):List (List Int):=if 0<g.length/\(g.getD 0 []).length<x.length then [] else g
def PI(g:List (List Int))(x:List Int):List (List Int):=if g.length=0\/x.length=(g.getD 0 []).length then g++[x] else g
def Vy(g:List (List Int))(x:List Int):List (List Int):=PI (PH g x) x
def Uj(l:List (List Int)):Nat->List (List Int)
 | 0=>[]
 | k+1=>Vy (Uj l k) (l.getD k [])
def HK(g:List Sl)(x:Sl):List Sl:=if 0<g.length/\(g.getD 0 Sl.z).2.length<x.2.length then [] else g
def IK(g:List Sl)(x:Sl):List Sl:=if g.length=0\/x.2.length=(g.getD 0 Sl.z).2.length then g++[x] else g
def C9(g:List Sl)(x:Sl):List Sl:=IK (HK g x) x
def BC(l:List Sl):Nat->List Sl
 | 0=>[]
 | k+1=>C9 (BC l k) (l.getD k Sl.z)
section
variable {l g:List Sl} {x:Sl} {k:Nat}
theorem QV(h0:0<g.length)(h1:(g.getD 0 Sl.z).2.length<x.2.length):C9 g x=[x]:=by
 unfold C9 HK;rw [aY ⟨h0,h1⟩];rfl
theorem QW(h0:0<g.length)(h1:x.2.length=(g.getD 0 Sl.z).2.length):C9 g x=g++[x]:=by
 unfold C9 HK;rw [aX (λe=>by have:=e.2;omega)];unfold IK;rw [aY (.inr h1)]
theorem QX(h0:0<g.length)(h1:x.2.length<(g.getD 0 Sl.z).2.length):C9 g x=g:=by
 unfold C9 HK;rw [aX (λe=>by have:=e.2;omega)];unfold IK;rw [aX];rintro (e | e) <;> omega
theorem QY(h0:g.length=0):C9 g x=g++[x]:=by
 unfold C9 HK;rw [aX (λe=>by have:=e.1;omega)];unfold IK;rw [aY (.inl h0)]
theorem goodS_a(h0:0<(BC l k).length)(h1:((BC l k).getD 0 Sl.z).2.length<(l.getD k Sl.z).2.length):BC l (k+1)=[l.getD k Sl.z]:=QV h0 h1
theorem goodS_b(h0:0<(BC l k).length)(h1:(l.getD k Sl.z).2.length=((BC l k).getD 0 Sl.z).2.length):BC l (k+1)=BC l k++[l.getD k Sl.z]:=QW h0 h1
theorem goodS_c(h0:0<(BC l k).length)(h1:¬((BC l k).getD 0 Sl.z).2.length<(l.getD k Sl.z).2.length)(h2:¬(l.getD k Sl.z).2.length=((BC l k).getD 0 Sl.z).2.length):BC l (k+1)=BC l k:=QX h0 U
theorem goodS_d(h0:(BC l k).length=0):BC l (k+1)=BC l k++[l.getD k Sl.z]:=QY h0
theorem goodS_t(h1:¬(0<(BC l k).length/\((BC l k).getD 0 Sl.z).2.length<(l.getD k Sl.z).2.length))(h2:(BC l k).length=0\/(l.getD k Sl.z).2.length=((BC l k).getD 0 Sl.z).2.length):BC l (k+1)=BC l k++[l.getD k Sl.z]:=by
 by_cases a:(BC l k).length=0
 ·exact goodS_d a
 ·exact goodS_b U U
theorem goodS_f(h1:¬(0<(BC l k).length/\((BC l k).getD 0 Sl.z).2.length<(l.getD k Sl.z).2.length))(h2:¬((BC l k).length=0\/(l.getD k Sl.z).2.length=((BC l k).getD 0 Sl.z).2.length)):BC l (k+1)=BC l k:=goodS_c U U U
theorem IL(g:List Sl)(x:Sl):C9 g x=[x]\/C9 g x=g++[x]\/(C9 g x=g/\0<g.length):=by
 by_cases a:g.length=0
 ·exact .inr (.inl (QY a))
 ·by_cases b:(g.getD 0 Sl.z).2.length<x.2.length
  ·exact .inl (QV U b)
  ·by_cases c:x.2.length=(g.getD 0 Sl.z).2.length
   ·exact .inr (.inl (QW U c))
   ·exact .inr (.inr ⟨QX U U,U⟩)
theorem goodS_pos:∀k,0<k->0<(BC l k).length
 | k+1,_=>by
  show 0<(C9 (BC l k) (l.getD k Sl.z)).length;rcases IL (BC l k) (l.getD k Sl.z) with e | e | ⟨e,h⟩ <;> rw [e]
  ·exact Nat.zero_lt_one
  ·rw [List.length_append];exact Nat.succ_pos _
  ·exact h
theorem TG:∀k,(BC l k).length<=k
 | 0=>Nat.le_refl _
 | k+1=>by
  have a:=TG k;show (C9 (BC l k) (l.getD k Sl.z)).length<=_;rcases IL (BC l k) (l.getD k Sl.z) with e | e | ⟨e,_⟩ <;> rw [e]
  ·simp
  ·rw [List.length_append,List.length_singleton];omega
  ·omega
theorem NX:∀k,k<=l.length->∀y ∈ BC l k,y ∈ l
 | 0,_,y,hy=>by cases hy
 | k+1,c,y,hy=>by
  have a:=NX k U;have b:l.getD k Sl.z ∈ l:=BV U;change y ∈ C9 (BC l k) (l.getD k Sl.z) at hy;rcases IL (BC l k) (l.getD k Sl.z) with e | e | ⟨e,_⟩ <;> rw [e] at hy
  ·rw [List.mem_singleton.1 hy];exact b
  ·rcases List.mem_append.1 hy with hy | hy
   ·exact a y hy
   ·rw [List.mem_singleton.1 hy];exact b
  ·exact a y hy
theorem OV:∀k,k<=l.length->A5 (BC l k)=Uj (A5 l) k
 | 0,_=>rfl
 | k+1,e=>by
  have b:=OV k U;have a:∀g:List Sl,(g.getD 0 Sl.z).2=(A5 g).getD 0 []:=λg=>by cases g <;> rfl
  show A5 (C9 (BC l k) (l.getD k Sl.z))=Vy (Uj (A5 l) k) ((A5 l).getD k []);rw [<-b,F1 U];have c:A5 (HK (BC l k) (l.getD k Sl.z))=PH (A5 (BC l k)) (l.getD k Sl.z).2:=by
   unfold HK PH;rw [a,B5];split <;> rfl
  have d:∀g:List Sl,A5 (IK g (l.getD k Sl.z))=PI (A5 g) (l.getD k Sl.z).2:=λg=>by
   unfold IK PI;rw [a,B5];split
   ·rw [NT];rfl
   ·rfl
  show A5 (IK (HK (BC l k) (l.getD k Sl.z)) (l.getD k Sl.z))=PI (PH (A5 (BC l k)) _) _;rw [d,c]
end
theorem Br.good{h:Y}{t:bA}{l:List Sl}{k:Nat}(a:Br h t l)(hk:k<=l.length):Br h t (BC l k):=.of λx b=>a.at (NX k hk x b)
section
variable {np:Nat} {ws:List AF} {js:List AM} {pq:List AI} {aS aR:Int} {fs:List Sl}
theorem AAG(h:A5 fs=IJ np ws js pq aS aR)(hn:js.length<=4):∀x ∈ fs,Ug js.length x.2:=λx a=>by
 have:x.2 ∈ A5 fs:=List.mem_map_of_mem a
 rw [h] at this;exact KJ (λy b=>QQ b) (by rw [Cq];exact hn) (List.mem_filter.1 this).1
theorem Vz(h:A5 fs=IJ np ws js pq aS aR)(hn:js.length<=4)(i:Nat):Ug js.length (fs.getD i Sl.z).2:=by
 by_cases a:i<fs.length
 ·exact AAG h hn _ (BV a)
 ·rw [Bl U];exact ⟨λk b=>absurd b (Nat.not_lt_zero _),Nat.zero_le _⟩
theorem safe_nil(hb:0<=aS):CB np ws js pq [] aS aR=true:=by
 unfold CB;have e:(DN aR js []).sum=0:=by
  show (List.replicate aR.toNat (0:Int)).sum=0;generalize aR.toNat=n
  induction n with
  | zero=>rfl
  | succ n a=>rw [List.replicate_succ,List.sum_cons,a];rfl
 rw [e,decide_eq_true hb];rfl
theorem Xy(hb:0<=aS):0<(IJ np ws js pq aS aR).length:=by
 refine List.length_pos_of_mem (a:=[]) (List.mem_filter.2 ⟨?_,safe_nil hb⟩);unfold DY;rw [Fm];exact List.mem_cons_self
theorem QZ(hn:js.length<=4):(IJ np ws js pq aS aR).length<=625:=
 Nat.le_trans (List.length_filter_le _ _) (Hr (by rw [Cq];exact hn))
theorem TH{G:List Int->Int}:∀(l:List (List Int)),0<l.length->∀k,k<=l.length-1->(DF G l k).1 ∈ l
 | l,h,0,_=>BV h
 | l,h,k+1,a=>by
  unfold DF;split
  ·exact List.mem_of_mem_drop (BV (by rw [List.length_drop];omega))
  ·exact TH l h k U
theorem Mc{n:Nat}{G:List Int->Int}{l:List Sl}(h:∀x ∈ l,Ug n x.2)(hl:0<l.length):Ug n (Cw G (A5 l)):=by
 have:=TH (G:=G) (A5 l) (by rw [B5];exact hl) ((A5 l).length-1) (Nat.le_refl _)
 obtain ⟨x,a,e⟩:=List.mem_map.1 this;unfold Cw;rw [<-e];exact h x a
end
section
variable (aS aR:Int) (ps:List bB) (ws:List AF) (js:List AM) (ns:List AL)
def Xz:List Int:=Cw (λl=>Ba (λx=>AY ps.length ws js x l) (AD ws js ns)) (Uj (IJ ps.length ws js (AD ws js ns) aS aR) (IJ ps.length ws js (AD ws js ns) aS aR).length)
def LS:List Int:=if¬AV aS aR ps ws js ns 0=0 then [] else Xz aS aR ps ws js ns
end
section
variable {aS aR:Int} {ps:List bB} {ws:List AF} {js:List AM} {ns:List AL} {fs:List Sl} {k:Nat}
theorem best_end(h:A5 fs=IJ ps.length ws js (AD ws js ns) aS aR)(h1:k<=fs.length)(h2:fs.length<=k):Xz aS aR ps ws js ns=Cw (λl=>Ba (λx=>AY ps.length ws js x l) (AD ws js ns)) (A5 (BC fs k)):=by
 unfold Xz;rw [OV k h1,h,<-h,B5,show fs.length=k by omega]
theorem V0(h0:¬¬AV aS aR ps ws js ns 0=0)(h:A5 fs=IJ ps.length ws js (AD ws js ns) aS aR)(h1:k<=fs.length)(h2:fs.length<=k):LS aS aR ps ws js ns=Cw (λl=>Ba (λx=>AY ps.length ws js x l) (AD ws js ns)) (A5 (BC fs k)):=(aX h0).trans (best_end h h1 h2)
end
def Uk(c:Gl)(l:List Int):Nat->Gl
 | 0=>c
 | i+1=>(Uk c l i).set (l.getD i 0).toNat true
def Gr(ls:List (List Int)):Nat->Gl
 | 0=>Gl.none
 | k+1=>Uk (Gr ls k) (ls.getD k []) (ls.getD k []).length
def FA(c:Gl):Nat->List Int
 | 0=>[]
 | q+1=>if c q=true then FA c q else FA c q++[(q:Int)]
theorem neverL_t{c:Gl}{q:Nat}(h:c q=true):FA c (q+1)=FA c q:=aY h
theorem neverL_f{c:Gl}{q:Nat}(h:c q=false):FA c (q+1)=FA c q++[(q:Int)]:=aX (by rw [h];simp)
theorem RA(c:Gl):∀q,(FA c q).length<=q
 | 0=>Nat.le_refl _
 | q+1=>by
  have:=RA c q
  unfold FA;split
  ·omega
  ·rw [List.length_append,List.length_singleton];omega
section
variable (aS aR:Int) (ps:List bB) (ws:List AF) (js:List AM) (ns:List AL)
def NY:List Int:=if¬AV aS aR ps ws js ns 0=0 then [] else FA (Gr (IJ ps.length ws js (AD ws js ns) aS aR) (IJ ps.length ws js (AD ws js ns) aS aR).length) js.length
end
section
variable {aS aR:Int} {ps:List bB} {ws:List AF} {js:List AM} {ns:List AL} {fs:List Sl} {k q:Nat}
theorem inTo_next{i:Nat}(hk:k<fs.length)(h1:i<=(fs.getD k Sl.z).2.length)(h2:(fs.getD k Sl.z).2.length<=i):Gr (A5 fs) (k+1)=Uk (Gr (A5 fs) k) (fs.getD k Sl.z).2 i:=by
 unfold Gr;rw [F1 hk,show (fs.getD k Sl.z).2.length=i by omega];cases k <;> rfl
theorem neverR_ok(h0:¬¬AV aS aR ps ws js ns 0=0)(h:A5 fs=IJ ps.length ws js (AD ws js ns) aS aR)(h1:k<=fs.length)(h2:fs.length<=k)(h3:q<=js.length)(h4:js.length<=q):NY aS aR ps ws js ns=FA (Gr (A5 fs) k) q:=
 (aX h0).trans (by rw [<-h,B5,show fs.length=k by omega,show js.length=q by omega])
end
end Go.Ns
namespace Go.Ns
theorem V1{nj:Nat}{l:List Int}(h:Af nj l=0):l.Nodup:=by
 rw [List.nodup_iff_pairwise_ne];rw [List.pairwise_iff_getElem];intro i j f c d e;have b:=DX h j (Nat.zero_le _) U;unfold Ho at b;split at b
 ·rename_i a;exact a b
 ·split at b
  ·cases b
  ·rename_i a
   refine a (List.any_eq_true.2 ⟨l[i],List.mem_take_iff_getElem.2 ⟨i,U,rfl⟩,?_⟩);rw [List.getD_eq_getElem?_getD,List.getElem?_eq_getElem c];exact decide_eq_true e.symm
theorem OW{jobs:List Int}(nd:jobs.Nodup):∀(rest done:List Int),jobs=done++rest->jobs ∈ BG jobs rest.length done
 | [],done,e=>by rw [e,List.append_nil];exact List.mem_singleton.2 rfl
 | k ::rest,done,e=>by
  have b:=OW nd rest (done++[k]) (by rw [e];simp);show jobs ∈ done ::jobs.flatMap _;refine List.mem_cons_of_mem _ (List.mem_flatMap.2 ⟨k,by rw [e];simp,?_⟩);have c:Hq done k=false:=by
   cases d:Hq done k with
   | false=>rfl
   | true=>
    exfalso;obtain ⟨x,f,g⟩:=List.any_eq_true.1 d;have a:k=x:=of_decide_eq_true g;rw [e,List.nodup_append] at nd;exact nd.2.2 x f k List.mem_cons_self a.symm
  rw [aX (by rw [c];simp)];exact b
def Md(jobs:List Int)(n:Nat):List (List Int):=(DY jobs).filter λq=>decide (q.length=n)
theorem TJ{l:List Int}(nd:l.Nodup):0<(Md (Du l) l.length).length:=by
 have a:(Du l).Nodup:=by rw [I3];exact (List.mergeSort_perm l _).nodup_iff.2 nd
 have:=OW a (Du l) [] rfl
 exact List.length_pos_of_mem (List.mem_filter.2 ⟨this,decide_eq_true (D9 l)⟩)
section
variable (aS aR:Int) (ps:List bB) (ws:List AF) (js:List AM) (ns:List AL) (l:List Int)
def swiftL:List Int:=Cw (λl=>Ba (λx=>AY ps.length ws js x l) (AD ws js ns)) (Md (Du l) l.length)
def Cx:List Int:=if¬AV aS aR ps ws js ns (Af js.length l)=0 then [] else swiftL ps ws js ns l
end
section
variable {aS aR:Int} {ps:List bB} {ws:List AF} {js:List AM} {ns:List AL} {l:List Int} {fl:List Sl} {nj:Nat}
theorem TK(h0:¬¬AV aS aR ps ws js ns (Af js.length l)=0)(h:A5 fl=Md (Du l) l.length):Cx aS aR ps ws js ns l=Cw (λl=>Ba (λx=>AY ps.length ws js x l) (AD ws js ns)) (A5 fl):=(aX h0).trans (by unfold swiftL;rw [h])
theorem full_ok(h:A5 fl=Md (Du l) l.length)(hr:∀k,k<l.length->0<=l.getD k 0/\l.getD k 0<nj)(h4:l.length<=4):∀x ∈ fl,Ug nj x.2:=λx c=>by
 have:x.2 ∈ A5 fl:=List.mem_map_of_mem c
 rw [h] at this;refine KJ (λy a=>?_) (by rw [D9];exact h4) (List.mem_filter.1 this).1;rw [I3,List.mem_mergeSort] at a;obtain ⟨i,b,e⟩:=List.mem_iff_getElem.1 a
 have:=hr i b
 rw [List.getD_eq_getElem?_getD,List.getElem?_eq_getElem b,Option.getD_some,e] at this;exact this
end
end Go.Ns
namespace Go.Ns
def PV(h:Y)(t:bA)(f:Nat->aZ)(aP:Nat->List Int)(k:Nat):Prop:=∀i,i<k->B7 h t (f i) (aP i)
section
variable {h h' h0:Y} {t t':bA} {f:Nat->aZ} {aP:Nat->List Int} {k r:Nat} {w v v':aZ} {p:Bool} {c:Array aZ} {g:Nat×Nat}
theorem PV.zero:PV h t f aP 0:=λ_ a=>absurd a (Nat.not_lt_zero _)
theorem PV.le(x:PV h t f aP k)(l:h.Le h'):PV h' t f aP k:=λi a=>(x i a).le l
theorem PV.store(x:PV h t f aP k)(hr:h r=some (p,.cells c t' g))(ne:t'≠t)(ho:∀b,b≠r->h' b=h b):PV h' t f aP k:=λi a=>(x i a).store hr ne ho
theorem PV.next(x:PV h t f aP k)(y:B7 h t w (aP k)):PV h t (λi=>if i=k then w else f i) aP (k+1):=λi a=>by
 show B7 h t (if i=k then w else f i) (aP i);by_cases e:i=k
 ·rw [aY e,e];exact y
 ·rw [aX e];exact x i U
end
def AM.re(j:AM)(v:aZ):AM:={ j with pv:=v }
def AL.re(j:AL)(v:aZ):AL:={ j with wv:=v }
def IM(js:List AM)(f:Nat->aZ)(k:Nat):List AM:=(List.range js.length).map λi=>if i<k then (js.getD i AM.z).re (f i) else js.getD i AM.z
def Iu(ns:List AL)(f:Nat->aZ)(k:Nat):List AL:=(List.range ns.length).map λi=>if i<k then (ns.getD i AL.z).re (f i) else ns.getD i AL.z
section
variable {aQ:Type} {z:aQ} {l:List aQ} {F:Nat->aQ->aQ} {k:Nat}
def reL(z:aQ)(l:List aQ)(F:Nat->aQ->aQ)(k:Nat):List aQ:=(List.range l.length).map λi=>if i<k then F i (l.getD i z) else l.getD i z
theorem Kr:(reL z l F k).length=l.length:=by unfold reL;rw [List.length_map,List.length_range]
theorem Ia{i:Nat}(hi:i<l.length):(reL z l F k).getD i z=if i<k then F i (l.getD i z) else l.getD i z:=by
 unfold reL;rw [List.getD_eq_getElem?_getD,List.getElem?_map,List.getElem?_range hi];rfl
theorem Ul{i:Nat}(hi:i<(reL z l F k).length):(reL z l F k)[i]=if i<k then F i (l.getD i z) else l.getD i z:=by
 have e:=Ia (z:=z) (F:=F) (k:=k) (show i<l.length by rw [<-Kr (z:=z) (F:=F) (k:=k)];exact hi);rw [List.getD_eq_getElem?_getD,List.getElem?_eq_getElem hi] at e;exact e
theorem reL_0:reL z l F 0=l:=by
 refine List.ext_getElem Kr λi b a=>?_;rw [Ul,aX (Nat.not_lt_zero _),List.getD_eq_getElem?_getD,List.getElem?_eq_getElem a];rfl
theorem AAH{G:Nat->aQ->aQ}(hk:k<l.length)(hG:∀i,i<k->∀x,G i x=F i x):(reL z l F k).set k (G k ((reL z l F k).getD k z))=reL z l G (k+1):=by
 rw [Ia hk,aX (Nat.lt_irrefl _)];refine List.ext_getElem (by rw [List.length_set,Kr,Kr]) λi b c=>?_;rw [List.getElem_set,Ul];by_cases e:k=i
 ·subst e;rw [aY rfl,Ul,aY U]
 ·rw [aX e,Ul];by_cases a:i<k
  ·rw [aY a,aY U,hG i a]
  ·rw [aX a,aX U]
end
section
variable {h:Y} {t:bA} {f:Nat->aZ} {js:List AM} {ns:List AL} {k:Nat} {w:aZ}
theorem RB:IM js f k=reL AM.z js (λi j=>j.re (f i)) k:=rfl
theorem RC:Iu ns f k=reL AL.z ns (λi j=>j.re (f i)) k:=rfl
theorem PJ(js:List AM)(f:Nat->aZ)(k:Nat):(IM js f k).length=js.length:=by rw [RB];exact Kr
theorem PK(ns:List AL)(f:Nat->aZ)(k:Nat):(Iu ns f k).length=ns.length:=by rw [RC];exact Kr
theorem reJ_0:IM js f 0=js:=by rw [RB];exact reL_0
theorem reN_0:Iu ns f 0=ns:=by rw [RC];exact reL_0
theorem reJ_put(hk:k<js.length):(IM js f k).set k (((IM js f k).getD k AM.z).re w)=IM js (λi=>if i=k then w else f i) (k+1):=by
 have:=AAH (z:=AM.z) (l:=js) (F:=λi j=>j.re (f i)) (G:=λi j=>j.re (if i=k then w else f i)) hk (λi a x=>by rw [aX U])
 rw [aY rfl] at this;exact this
theorem reN_put(hk:k<ns.length):(Iu ns f k).set k (((Iu ns f k).getD k AL.z).re w)=Iu ns (λi=>if i=k then w else f i) (k+1):=by
 have:=AAH (z:=AL.z) (l:=ns) (F:=λi j=>j.re (f i)) (G:=λi j=>j.re (if i=k then w else f i)) hk (λi a x=>by rw [aX U])
 rw [aY rfl] at this;exact this
theorem TL(js:List AM)(f:Nat->aZ)(k i:Nat):((IM js f k).getD i AM.z).parts=(js.getD i AM.z).parts:=by
 by_cases a:i<js.length
 ·rw [RB,Ia a];split <;> rfl
 ·rw [Bl (by rw [PJ];omega),Bl U]
theorem V2(ns:List AL)(f:Nat->aZ)(k i:Nat):((Iu ns f k).getD i AL.z).ways=(ns.getD i AL.z).ways:=by
 by_cases a:i<ns.length
 ·rw [RC,Ia a];split <;> rfl
 ·rw [Bl (by rw [PK];omega),Bl U]
theorem CV.re(x:CV h js)(y:PV h t f (λi=>(js.getD i AM.z).parts) k):CV h (IM js f k):=λi=>by
 by_cases a:i<js.length
 ·rw [RB,Ia a];by_cases e:i<k
  ·rw [aY e];exact (y i e).1
  ·rw [aX e];exact x i
 ·rw [Bl (by rw [PJ];omega)];exact AG.nil _ _ _
theorem Au.re(x:Au h ns)(y:PV h t f (λi=>(ns.getD i AL.z).ways) k):Au h (Iu ns f k):=λi=>by
 by_cases a:i<ns.length
 ·rw [RC,Ia a];by_cases e:i<k
  ·rw [aY e];exact (y i e).1
  ·rw [aX e];exact x i
 ·rw [Bl (by rw [PK];omega)];exact AG.nil _ _ _
def C6(h:Y)(t:bA)(js:List AM):Prop:=∀k,B7 h t (js.getD k AM.z).pv (js.getD k AM.z).parts
def EQ(h:Y)(t:bA)(ns:List AL):Prop:=∀k,B7 h t (ns.getD k AL.z).wv (ns.getD k AL.z).ways
theorem C6.jobs(x:C6 h t js):CV h js:=λk=>(x k).1
theorem EQ.notes(x:EQ h t ns):Au h ns:=λk=>(x k).1
theorem C6.le{h':Y}(x:C6 h t js)(l:h.Le h'):C6 h' t js:=λk=>(x k).le l
theorem EQ.le{h':Y}(x:EQ h t ns)(l:h.Le h'):EQ h' t ns:=λk=>(x k).le l
theorem C6.store{h':Y}{t':bA}{r:Nat}{p:Bool}{c:Array aZ}{g:Nat×Nat}(x:C6 h t js)(hr:h r=some (p,.cells c t' g))(ne:t'≠t)(ho:∀b,b≠r->h' b=h b):C6 h' t js:=λk=>(x k).store hr ne ho
theorem EQ.store{h':Y}{t':bA}{r:Nat}{p:Bool}{c:Array aZ}{g:Nat×Nat}(x:EQ h t ns)(hr:h r=some (p,.cells c t' g))(ne:t'≠t)(ho:∀b,b≠r->h' b=h b):EQ h' t ns:=λk=>(x k).store hr ne ho
theorem C6.of(y:PV h t f (λi=>(js.getD i AM.z).parts) k)(hk:js.length<=k):C6 h t (IM js f k):=λi=>by
 by_cases a:i<js.length
 ·rw [RB,Ia a,aY U];exact y i U
 ·rw [Bl (by rw [PJ];omega)];exact B7.nil _ _
theorem EQ.of(y:PV h t f (λi=>(ns.getD i AL.z).ways) k)(hk:ns.length<=k):EQ h t (Iu ns f k):=λi=>by
 by_cases a:i<ns.length
 ·rw [RC,Ia a,aY U];exact y i U
 ·rw [Bl (by rw [PK];omega)];exact B7.nil _ _
theorem CV.fine1(x:CV h js)(k:Nat):(DC (js.getD k AM.z)).toList.all (·.oneCell')=true:=by
 show (true && (true && (true && (true && (((js.getD k AM.z).pv.oneCell') && true)))))=true;rw [(AG.one (x k)).2];rfl
theorem CV.fine(x:CV h js):∀y ∈ js,(DC y).toList.all (·.oneCell')=true:=λy a=>by
 obtain ⟨i,b,e⟩:=List.mem_iff_getElem.1 a
 have:=x.fine1 i
 rw [List.getD_eq_getElem?_getD,List.getElem?_eq_getElem b] at this;rw [<-e];exact this
theorem Au.snoc{x:AL}(a:Au h ns)(b:AG h x.wv 1 eI x.ways):Au h (ns++[x]):=λk=>by
 rw [II];split
 ·exact a k
 ·cases c:k-ns.length with
  | zero=>exact b
  | succ n=>rw [Bl aD];exact AG.nil _ _ _
end
theorem BL.copy{aS aR:Int}{ps:List bB}{ws:List AF}{js:List AM}{ns:List AL}(b:BL aS aR ps ws js ns):(∀i,(js.getD i AM.z).parts.length<=1000)/\∀i,(ns.getD i AL.z).ways.length<=1000:=by
 refine ⟨λi=>?_,λi=>Nat.le_trans (QF b.note i).1 aC⟩;by_cases a:i<js.length
 ·have:=(QB (b.job i a)).len
  have:=b.hkin
  omega
 ·rw [Bl U];exact Nat.zero_le _
end Go.Ns
namespace Go.Ns
section
variable {P:Program} {E:Gb P} {O:Nat->aZ} {ds:List Deferred} {h:Y} {T:(Nat->aZ)->List Deferred->Y->Prop} {dst:Option Nat} {ty:bA} {pos:String} {af:Array Edge} {gd:Option (Nat×Bool)}
theorem X3{s:bB}{i:Nat}(h:i<s.size):((s[i]'h).toNat:Int)=(bytesOf s).getD i 0:=by
 have a:i<(bytesOf s).length:=by rw [C5];exact h
 rw [Dy 0 a];exact (List.getElem_map (l:=s.data.toList) (f:=λb=>(b.toNat:Int)) (h:=a)).symm
theorem RD{t:bA}{x ix:Operand}{s:bB}{kd:IntKind}{i:Int}(ht:PW P t=true)(hx:AN O x=.string s)(hi:AN O ix=.int kd i)(h0:0<=i)(h1:i<s.size)(k:T (putS O dst (.int .u8 ((bytesOf s).getD i.toNat 0))) ds h) :
  BR E ⟨dst,.index t x ix,ty,pos,af,gd⟩ O ds h T:=Sf ht hx hi h0 h1 (by rw [X3];exact k)
end
theorem V3{s:bB}(h:¬(1<=(s.size:Int)/\(s.size:Int)<=10)):E4 s=false:=by unfold E4;rw [decide_eq_false h,Bool.and_false]
theorem V4{a b:List UInt8}{v:Bool}(h:(a==b)=v):(b==a)=v:=by rw [<-h];exact BEq.comm
def Ir(l:List Int)(k:Nat)(p q:Int):List Int:=if p=l.getD k 0/\¬q ∈ l then l++[q] else l
def DA(l:List Int)(k:Nat)(x:AF):List Int:=Ir (Ir l k x.a x.b) k x.b x.a
def Ag(ws:List AF)(l:List Int)(k:Nat):Nat->List Int
 | 0=>l
 | j+1=>DA (Ag ws l k j) k (ws.getD j AF.z)
def Ax(ws:List AF):Nat->List Int
 | 0=>[0]
 | k+1=>if k<(Ax ws k).length then Ag ws (Ax ws k) k ws.length else Ax ws k
def Ha(ws:List AF):List Int:=Ax ws 4
def IN(np:Nat)(l:List Int):Prop:=l.Nodup/\(∀x ∈ l,0<=x/\x<np)/\0<l.length
def RE(np:Nat)(ws:List AF):Prop:=∀k,k<ws.length->(0<=(ws.getD k AF.z).a/\(ws.getD k AF.z).a<np)/\0<=(ws.getD k AF.z).b/\(ws.getD k AF.z).b<np
section
variable {np:Nat} {l:List Int} {ws:List AF} {k j:Nat} {x:Int} {w:AF}
theorem IN.len(h:IN np l):l.length<=np:=by
 refine Ua np l.length (λk=>(l.getD k 0).toNat) (λi f=>?_) λi j a b=>?_
 ·have:=h.2.1 _ (BV (d:=(0:Int)) f)
  show (l.getD i 0).toNat<np;omega
 ·have g:=h.2.1 _ (BV (d:=(0:Int)) b);have m:=h.2.1 _ (BV (d:=(0:Int)) (show i<l.length by omega));show (l.getD i 0).toNat≠(l.getD j 0).toNat;intro e;have c:l.getD i 0=l.getD j 0:=U
  rw [List.getD_eq_getElem?_getD,List.getD_eq_getElem?_getD,List.getElem?_eq_getElem U,List.getElem?_eq_getElem b,Option.getD_some,Option.getD_some] at c
  have:=(List.pairwise_iff_getElem.1 (List.nodup_iff_pairwise_ne.1 h.1)) i j U b a
  exact this c
theorem IN.snoc(h:IN np l)(hx:0<=x/\x<np)(n:¬x ∈ l):IN np (l++[x]):=
 ⟨List.nodup_append.2 ⟨h.1,aD,λa c b d e=>by rw [List.mem_singleton.1 d] at e;exact n (e▸c)⟩,λy hy=>by
  rcases List.mem_append.1 hy with hy | hy
  ·exact h.2.1 y hy
  ·rw [List.mem_singleton.1 hy];exact hx,aD⟩
theorem Me{p q:Int}(h1:p=l.getD k 0)(h2:¬q ∈ l):Ir l k p q=l++[q]:=aY ⟨h1,h2⟩
theorem Mf{p q:Int}(h:¬(p=l.getD k 0/\¬q ∈ l)):Ir l k p q=l:=aX h
theorem rs_tt(h1:w.a=l.getD k 0/\¬w.b ∈ l)(h2:w.b=(l++[w.b]).getD k 0/\¬w.a ∈ l++[w.b]):DA l k w=l++[w.b]++[w.a]:=by unfold DA;rw [Me h1.1 h1.2,Me h2.1 h2.2]
theorem rs_tf(h1:w.a=l.getD k 0/\¬w.b ∈ l)(h2:¬(w.b=(l++[w.b]).getD k 0/\¬w.a ∈ l++[w.b])):DA l k w=l++[w.b]:=by unfold DA;rw [Me h1.1 h1.2,Mf h2]
theorem rs_ft(h1:¬(w.a=l.getD k 0/\¬w.b ∈ l))(h2:w.b=l.getD k 0/\¬w.a ∈ l):DA l k w=l++[w.a]:=by unfold DA;rw [Mf h1,Me h2.1 h2.2]
theorem rs_ff(h1:¬(w.a=l.getD k 0/\¬w.b ∈ l))(h2:¬(w.b=l.getD k 0/\¬w.a ∈ l)):DA l k w=l:=by unfold DA;rw [Mf h1,Mf h2]
theorem TM{p q:Int}(h:IN np l)(hq:0<=q/\q<np):IN np (Ir l k p q):=by
 unfold Ir;split
 ·rename_i c;exact h.snoc hq c.2
 ·exact h
theorem Lt(l:List Int)(k:Nat)(p q:Int):l<+:Ir l k p q:=by
 unfold Ir;split
 ·exact List.prefix_append _ _
 ·exact List.prefix_refl _
theorem Um(h:IN np l)(ha:0<=w.a/\w.a<np)(hb:0<=w.b/\w.b<np):IN np (DA l k w):=TM (TM h hb) ha
theorem SI(l:List Int)(k:Nat)(w:AF):l<+:DA l k w:=(Lt _ _ _ _).trans (Lt _ _ _ _)
theorem Jb(h:IN np l)(hw:RE np ws):∀j,j<=ws.length->IN np (Ag ws l k j)
 | 0,_=>h
 | j+1,a=>Um (Jb h hw j U) (hw j U).1 (hw j U).2
theorem Is:∀j,l<+:Ag ws l k j
 | 0=>List.prefix_refl _
 | j+1=>(Is j).trans (SI _ _ _)
theorem Ks(hn:0<np)(hw:RE np ws):∀k,IN np (Ax ws k)
 | 0=>⟨by simp [Ax],λx a=>by rw [List.mem_singleton.1 a];omega,Nat.zero_lt_one⟩
 | k+1=>by
  unfold Ax;split
  ·exact Jb (Ks hn hw k) hw _ (Nat.le_refl _)
  ·exact Ks hn hw k
theorem OX(hk:k<(Ax ws k).length):Ax ws (k+1)=Ag ws (Ax ws k) k ws.length:=aY hk
theorem OY(hk:(Ax ws k).length<=k):∀m,k<=m->Ax ws m=Ax ws k
 | 0,h=>by rw [show k=0 by omega]
 | m+1,h=>by
  by_cases e:m+1=k
  ·rw [e]
  ·have a:=OY hk m U
   have:Ax ws (m+1)=Ax ws m:=by
    conv=>lhs;unfold Ax
    rw [aX (by rw [a];omega)]
   rw [this,a]
theorem reach_end(hk:(Ax ws k).length<=k)(hk4:k<=4):Ha ws=Ax ws k:=OY hk 4 hk4
end
def Fo(np:Nat)(ws:List AF):Int:=if (5:Int)<ws.length then 2 else if¬Cv (DD np ws) 0 ws.length=0 then Cv (DD np ws) 0 ws.length else if (Ha ws).length<np then 8 else 0
def D5(aS aR:Int)(ps:List bB)(ws:List AF)(js:List AM)(ns:List AL):Int:=
 if¬G4 aS aR=0 then G4 aS aR else if¬BQ ps=0 then BQ ps else if¬Fo ps.length ws=0 then Fo ps.length ws else if¬B1 ps.length aR js=0 then B1 ps.length aR js else Ca ws.length ns
section
variable {aQ:Type} {p:aQ->Bool} {l:List aQ} {d:aQ} {k j:Nat}
theorem NZ(hk:k<l.length)(e:p (l.getD k d)=true):l.any p=true:=List.any_eq_true.2 ⟨_,BV hk,e⟩
theorem Kt(h:(l.take k).any p=false)(hk:l.length<=k):l.any p=false:=by rwa [List.take_of_length_le hk] at h
theorem V5(hj:j<k)(hk:k<=l.length)(e:p (l.getD j d)=true):(l.take k).any p=true:=by
 refine NZ (k:=j) (d:=d) (by rw [List.length_take];omega) ?_;rw [List.getD_eq_getElem?_getD,List.getElem?_take,aY hj,<-List.getD_eq_getElem?_getD];exact e
end
section
variable {np nw:Nat} {ws:List AF} {js:List AM} {ns:List AL} {k:Nat} {aR:Int}
theorem Mg{a b:Int}(ha:0<=a/\a<=(np:Int)-1)(hb:0<=b/\b<=(np:Int)-1):BH np [a,b]=0:=by
 have c:Eu np [a,b] 0=0:=aX (λe=>e ha);have d:Eu np [a,b] 1=0:=aX (λe=>e hb);show Cv (Eu np [a,b]) 0 2=0;simp [Cv,c,d]
theorem miss_no{a b:Int}(h:¬(0<=a/\a<=(np:Int)-1)\/¬(0<=b/\b<=(np:Int)-1)):BH np [a,b]=6:=by
 show Cv (Eu np [a,b]) 0 2=6;by_cases c:0<=a/\a<=(np:Int)-1
 ·have d:Eu np [a,b] 0=0:=aX (λe=>e c);have f:Eu np [a,b] 1=6:=aY (h.resolve_left λe=>e c);simp [Cv,d,f]
 ·have d:Eu np [a,b] 0=6:=aY c;simp [Cv,d]
theorem RF{a:Int}(ha:0<=a/\a<=(np:Int)-1):BH np [a]=0:=by
 have b:Eu np [a] 0=0:=aX (λe=>e ha);show Cv (Eu np [a]) 0 1=0;simp [Cv,b]
theorem miss_no1{a:Int}(ha:¬(0<=a/\a<=(np:Int)-1)):BH np [a]=6:=by
 have b:Eu np [a] 0=6:=aY ha;show Cv (Eu np [a]) 0 1=6;simp [Cv,b]
variable (ws k) in
def waP(np:Nat):Prop:=(0<=(ws.getD k AF.z).a/\(ws.getD k AF.z).a<=(np:Int)-1)/\(0<=(ws.getD k AF.z).b/\(ws.getD k AF.z).b<=(np:Int)-1)
theorem wy6(h:¬(0<=(ws.getD k AF.z).a/\(ws.getD k AF.z).a<=(np:Int)-1)\/¬(0<=(ws.getD k AF.z).b/\(ws.getD k AF.z).b<=(np:Int)-1)):DD np ws k=6:=by
 unfold DD;rw [miss_no h,aY aC]
theorem wyP(h:¬(¬(0<=(ws.getD k AF.z).a/\(ws.getD k AF.z).a<=(np:Int)-1)\/¬(0<=(ws.getD k AF.z).b/\(ws.getD k AF.z).b<=(np:Int)-1))):waP ws k np:=⟨Decidable.byContradiction λe=>h (.inl e),Decidable.byContradiction λe=>h (.inr e)⟩
theorem wy7(h:waP ws k np)(h2:(ws.getD k AF.z).b<=(ws.getD k AF.z).a):DD np ws k=7:=by
 unfold DD;rw [Mg h.1 h.2,aX aD,aY h2]
theorem wy5(h:waP ws k np)(h2:¬(ws.getD k AF.z).b<=(ws.getD k AF.z).a)(h3:(ws.take k).any (λy=>decide (y.a=(ws.getD k AF.z).a/\y.b=(ws.getD k AF.z).b))=true):DD np ws k=5:=by
 unfold DD;rw [Mg h.1 h.2,aX aD,aX h2,aY h3]
theorem wy1(h:waP ws k np)(h2:¬(ws.getD k AF.z).b<=(ws.getD k AF.z).a)(h3:(ws.take k).any (λy=>decide (y.a=(ws.getD k AF.z).a/\y.b=(ws.getD k AF.z).b))=false)(h4:¬(((0<=(ws.getD k AF.z).low/\(ws.getD k AF.z).low<=(ws.getD k AF.z).high)/\(ws.getD k AF.z).high<=30)/\(ws.getD k AF.z).high-(ws.getD k AF.z).low<2)):DD np ws k=1:=by
 unfold DD;rw [Mg h.1 h.2,aX aD,aX h2,aX (by rw [h3];simp)];exact aY h4
theorem wy0(h:waP ws k np)(h2:¬(ws.getD k AF.z).b<=(ws.getD k AF.z).a)(h3:(ws.take k).any (λy=>decide (y.a=(ws.getD k AF.z).a/\y.b=(ws.getD k AF.z).b))=false)(h4:(((0<=(ws.getD k AF.z).low/\(ws.getD k AF.z).low<=(ws.getD k AF.z).high)/\(ws.getD k AF.z).high<=30)/\(ws.getD k AF.z).high-(ws.getD k AF.z).low<2)):DD np ws k=0:=by
 unfold DD;rw [Mg h.1 h.2,aX aD,aX h2,aX (by rw [h3];simp)];exact aX (λe=>e h4)
theorem X4(h:∀k,k<ws.length->DD np ws k=0):RE np ws:=λk b=>by
 have:=h k b
 unfold DD at this;split at this
 ·rename_i a;exact absurd this a
 ·rename_i a
  have q:=Fl (Decidable.not_not.1 a);have c:=q _ List.mem_cons_self;have d:=q _ (List.mem_cons_of_mem _ List.mem_cons_self);omega
theorem rw2(h:(5:Int)<ws.length):Fo np ws=2:=aY h
theorem Un{c:Int}(h5:¬(5:Int)<ws.length)(hs:∀j,j<k->DD np ws j=0)(hk:k<ws.length)(e:DD np ws k=c)(hc:c≠0):Fo np ws=c:=by
 have a:=BN hs hk e hc;rw [Fo,aX h5,a,aY hc]
theorem rw8(h5:¬(5:Int)<ws.length)(hs:∀j,j<k->DD np ws j=0)(hk:ws.length<=k)(h:((Ha ws).length:Int)<np):Fo np ws=8:=by
 rw [Fo,aX h5,CG hs hk,aX aD,aY U]
theorem rw0(h5:¬(5:Int)<ws.length)(hs:∀j,j<k->DD np ws j=0)(hk:ws.length<=k)(h:¬((Ha ws).length:Int)<np):Fo np ws=0:=by
 rw [Fo,aX h5,CG hs hk,aX aD,aX U]
theorem jb6(h:¬(0<=(js.getD k AM.z).place/\(js.getD k AM.z).place<=(np:Int)-1)):F7 np aR js k=6:=by
 unfold F7;rw [miss_no1 h,aY aC]
theorem jb1(h:0<=(js.getD k AM.z).place/\(js.getD k AM.z).place<=(np:Int)-1)(h2:¬(((0<=(js.getD k AM.z).low/\(js.getD k AM.z).low<=(js.getD k AM.z).high)/\(js.getD k AM.z).high<=30)/\(js.getD k AM.z).high-(js.getD k AM.z).low<2)\/¬(0<=(js.getD k AM.z).due/\(js.getD k AM.z).due<=200)):F7 np aR js k=1:=by
 unfold F7;rw [RF h,aX aD];exact aY h2
theorem jb2(h:0<=(js.getD k AM.z).place/\(js.getD k AM.z).place<=(np:Int)-1)(h2:¬(¬(((0<=(js.getD k AM.z).low/\(js.getD k AM.z).low<=(js.getD k AM.z).high)/\(js.getD k AM.z).high<=30)/\(js.getD k AM.z).high-(js.getD k AM.z).low<2)\/¬(0<=(js.getD k AM.z).due/\(js.getD k AM.z).due<=200)))(h3:¬((js.getD k AM.z).parts.length:Int)=aR):F7 np aR js k=2:=by
 unfold F7;rw [RF h,aX aD];exact (aX h2).trans (aY h3)
theorem jb3(h:0<=(js.getD k AM.z).place/\(js.getD k AM.z).place<=(np:Int)-1)(h2:¬(¬(((0<=(js.getD k AM.z).low/\(js.getD k AM.z).low<=(js.getD k AM.z).high)/\(js.getD k AM.z).high<=30)/\(js.getD k AM.z).high-(js.getD k AM.z).low<2)\/¬(0<=(js.getD k AM.z).due/\(js.getD k AM.z).due<=200)))(h3:((js.getD k AM.z).parts.length:Int)=aR):F7 np aR js k=if (js.getD k AM.z).parts.any (λn=>decide (¬(0<=n/\n<=5))) then 1 else 0:=by
 unfold F7;rw [RF h,aX aD];exact (aX h2).trans (aX (λe=>e h3))
theorem nt2(h:(5:Int)<(ns.getD k AL.z).ways.length):EI nw ns k=2:=aY h
theorem nt6(h:¬(5:Int)<(ns.getD k AL.z).ways.length)(h2:(ns.getD k AL.z).ways.any (λn=>decide (¬(0<=n/\n<=(nw:Int)-1)))=true):EI nw ns k=6:=by
 unfold EI;rw [aX h,aY h2]
theorem nt1(h:¬(5:Int)<(ns.getD k AL.z).ways.length)(h2:(ns.getD k AL.z).ways.any (λn=>decide (¬(0<=n/\n<=(nw:Int)-1)))=false)(h3:¬((0<=(ns.getD k AL.z).low/\(ns.getD k AL.z).low<=(ns.getD k AL.z).high)/\(ns.getD k AL.z).high<=200)):EI nw ns k=1:=by
 unfold EI;rw [aX h,aX (by rw [h2];simp),aY (λe=>h3 e.1)]
theorem nt0(h:¬(5:Int)<(ns.getD k AL.z).ways.length)(h2:(ns.getD k AL.z).ways.any (λn=>decide (¬(0<=n/\n<=(nw:Int)-1)))=false)(h3:(0<=(ns.getD k AL.z).low/\(ns.getD k AL.z).low<=(ns.getD k AL.z).high)/\(ns.getD k AL.z).high<=200):EI nw ns k=0:=by
 unfold EI;rw [aX h,aX (by rw [h2];simp),aX (λe=>e ⟨h3,U⟩)]
end
section
variable {ps:List bB} {k:Nat} {a b:List (Int×Int)}
theorem pa4(h:E4 (ps.getD k (⟨#[]⟩:bB))=false):FO ps k=4:=by unfold FO;rw [aY h]
theorem pa5(h:E4 (ps.getD k (⟨#[]⟩:bB))=true)(h2:0<=idxOf (λx=>(ps.getD k (⟨#[]⟩:bB)).toList==x.toList) (ps.take k)):FO ps k=5:=by
 unfold FO;rw [aX (by rw [h];simp),aY ((FM _ _).1 h2)]
theorem pa0(h:E4 (ps.getD k (⟨#[]⟩:bB))=true)(h2:¬0<=idxOf (λx=>(ps.getD k (⟨#[]⟩:bB)).toList==x.toList) (ps.take k)):FO ps k=0:=by
 unfold FO;rw [aX (by rw [h];simp),aX λe=>h2 ((FM _ _).2 e)]
theorem SJ(hs:a.take k=b.take k)(hk:k<=a.length)(h:¬(k:Int)<a.length)(hl:(a.length:Int)=b.length):a=b:=by
 rw [List.take_of_length_le U,List.take_of_length_le U] at hs;exact hs
theorem eq_getDP{k:Nat}(h:((a.getD k (0,0)).1==(b.getD k (0,0)).1 && ((a.getD k (0,0)).2==(b.getD k (0,0)).2 && true))=true):a.getD k (0,0)=b.getD k (0,0):=by
 simp only [Bool.and_true,Bool.and_eq_true,beq_iff_eq] at h;exact Prod.ext h.1 h.2
theorem ne_getDP{k:Nat}(h:(!((a.getD k (0,0)).1==(b.getD k (0,0)).1 && ((a.getD k (0,0)).2==(b.getD k (0,0)).2 && true)))=true):¬a=b:=λe=>by rw [e] at h;simp at h
end
section
variable (aS aR:Int) (ps:List bB) (ws:List AF) (js:List AM) (ns:List AL)
def ER:Bool:=decide ((((20:Int)<ps.length\/(20:Int)<ws.length)\/(20:Int)<js.length)\/(20:Int)<ns.length) || ps.any (λs=>decide ((100:Int)<s.size)) || js.any (λj=>decide ((20:Int)<j.parts.length)) || ns.any λn=>decide ((20:Int)<n.ways.length)
def fit9:Bool:= !ER ps ws js ns && decide (D5 aS aR ps ws js ns=0)
end
section
variable {ps:List bB} {ws:List AF} {js:List AM} {ns:List AL} {k:Nat}
theorem Mh(h:ER ps ws js ns=false)(k:Nat):(ps.getD k (⟨#[]⟩:bB)).size<=1000:=by
 unfold ER at h;simp only [Bool.or_eq_false_iff] at h;by_cases a:k<ps.length
 ·have:=List.any_eq_false.1 h.1.1.2 _ (BV (d:=(⟨#[]⟩:bB)) a)
  have:=of_decide_eq_false (Bool.eq_false_iff.2 this)
  omega
 ·rw [Bl U];decide
end
section
variable {aS aR:Int} {ps:List bB} {ws:List AF} {js:List AM} {ns:List AL}
theorem KM(h:BQ ps=0):0<ps.length/\ps.length<=4:=by
 unfold BQ at h;split at h
 ·cases h
 ·omega
theorem rc1(h:¬(0<=aS/\aS<=9)\/¬(0<=aR/\aR<=3)):D5 aS aR ps ws js ns=1:=by
 have e:G4 aS aR=1:=aY h;unfold D5;rw [e,aY aC]
theorem tb0(h:¬(¬(0<=aS/\aS<=9)\/¬(0<=aR/\aR<=3))):G4 aS aR=0:=aX h
theorem rc2(h0:¬(¬(0<=aS/\aS<=9)\/¬(0<=aR/\aR<=3)))(h:¬BQ ps=0):D5 aS aR ps ws js ns=BQ ps:=by unfold D5;rw [tb0 h0,aX aD,aY h]
theorem rc3(h0:¬(¬(0<=aS/\aS<=9)\/¬(0<=aR/\aR<=3)))(h1:¬¬BQ ps=0)(h:¬Fo ps.length ws=0):D5 aS aR ps ws js ns=Fo ps.length ws:=by unfold D5;rw [tb0 h0,aX aD,aX h1,aY h]
theorem rc4(h0:¬(¬(0<=aS/\aS<=9)\/¬(0<=aR/\aR<=3)))(h1:¬¬BQ ps=0)(h2:¬¬Fo ps.length ws=0)(h:¬B1 ps.length aR js=0):D5 aS aR ps ws js ns=B1 ps.length aR js:=by unfold D5;rw [tb0 h0,aX aD,aX h1,aX h2,aY h]
theorem rc5(h0:¬(¬(0<=aS/\aS<=9)\/¬(0<=aR/\aR<=3)))(h1:¬¬BQ ps=0)(h2:¬¬Fo ps.length ws=0)(h:¬¬B1 ps.length aR js=0):D5 aS aR ps ws js ns=Ca ws.length ns:=by unfold D5;rw [tb0 h0,aX aD,aX h1,aX h2,aX h]
theorem gr_len(h:(((20:Int)<ps.length\/(20:Int)<ws.length)\/(20:Int)<js.length)\/(20:Int)<ns.length):ER ps ws js ns=true:=by unfold ER;rw [decide_eq_true h];rfl
theorem gr_p(h:ps.any (λs=>decide ((100:Int)<s.size))=true):ER ps ws js ns=true:=by unfold ER;rw [h];simp
theorem gr_j(h:js.any (λj=>decide ((20:Int)<j.parts.length))=true):ER ps ws js ns=true:=by unfold ER;rw [h];simp
theorem gr_n(h:ns.any (λn=>decide ((20:Int)<n.ways.length))=true):ER ps ws js ns=true:=by unfold ER;rw [h];simp
theorem gr_0(h:¬((((20:Int)<ps.length\/(20:Int)<ws.length)\/(20:Int)<js.length)\/(20:Int)<ns.length))(h1:ps.any (λs=>decide ((100:Int)<s.size))=false)(h2:js.any (λj=>decide ((20:Int)<j.parts.length))=false)(h3:ns.any (λn=>decide ((20:Int)<n.ways.length))=false):ER ps ws js ns=false:=by
 unfold ER;rw [decide_eq_false h,h1,h2,h3];rfl
end
end Go.Ns
namespace Go.Ns
def Cz:List bB:=[⟨#[119,111,114,107,115]⟩,⟨#[97,121,114]⟩,⟨#[98,117,116,101]⟩]
theorem DB:∀k,(Cz.getD k (⟨#[]⟩:bB)).size<=1000
 | 0=>aC
 | 1=>aC
 | 2=>aC
 | k+3=>by rw [Bl (by simp [Cz])];decide
def Cs:List AF:=[⟨0,1,2,3⟩,⟨1,2,4,4⟩,⟨0,2,5,5⟩]
def CR(a b c:aZ):List AM:=[⟨1,1,1,5,a,[2]⟩,⟨2,1,2,12,b,[1]⟩,⟨0,1,1,20,c,[1]⟩]
theorem C6.ex{h:Y}{t:bA}{a b c:aZ}(x:B7 h t a [2])(y:B7 h t b [1])(z:B7 h t c [1]):C6 h t (CR a b c):=λk=>by
 match k with
 | 0=>exact x
 | 1=>exact y
 | 2=>exact z
 | k+3=>rw [Bl (by show 3<=_;omega)];exact B7.nil _ _
theorem AG.isSl{aQ:Type}{h:Y}{v:aZ}{n:Nat}{enc:aQ->Array aZ}{xs:List aQ}(x:AG h v n enc xs):∀k i,v≠.int k i:=by
 obtain ⟨a,b,rfl,_⟩:=x;intro k i e;cases e
theorem AG.across9{h h':Y}{v:aZ}{xs:List Int}{r:Nat}{a b c d:aZ}{T:bA}(x:AG h v 1 eI xs)(hb:h r=some (true,.cells #[.int .i64 3,.int .i64 1,a,b,c,d] T (0,0)))(ho:∀y,y≠r->h' y=h y)
  (ha:∀k i,a≠.int k i) (hb':∀k i,b≠.int k i) (hc:∀k i,c≠.int k i) (hd:∀k i,d≠.int k i) (hx:∀o,o<6->∃i:Fin xs.length,(o+i.val=0->xs[i.val]≠3)/\(o+i.val=1->xs[i.val]≠1)):AG h' v 1 eI xs:=by
 obtain ⟨K,w,M,m,N,C⟩:=x;refine ⟨K,w,M,m,N,λi D=>?_⟩;obtain ⟨y,g,E,O⟩:=C i D;refine ⟨y,g,E,O.same (ho y ?_)⟩;rintro rfl;have n:∀j (q:j<xs.length),g+j<6/\(#[Value.int .i64 3,.int .i64 1,a,b,c,d]:Array aZ).extract (g+j) (g+j+1)=eI xs[j]:=λj q=>by
  obtain ⟨R,F,A,P⟩:=C j q;rw [E] at A;simp only [Option.some.injEq,Addr.mk.injEq,and_true] at A;obtain ⟨rfl,rfl⟩:=A;obtain ⟨p,W,t,f,B,H,I⟩:=P;rw [hb] at B;simp only [Option.some.injEq,Prod.mk.injEq,Obj.cells.injEq] at B;obtain ⟨_,rfl,_⟩:=B;rw [Nat.mul_one] at H I;exact ⟨by simp at H;omega,I⟩
 obtain ⟨⟨j,q⟩,s,u⟩:=hx g (by have:=(n i D).1;omega);obtain ⟨Q,l⟩:=n j q;simp only at s u;generalize g+j=o at Q l s u;generalize xs[j]=z at l s u
 have:o=0\/o=1\/o=2\/o=3\/o=4\/o=5:=U
 rcases this with rfl | rfl | rfl | rfl | rfl | rfl
 ·have e:(#[.int .i64 3]:Array aZ)=#[.int .i64 z]:=l;simp at e;exact s rfl e.symm
 ·have e:(#[.int .i64 1]:Array aZ)=#[.int .i64 z]:=l;simp at e;exact u rfl e.symm
 ·have e:(#[a]:Array aZ)=#[.int .i64 z]:=l;simp at e;exact ha _ _ e
 ·have e:(#[b]:Array aZ)=#[.int .i64 z]:=l;simp at e;exact hb' _ _ e
 ·have e:(#[c]:Array aZ)=#[.int .i64 z]:=l;simp at e;exact hc _ _ e
 ·have e:(#[d]:Array aZ)=#[.int .i64 z]:=l;simp at e;exact hd _ _ e
end Go.Ns
namespace Go.Ns
section
variable {m:EZ} {b np i k n:Nat}
structure EZ.Sym(m:EZ):Prop where
 ok:m.ok
 diag:∀i,m i i=0
 sym:∀i k,m i k=m k i
theorem V6(b i:Nat)(m:EZ)(hd:m b b=0)(h0:m.ok):∀n x y,Hn b i m n x y=if x=i/\y<n then min (m i y) (m i b+m b y) else m x y
 | 0,x,y=>by rw [aX U];rfl
 | n+1,x,y=>by
  have d:=V6 b i m hd h0 n;have e:Hn b i m (n+1)=PD b i (Hn b i m n) n:=At _ _ _;rw [e];unfold PD EZ.set;by_cases c:x=i/\y=n
  ·obtain ⟨rfl,rfl⟩:=c;rw [aY ⟨rfl,rfl⟩,aY ⟨rfl,Nat.lt_succ_self _⟩,d x y,aX U,d x b,d b y];have j:=h0 x b;have h:=h0 b y;have f:=hd;by_cases a:x=x/\b<y
   ·rw [aY a];by_cases g:b=x/\y<y
    ·omega
    ·rw [aX g];rw [f];omega
   ·rw [aX a];by_cases g:b=x/\y<y
    ·omega
    ·rw [aX g]
  ·rw [aX c,d x y];by_cases a:x=i/\y<n
   ·rw [aY a,aY ⟨a.1,U⟩]
   ·rw [aX a,aX (λe=>a ⟨e.1,U⟩)]
theorem farI1_get(b i:Nat)(m:EZ)(hd:m b b=0)(h0:m.ok)(x y:Nat):OI b np m i x y=if x=i/\y<np then min (m i y) (m i b+m b y) else m x y:=by
 unfold OI;split
 ·rename_i e
  by_cases a:x=i/\y<np
  ·obtain ⟨rfl,c⟩:=a;rw [aY ⟨rfl,c⟩,e]
   have:=h0 x y
   have:=h0 b y
   omega
  ·rw [aX a]
 ·exact V6 b i m hd h0 np x y
theorem RG(b:Nat)(m:EZ)(hd:m b b=0)(h0:m.ok):∀n x y,Ev b np m n x y=if x<n/\y<np then min (m x y) (m x b+m b y) else m x y
 | 0,x,y=>by rw [aX U];rfl
 | n+1,x,y=>by
  have c:=RG b m hd h0 n;have e:Ev b np m (n+1)=OI b np (Ev b np m n) n:=At _ _ _;have d:Ev b np m n b b=0:=by rw [c b b,hd];split <;> omega
  rw [e,farI1_get b n _ d (PE h0)];by_cases f:x=n/\y<np
  ·obtain ⟨rfl,a⟩:=f;rw [aY ⟨rfl,a⟩,aY ⟨Nat.lt_succ_self _,a⟩,c x y,aX U,c x b,aX U,c b y];have h:=h0 x b;have j:=h0 b y;by_cases g:b<x/\y<np
   ·rw [aY g,hd];omega
   ·rw [aX g]
  ·rw [aX f,c x y];by_cases a:x<n/\y<np
   ·rw [aY a,aY ⟨U,a.2⟩]
   ·rw [aX a,aX (λe=>U)]
structure FW(np n:Nat)(m0 m:EZ):Prop where
 s:m.Sym
 tri:∀c,c<n->∀i k,i<np->k<np->m i k<=m i c+m c k
 le:∀i k,m i k<=m0 i k
theorem FW.step{m0:EZ}(h:FW np n m0 m)(hn:n<np):FW np (n+1) m0 (Ev n np m np):=by
 have g:=RG (np:=np) n m (h.s.diag n) h.s.ok np;have s:=h.s;have p:=λi k=>s.ok i k;refine ⟨⟨PE s.ok,λi=>?_,λi k=>?_⟩,λc l i k a f=>?_,λi k=>?_⟩
 ·rw [g i i];have:=p i n;have:=p n i;have:=s.diag i;split <;> omega
 ·rw [g i k,g k i];have j:=s.sym i k;have o:=s.sym i n;have r:=s.sym k n;by_cases c:i<np/\k<np
  ·rw [aY c,aY ⟨c.2,c.1⟩];omega
  ·rw [aX c,aX (λe=>c ⟨e.2,e.1⟩)];exact j
 ·rw [g i k,g i c,g c k,aY ⟨a,f⟩,aY ⟨a,U⟩,aY ⟨U,f⟩];have d:=s.diag n
  have:=p i n
  have:=p n k
  have:=p n c
  have:=p c n
  rcases Nat.lt_or_ge c n with q | q
  ·have t1:=h.tri c q i k a f;have t2:=h.tri c q i n a hn;have t3:=h.tri c q n k hn f;omega
  ·have:c=n:=U
   subst this;omega
 ·rw [g i k];have:=h.le i k;split <;> omega
theorem FW.all{m0:EZ}(s:m0.Sym):∀n,n<=np->FW np n m0 (Cb np m0 n)
 | 0,_=>⟨s,λc a=>absurd a (Nat.not_lt_zero _),λ_ _=>Int.le_refl _⟩
 | n+1,h=>by
  have d:=FW.all s n U;have e:Cb np m0 (n+1)=Ev n np (Cb np m0 n) np:=At _ _ _;rw [e];exact d.step U
end
theorem TN(i:Nat)(m:EZ):∀n x y,HI i m n x y=if x=i/\y<n/\i≠y then 1048576 else m x y
 | 0,x,y=>by rw [aX U];rfl
 | n+1,x,y=>by
  have a:=TN i m n;have e:HI i m (n+1)=Lk i (HI i m n) n:=At _ _ _;rw [e];unfold Lk;by_cases h:(i:Int)=(n:Int)
  ·rw [aX (λq=>q h),a x y];by_cases c:x=i/\y<n/\i≠y
   ·rw [aY c,aY ⟨c.1,U,c.2.2⟩]
   ·rw [aX c,aX (λq=>c ⟨q.1,U,q.2.2⟩)]
  ·rw [aY h];show (if x=i/\y=n then 1048576 else HI i m n x y)=_;by_cases c:x=i/\y=n
   ·rw [aY c,aY ⟨c.1,U,U⟩]
   ·rw [aX c,a x y];by_cases d:x=i/\y<n/\i≠y
    ·rw [aY d,aY ⟨d.1,U,d.2.2⟩]
    ·rw [aX d,aX (λq=>d ⟨q.1,U,q.2.2⟩)]
theorem KN:∀n x y,Iq n x y=if x<n/\y<4/\x≠y then 1048576 else 0
 | 0,x,y=>by rw [aX U];rfl
 | n+1,x,y=>by
  have a:=KN n;have e:Iq (n+1)=HI n (Iq n) 4:=At _ _ _;rw [e,TN,a x y];by_cases c:x=n/\y<4/\n≠y
  ·rw [aY c,aY ⟨U,c.2.1,U⟩]
  ·rw [aX c];by_cases d:x<n/\y<4/\x≠y
   ·rw [aY d,aY ⟨U,d.2⟩]
   ·rw [aX d,aX (λq=>U)]
theorem far0_sym:(Iq 4).Sym:=⟨Z6,λi=>by rw [KN,aX (λq=>q.2.2 rfl)],λi k=>by
 rw [KN,KN];by_cases c:i<4/\k<4/\i≠k
 ·rw [aY c,aY ⟨c.2.1,c.1,c.2.2.symm⟩]
 ·rw [aX c,aX (λq=>c ⟨q.2.1,q.1,q.2.2.symm⟩)]⟩
section
variable {p:AI} {ws:List AF} {np:Nat}
structure Mi(ws:List AF):Prop where
 rng:∀k,k<ws.length->0<=(ws.getD k AF.z).a/\(ws.getD k AF.z).a<(ws.getD k AF.z).b
 one:∀j k,j<k->k<ws.length->¬((ws.getD j AF.z).a=(ws.getD k AF.z).a/\(ws.getD j AF.z).b=(ws.getD k AF.z).b)
theorem Ku(h:∀k,k<ws.length->DD np ws k=0):Mi ws:=by
 have f:∀k,k<ws.length->(0<=(ws.getD k AF.z).a)/\¬(ws.getD k AF.z).b<=(ws.getD k AF.z).a/\(ws.take k).any (λy=>decide (y.a=(ws.getD k AF.z).a/\y.b=(ws.getD k AF.z).b))=false:=λk g=>by
  have w:=(X4 h k g).1.1
  have:=h k g
  unfold DD at this;split at this
  ·rename_i a;exact absurd this a
  ·split at this
   ·cases this
   ·rename_i b
    split at this
    ·cases this
    ·rename_i c
     exact ⟨w,b,by simpa using c⟩
 refine ⟨λk g=>⟨(f k g).1,by have:=(f k g).2.1;omega⟩,λj k i g e=>?_⟩
 have:=(f k g).2.2
 rw [V5 (d:=AF.z) i U (decide_eq_true e)] at this;cases this
theorem Lu(m:EZ)(k x y:Nat)(hk:(ws.getD k AF.z).a.toNat≠(ws.getD k AF.z).b.toNat):KG p ws m k x y=if (x=(ws.getD k AF.z).a.toNat/\y=(ws.getD k AF.z).b.toNat)\/(x=(ws.getD k AF.z).b.toNat/\y=(ws.getD k AF.z).a.toNat) then p.ways k else m x y:=by
 unfold KG EZ.set;by_cases c:x=(ws.getD k AF.z).b.toNat/\y=(ws.getD k AF.z).a.toNat
 ·rw [aY c,aY (.inr c)]
 ·rw [aX c];by_cases d:x=(ws.getD k AF.z).a.toNat/\y=(ws.getD k AF.z).b.toNat
  ·rw [aY d,aY (.inl d)]
  ·rw [aX d,aX (λq=>q.elim d c)]
theorem KO(hp:BX p)(hw:Mi ws):∀n,n<=ws.length->(A3 p ws n).Sym
 | 0,_=>far0_sym
 | n+1,h=>by
  have d:=KO hp hw n U;have r:=hw.rng n U;have g:=λx y=>Lu (p:=p) (ws:=ws) (A3 p ws n) n x y U;have e:A3 p ws (n+1)=KG p ws (A3 p ws n) n:=At _ _ _;refine ⟨Ll hp,λi=>?_,λi k=>?_⟩
  ·rw [e,g,aX U];exact d.diag i
  ·rw [e,g,g];by_cases c:(i=(ws.getD n AF.z).a.toNat/\k=(ws.getD n AF.z).b.toNat)\/(i=(ws.getD n AF.z).b.toNat/\k=(ws.getD n AF.z).a.toNat)
   ·rw [aY c,aY U]
   ·rw [aX c,aX U];exact d.sym i k
theorem RH(hw:Mi ws):∀n,n<=ws.length->∀k,k<n->A3 p ws n (ws.getD k AF.z).a.toNat (ws.getD k AF.z).b.toNat=p.ways k
 | 0,_,k,c=>absurd c (Nat.not_lt_zero _)
 | n+1,h,k,c=>by
  have r:=hw.rng n U;have d:=hw.rng k U;have g:=λx y=>Lu (p:=p) (ws:=ws) (A3 p ws n) n x y U;have e:A3 p ws (n+1)=KG p ws (A3 p ws n) n:=At _ _ _;rw [e,g];by_cases q:k=n
  ·subst q;rw [aY (.inl ⟨rfl,rfl⟩)]
  ·have one:=hw.one k n U U;rw [aX U];exact RH hw n U k U
theorem Jc(hp:BX p)(hw:Mi ws):FW np np (A3 p ws ws.length) (Aw np ws p):=FW.all (KO hp hw _ (Nat.le_refl _)) np (Nat.le_refl _)
theorem X5(hp:BX p)(hw:Mi ws){k:Nat}(hk:k<ws.length):Aw np ws p (ws.getD k AF.z).a.toNat (ws.getD k AF.z).b.toNat<=p.ways k:=by
 have:=(Jc (np:=np) hp hw).le (ws.getD k AF.z).a.toNat (ws.getD k AF.z).b.toNat
 rwa [RH hw _ (Nat.le_refl _) k hk] at this
end
end Go.Ns
namespace Go.Ns
section
variable {ws:List AF} {c:Gl} {x:AF} {i n k np:Nat}
theorem KP(h:c i=true):GR c x i=true:=by
 unfold GR Gl.set;by_cases e:i=x.b.toNat
 ·rw [aY e];by_cases d:x.b.toNat=x.a.toNat
  ·rw [aY d];rw [e,d] at h;rw [h];simp
  ·rw [aX d,<-e,h];simp
 ·rw [aX e];by_cases d:i=x.a.toNat
  ·rw [aY d,<-d,h];simp
  ·rw [aX d];exact h
theorem V7(h:c x.a.toNat=true\/c x.b.toNat=true):GR c x x.a.toNat=true/\GR c x x.b.toNat=true:=by
 unfold GR Gl.set;rcases h with h | h
 ·constructor
  ·by_cases e:x.a.toNat=x.b.toNat
   ·rw [aY e];simp [h]
   ·rw [aX e];simp [h]
  ·rw [aY rfl];simp [h]
 ·constructor
  ·by_cases e:x.a.toNat=x.b.toNat
   ·rw [aY e];simp [h]
   ·rw [aX e];simp [h]
  ·rw [aY rfl];simp [h]
theorem Ht:∀(l:List AF)(c:Gl),c i=true->l.foldl GR c i=true
 | [],_,h=>h
 | x ::l,c,h=>Ht l _ (KP h)
theorem Jd:∀(l:List AF)(c:Gl),x ∈ l->(c x.a.toNat=true\/c x.b.toNat=true)->l.foldl GR c x.a.toNat=true/\l.foldl GR c x.b.toNat=true
 | y ::l,c,hx,h=>by
  rcases List.mem_cons.1 hx with e | hx
  ·subst e;have b:=V7 h;exact ⟨Ht l _ b.1,Ht l _ b.2⟩
  ·exact Jd l _ hx (h.imp KP KP)
theorem KQ:∀n (c:Gl),EY ws (n+1) c=HG ws (EY ws n c)
 | 0,_=>rfl
 | n+1,c=>KQ n (HG ws c)
theorem Na{m:Nat}(h:EY ws n c i=true):∀d,m=n+d->EY ws m c i=true
 | 0,e=>by rw [e];exact h
 | d+1,e=>by
  rw [e,show n+(d+1)=(n+d)+1 by omega,KQ];exact Ht ws _ (Na h d rfl)
def c0:Gl:=Gl.none.set 0 true
def I6(ws:List AF)(l:List Int):Prop:=∀i,i<l.length->EY ws i c0 (l.getD i 0).toNat=true
theorem I6.snoc{l:List Int}{q:Int}(h:I6 ws l)(hq:EY ws l.length c0 q.toNat=true):I6 ws (l++[q]):=λi a=>by
 rw [List.length_append,List.length_singleton] at a;rw [II];by_cases e:i<l.length
 ·rw [aY e];exact h i e
 ·rw [aX e,show i=l.length by omega,Nat.sub_self];exact hq
theorem I6.step{l:List Int}(h:I6 ws l)(hk:k<l.length)(hx:x ∈ ws):I6 ws (DA l k x):=by
 have one:∀{l:List Int}{p q:Int},I6 ws l->k<l.length->(x.a=p/\x.b=q\/x.b=p/\x.a=q)->I6 ws (Ir l k p q):=by
  intro l p q h hk d;unfold Ir;split
  ·rename_i e
   have f:=h k hk;rw [<-e.1] at f;have g:EY ws (k+1) c0 q.toNat=true:=by
    rw [KQ];rcases d with ⟨rfl,rfl⟩ | ⟨rfl,rfl⟩
    ·exact (Jd ws _ hx (.inl f)).2
    ·exact (Jd ws _ hx (.inr f)).1
   exact h.snoc (Na g (l.length-(k+1)) U)
  ·exact h
 have j:=one h hk (.inl ⟨rfl,rfl⟩);have m:=(Lt l k x.a x.b).length_le;exact one j U (.inr ⟨rfl,rfl⟩)
theorem I6.ways{l:List Int}(h:I6 ws l)(hk:k<l.length):∀j,j<=ws.length->I6 ws (Ag ws l k j)
 | 0,_=>h
 | j+1,a=>(I6.ways h hk j U).step (Nat.lt_of_lt_of_le hk (Is j).length_le) (BV U)
theorem Nc:∀k,I6 ws (Ax ws k)
 | 0=>λi a=>by
  have:i=0:=by
   have:i<1:=a
   omega
  subst this;rfl
 | k+1=>by
  unfold Ax;split
  ·rename_i e;exact (Nc k).ways e _ (Nat.le_refl _)
  ·exact Nc k
theorem Uo(hn:0<np)(hw:RE np ws)(h:¬(Ha ws).length<np):GS np ws=0:=by
 have g:IN np (Ha ws):=Ks hn hw 4;have q:=g.len;have all:∀y,y<np->EY ws np c0 y=true:=λy j=>by
  have a:(y:Int) ∈ Ha ws:=Decidable.byContradiction λe=>by
   have:=(g.snoc (x:=(y:Int)) ⟨U,U⟩ e).len
   rw [List.length_append,List.length_singleton] at this;omega
  obtain ⟨i,d,e⟩:=List.mem_iff_getElem.1 a;have f:EY ws i c0 ((Ha ws).getD i 0).toNat=true:=Nc (ws:=ws) 4 i d;have o:(Ha ws).getD i 0=(y:Int):=by
   rw [List.getD_eq_getElem?_getD,List.getElem?_eq_getElem d];exact e
  rw [o] at f;exact Na f (np-i) (by have p:i<(Ha ws).length:=d;omega)
 unfold GS;rw [aX];intro e;obtain ⟨b,l,m⟩:=List.any_eq_true.1 e;unfold Ox at l;obtain ⟨y,j,rfl⟩:=List.mem_map.1 l
 have:EY ws np (Gl.none.set 0 true) y=true:=all y (List.mem_range.1 j)
 rw [this] at m;cases m
end
section
variable {aS aR:Int} {ps:List bB} {ws:List AF} {js:List AM} {ns:List AL}
theorem X6(hn:0<ps.length)(h:Fo ps.length ws=0):E5 ps.length ws=0:=by
 unfold Fo at h;split at h
 ·cases h
 ·rename_i a
  split at h
  ·rename_i b;exact absurd h b
  ·rename_i b
   split at h
   ·cases h
   ·rename_i c
    unfold E5;rw [aX a,aX b];have z:=DX (Decidable.not_not.1 b);exact Uo hn (X4 λk d=>z k (Nat.zero_le _) U) c
theorem V8(h:D5 aS aR ps ws js ns=0):BW aS aR ps ws js ns=0:=by
 unfold D5 at h;split at h
 ·rename_i a;exact absurd h a
 ·rename_i a
  split at h
  ·rename_i b;exact absurd h b
  ·rename_i b
   split at h
   ·rename_i c;exact absurd h c
   ·rename_i c
    split at h
    ·rename_i d;exact absurd h d
    ·rename_i d
     have f:=Decidable.not_not.1 a;have e:=Decidable.not_not.1 b;have g:=X6 (KM e).1 (Decidable.not_not.1 c);have i:=Decidable.not_not.1 d;unfold BW;refine CG (k:=5) (λj l=>?_) (Nat.le_refl _)
     match j with
     | 0=>exact f
     | 1=>exact e
     | 2=>exact g
     | 3=>exact i
     | 4=>exact h
     | j+5=>omega
theorem fit9_ok(h:fit9 aS aR ps ws js ns=true):BW aS aR ps ws js ns=0/\∀k,(ps.getD k (⟨#[]⟩:bB)).size<=1000:=by
 unfold fit9 at h;rw [Bool.and_eq_true] at h;exact ⟨V8 (of_decide_eq_true h.2),Mh (by simpa using h.1)⟩
end
end Go.Ns
namespace Go.Ns
open Go.Conc
section
variable {P:Program} {E:Gb P} {O:Nat->aZ} {ds:List Deferred} {h:Y} {T:(Nat->aZ)->List Deferred->Y->Prop} {dst:Option Nat} {ty:bA} {pos:String} {af:Array Edge} {gd:Option (Nat×Bool)}
end
section
variable {F G:AI->Int} {l:List AI} {x:AI}
theorem AAI(h:0<l.length):∀k,k<=l.length-1->∃x ∈ l,Xk F l k=F x
 | 0,_=>⟨_,BV h,rfl⟩
 | k+1,b=>by
  obtain ⟨x,a,e⟩:=AAI h k U;rcases Int.le_total (Xk F l k) (F ((l.drop 1).getD k AI.zero)) with q | q
  ·exact ⟨x,a,(Int.min_eq_left q).trans e⟩
  ·exact ⟨_,NQ U,Int.min_eq_right q⟩
theorem AAJ(h:0<l.length):∀k,k<=l.length-1->∃x ∈ l,Xl F l k=F x
 | 0,_=>⟨_,BV h,rfl⟩
 | k+1,b=>by
  obtain ⟨x,a,e⟩:=AAJ h k U;rcases Int.le_total (Xl F l k) (F ((l.drop 1).getD k AI.zero)) with q | q
  ·exact ⟨_,NQ U,Int.max_eq_right q⟩
  ·exact ⟨x,a,(Int.max_eq_left q).trans e⟩
theorem fMin_mem(h:0<l.length):∃x ∈ l,DT F l=F x:=AAI h _ (Nat.le_refl _)
theorem fMax_mem(h:0<l.length):∃x ∈ l,Ba F l=F x:=AAJ h _ (Nat.le_refl _)
end
section
variable {aS aR:Int} {ps:List bB} {ws:List AF} {js:List AM} {ns:List AL} {a b c:Int}
theorem openB_09(bk:BW aS aR ps ws js ns=0):(AV aS aR ps ws js ns 0=0/\0<(AD ws js ns).length)\/(AV aS aR ps ws js ns 0=9/\(AD ws js ns).length=0):=by
 unfold AV;rw [aX (λe=>e bk),aX aD];by_cases e:(AD ws js ns).length=0
 ·rw [aY e];exact .inr ⟨rfl,e⟩
 ·rw [aX e];exact .inl ⟨rfl,U⟩
end
section
variable {aS aR:Int} {ps:List bB} {ws:List AF} {js:List AM} {ns:List AL} {a b c s:Int}
end
end Go.Ns
namespace Go.Ns
open Go.Conc
section
variable {P:Program} {Post:aZ->World->Prop}
def AAK(P:Program)(Post:aZ->World->Prop):Wk P:=⟨true,EE P Post,LG⟩
theorem Up:Li (AAK P Post):=⟨Post,rfl⟩
theorem top_of_tr{f:FuncId}{fn:Func}{c:Code}{args:Array aZ}{h:Y}{R:aZ->Y->Prop}(hf:P.funcs[f]? =some fn)(hb:fn.body=some c)(hsz:args.size<=fn.ntmps)(hin:P.inits.idxOf? f=none)(hpost:∀v h',R v h'->∀w,EL w h'->Post v w)
  (x:Tr ⟨AAK P Post,f,none,fn.ntmps⟩ c (λi=>args.getD i undef) [] h (λe O ds h'=>(e=.normal\/e=.ret)/\Gf P fn O R ds h')):EE P Post (G (Frame.enter P f args .normal) []) h:=by
 have u:Frame.enter P f args .normal=Cd (Frame.enter P f args .normal) (args++Array.replicate (fn.ntmps-args.size) undef) [] [.code c]:=by
  simp [Frame.enter,Cd,hf,hb]
 rw [u];let y:Lv:=λj t ds h'=>(j=none\/j=some .ret)/\∃O,BT t fn.ntmps O/\Gf P fn O R ds h';have d:∀O ds h' t k,BT t fn.ntmps O->Gf P fn O R ds h'->(AAK P Post).K (G (Er (Frame.enter P f args .normal) t ds k) []) h':=by
  intro O ds h' t k g a;refine N1 (W:=AAK P Post) (R:=R) hf (b:=Frame.enter P f args .normal) rfl (λt k v h h' z l=>?_) ds h' t k g a;refine XA rfl λw A=>?_;obtain ⟨p,q,B,r⟩:=l w A;refine ⟨v,p,seen P f q++ #[],h',?_,r.sub (es':=seen P f q++ #[]) λe n=>?_,hpost v h' z p r.fits⟩
  ·rw [LX];unfold unwind;have o:(Er (Frame.enter P f args .normal) t [] k).fn=f:=rfl;have C:(Er (Frame.enter P f args .normal) t [] k).kind=.normal:=rfl;have D:(Er (Frame.enter P f args .normal) t [] k).mode=.returning:=rfl;have E:(Er (Frame.enter P f args .normal) t [] k).defers=[]:=rfl;have F:(Er (Frame.enter P f args .normal) t [] k).tmps=t:=rfl;simp only [E,D,o,hf,F,B,GStep.after,doReturn,C,hin];rfl
  ·rw [Array.append_empty] at n;exact mem_seen n
 refine x (Frame.enter P f args .normal) [] [] y _ rfl rfl ⟨?_,?_,?_⟩ ⟨by simp;omega,λi=>?_⟩ ?_
 ·rintro t ds h' ⟨_,O,g,a⟩;exact Wk.go (Er (Frame.enter P f args .normal) t ds []) (λw=>by rw [A6];simp [stepG.exec,Cd,Er,G,Frame.enter]) (d O ds h' t [] g a)
 ·rintro t ds h' k ⟨_,O,g,a⟩;exact Wk.go (Er (Frame.enter P f args .normal) t ds (.code .ret ::k)) (λw=>by rw [A6];simp [stepG.exec,Cd,Er,G,Frame.enter]) (d O ds h' t _ g a)
 ·rintro id t ds h' k _ ⟨h1 | h1,_⟩ <;> cases h1
 ·by_cases H:i<args.size
  ·simp [Array.getD_eq_getD_getElem?,Array.getElem?_append_left H]
  ·simp only [Array.getD_eq_getD_getElem?];rw [Array.getElem?_append_right U,Array.getElem?_eq_none (show args.size<=i by omega),Array.getElem?_replicate];split <;> rfl
 ·rintro e O ds h' ⟨n,a⟩ s m;rcases n with rfl | rfl
  ·exact Wk.go (Er (Frame.enter P f args .normal) s ds []) (λw=>by rw [A6];simp [stepG.exec,Cd,Er,G,Frame.enter]) (d O ds h' s [] m a)
  ·exact ⟨.inr rfl,O,m,a⟩
def Y.of(W:World):Y:=λb=>(W.heap[b]?).map λo=>(false,o)
theorem Y.of_some{W:World}{b:Nat}{o:Obj}(h:W.heap[b]? =some o):Y.of W b=some (false,o):=by unfold Y.of;rw [h];rfl
theorem fits_of(W:World):EL W (Y.of W):=λb p o h=>by
 unfold Y.of at h;cases e:W.heap[b]? with
 | none=>rw [e] at h;cases h
 | some x=>rw [e] at h;cases h;rfl
theorem kept_of{W w:World}{h:Y}(l:(Y.of W).Le h)(f:EL w h){b:Nat}{o:Obj}(hb:W.heap[b]? =some o):w.heap[b]? =some o:=f b _ _ (l.keep (Y.of_some hb) rfl)
theorem X7{g:Goroutine}{W:World}(hg:EE P Post g (Y.of W)):Bj P (JG Post W.os W.output) (solo g W) #[]:=by
 have c:∀k a,touchAt (#[]:Trace) k=some a->False:=λk a h=>by
  obtain ⟨e,l,_⟩:=touch_of h;simp at l
 refine hg #[g] W none (λ_=>0) #[] ⟨rfl,?_,fits_of W,?_,?_,λk a b d=>(c k a d).elim,?_,λk a d=>(c k a d).elim,λb p o k a _ _ d=>(c k a d).elim⟩
 ·intro j x q f;rw [Array.getElem?_eq_none (by simp;omega)] at f;cases f
 ·intro e CX;simp at CX
 ·rintro said ⟨i,j,m,⟨a,b,n,_⟩,_⟩;exact c i a n
 ·intro e CX;simp at CX
end
end Go.Ns
namespace Go.Ns
open Go.Conc Go.ChangeShapes Go.WideShapes Go.ChangeAt Go.RowKit
section
variable {P:Program} {W:World}
theorem RI{b off n:Nat}{cs:List aZ}(h:W.cells? 0 ⟨b,off,none⟩ n=some cs)(hn:0<n):AU (Y.of W) b off n cs.toArray:=by
 obtain ⟨_,p,k⟩:=World.cells?_some h;have hcell:∀i,i<n->W.cell? ⟨b,off+i,none⟩=cs[i]? :=λi d=>by
  have:=k i d
  unfold Addr.add at this;split at this
  ·rename_i e;subst e;exact this
  ·exact this
 have j:=hcell 0 hn;unfold World.cell? at j;cases g:W.heap[b]? with
 | none=>simp [g,List.getElem?_eq_getElem (show 0<cs.length by omega)] at j
 | some o=>
  cases o with
  | cells c t f=>
   have a:∀i,i<n->c[off+i]? =cs[i]? :=λi d=>by
    have:=hcell i d
    unfold World.cell? at this;simpa [g] using this
   have hlast:=a (n-1) U;rw [List.getElem?_eq_getElem (show n-1<cs.length by omega)] at hlast;have l:=(Array.getElem?_eq_some_iff.1 hlast).1;refine ⟨false,c,t,f,Y.of_some g,U,?_⟩;apply Array.ext
   ·simp;omega
   ·intro i q m;have d:i<n:=by simp at m;omega
    have:=a i d
    rw [Array.getElem?_eq_getElem U,List.getElem?_eq_getElem U] at this;simpa using this
  | _=>simp [g,List.getElem?_eq_getElem (show 0<cs.length by omega)] at j
def Opens(P:Program)(e:bA){aQ:Type}(enc:aQ->Array aZ)(good:aQ->Prop):Prop:=
 ∀{H:Type}(en:bA×aZ->H)(W:World)(base:Nat)(sp:Nat->Bool)(held:Bool)(fuel:Nat)(cs:List aZ)(x:DataW H×List MemPlace),DataW.trod en P W base sp held fuel e cs=some x->∃a:aQ,cs=(enc a).toList/\good a
theorem open_sl{H:Type}{en:bA×aZ->H}{sp:Nat->Bool}{held:Bool}{fuel:Nat}{t e:bA}{n:Nat}{aQ:Type}{enc:aQ->Array aZ}{good:aQ->Prop}{v:aZ}{d:DataW H}{ps:List MemPlace}(ht:P.underlying t=some (.slice e))(hc:P.cellsOf e=n)(hn:0<n)
  (ho:Opens P e enc good) (h:DataW.trod en P W 0 sp held fuel t [v]=some (d,ps)) (hw:∀es rs,d=.slice es rs->es.length<=140737488355328):∃xs:List aQ,AG (Y.of W) v n enc xs/\∀x ∈ xs,good x:=by
 rcases DataW.trod_slice ht h with ⟨o,_⟩ | ⟨a,f,p,elems,rest,m,rfl,o,C,_,E,_,q,r,_,_⟩
 ·simp at o;subst o;exact ⟨[],AG.nil _ _ _,λx j=>by cases j⟩
 ·simp only [List.cons.injEq,and_true] at o;subst o;simp only [Prod.mk.injEq] at C;have s:f<=140737488355328:=by
   have:=hw _ _ C.1
   simpa [q] using this
  have each:∀i,i<f->∃x:aQ,∃b c,a=⟨b,c,none⟩/\AU (Y.of W) b (c+i*n) n (enc x)/\good x:=λi l=>by
   have:=r i l
   rw [List.getElem?_eq_getElem U,hc] at this;simp only [Option.bind_eq_some_iff] at this;obtain ⟨F,g,j⟩:=this;obtain ⟨x,w,y⟩:=ho _ _ _ _ _ _ _ _ j;have u:=(World.cells?_some g).2.2 0 hn;have A:=(World.cells?_some g).2.1;rw [List.getElem?_eq_getElem (show 0<F.length by omega)] at u;have B:=World.cell?_spot u;obtain ⟨b,c,spot⟩:=a;have hspot:spot=none\/i≠0:=by
    by_cases D:i=0
    ·subst D;left;simpa [Addr.add] using B
    ·exact .inr D
   have hfirst:spot=none:=by
    rcases hspot with e | e
    ·exact e
    ·have h00:=r 0 U;rw [List.getElem?_eq_getElem U,hc] at h00;simp only [Option.bind_eq_some_iff] at h00;obtain ⟨c0,hc00,_⟩:=h00;have z:=(World.cells?_some hc00).2.2 0 hn;have N:=(World.cells?_some hc00).2.1;rw [List.getElem?_eq_getElem (show 0<c0.length by omega)] at z
     have:=World.cell?_spot z
     simpa [Addr.add] using this
   subst hfirst;refine ⟨x,b,c,rfl,?_,y⟩;have I:(Addr.add ⟨b,c,none⟩ (i*n))=⟨b,c+i*n,none⟩:=by
    unfold Addr.add;split
    ·rename_i e;rw [e];rfl
    ·rfl
   rw [I] at g
   have:=RI g hn
   rw [w] at this;simpa using this
  by_cases K:f=0
  ·subst K;exact ⟨[],⟨some a,p,rfl,Nat.zero_le _,Nat.zero_le _,λi l=>by simp at l⟩,λx j=>by cases j⟩
  ·have k:∀i:Fin f,∃x:aQ,∃b c,a=⟨b,c,none⟩/\AU (Y.of W) b (c+i.val*n) n (enc x)/\good x:=λi=>each i.val i.isLt;refine ⟨List.ofFn λi=>Classical.choose (k i),⟨some a,p,by rw [List.length_ofFn],by rw [List.length_ofFn];exact E,by rw [List.length_ofFn];exact s,λi l=>?_⟩,λx j=>?_⟩
   ·rw [List.length_ofFn] at l;obtain ⟨b,c,w,y,_⟩:=Classical.choose_spec (k ⟨i,l⟩);refine ⟨b,c,by rw [w],?_⟩;rw [List.getElem_ofFn];exact y
   ·obtain ⟨i,rfl⟩:=List.mem_ofFn.1 j;obtain ⟨_,_,_,_,M⟩:=Classical.choose_spec (k i);exact M
def It(P:Program)(W:World)(e:bA){aQ:Type}(enc:aQ->Array aZ)(good:aQ->Prop):Prop:=
 ∀{H:Type}(en:bA×aZ->H)(sp:Nat->Bool)(held:Bool)(fuel:Nat)(cs:List aZ)(x:DataW H×List MemPlace),DataW.trod en P W 0 sp held fuel e cs=some x->(∀y ∈ x.1.weights P e,y<=reachBytes)->∃a:aQ,cs=(enc a).toList/\good a
theorem KR{H:Type}{e:bA}{d:DataW H}{y:Nat}:∀{l:List (DataW H)},d ∈ l->y ∈ d.weights P e->y ∈ DataW.weightsAll P e l
 | c ::l,hd,a=>by
  unfold DataW.weightsAll;rcases List.mem_cons.1 hd with rfl | hd
  ·exact List.mem_append_left _ a
  ·exact List.mem_append_right _ (KR hd a)
theorem Ej{H:Type}{en:bA×aZ->H}{sp:Nat->Bool}{held:Bool}{fuel:Nat}{t e:bA}{n:Nat}{aQ:Type}{enc:aQ->Array aZ}{good:aQ->Prop}{v:aZ}{d:DataW H}{ps:List MemPlace}(ht:P.underlying t=some (.slice e))(hc:P.cellsOf e=n)(hn:0<n)
  (hb:1<=P.bytesOf e) (ho:It P W e enc good) (h:DataW.trod en P W 0 sp held fuel t [v]=some (d,ps)) (hw:∀y ∈ d.weights P t,y<=reachBytes):∃xs:List aQ,AG (Y.of W) v n enc xs/\∀x ∈ xs,good x:=by
 rcases DataW.trod_slice ht h with ⟨o,_⟩ | ⟨a,f,p,elems,rest,m,rfl,o,C,_,K,_,D,q,_,_⟩
 ·simp at o;subst o;exact ⟨[],AG.nil _ _ _,λx j=>by cases j⟩
 ·simp only [List.cons.injEq,and_true] at o;subst o;simp only [Prod.mk.injEq] at C;have E:d=.slice (elems.map (·.1)) (rest.map (·.1)):=C.1;have r:f<=140737488355328:=by
   have:=hw ((elems.map (·.1)).length+(rest.map (·.1)).length |>.mul (P.bytesOf e)) (by rw [E];unfold DataW.weights;rw [ht];exact List.mem_cons_self ..)
   have M:(elems.map (·.1)).length+(rest.map (·.1)).length<=((elems.map (·.1)).length+(rest.map (·.1)).length)*P.bytesOf e:=Nat.le_mul_of_pos_right _ hb;have F:((elems.map (·.1)).length+(rest.map (·.1)).length)*P.bytesOf e<=reachBytes:=this;rw [List.length_map] at M F;unfold reachBytes at F;omega
  have each:∀i,i<f->∃x:aQ,∃b c,a=⟨b,c,none⟩/\AU (Y.of W) b (c+i*n) n (enc x)/\good x:=λi l=>by
   have:=q i l
   rw [List.getElem?_eq_getElem U,hc] at this;simp only [Option.bind_eq_some_iff] at this;obtain ⟨N,g,j⟩:=this;obtain ⟨x,u,w⟩:=ho _ _ _ _ _ _ j λy O=>hw y (by rw [E];unfold DataW.weights;rw [ht];exact List.mem_cons_of_mem _ (List.mem_append_left _ (KR (List.mem_map.2 ⟨_,List.getElem_mem (show i<elems.length by omega),rfl⟩) O)));have s:=(World.cells?_some g).2.2 0 hn;have A:=(World.cells?_some g).2.1;rw [List.getElem?_eq_getElem (show 0<N.length by omega)] at s;have B:=World.cell?_spot s;obtain ⟨b,c,spot⟩:=a;have hspot:spot=none\/i≠0:=by
    by_cases I:i=0
    ·subst I;left;simpa [Addr.add] using B
    ·exact .inr I
   have hfirst:spot=none:=by
    rcases hspot with e | e
    ·exact e
    ·have h00:=q 0 U;rw [List.getElem?_eq_getElem U,hc] at h00;simp only [Option.bind_eq_some_iff] at h00;obtain ⟨c0,hc00,_⟩:=h00;have z:=(World.cells?_some hc00).2.2 0 hn;have X:=(World.cells?_some hc00).2.1;rw [List.getElem?_eq_getElem (show 0<c0.length by omega)] at z
     have:=World.cell?_spot z
     simpa [Addr.add] using this
   subst hfirst;refine ⟨x,b,c,rfl,?_,w⟩;have Q:(Addr.add ⟨b,c,none⟩ (i*n))=⟨b,c+i*n,none⟩:=by
    unfold Addr.add;split
    ·rename_i e;rw [e];rfl
    ·rfl
   rw [Q] at g
   have:=RI g hn
   rw [u] at this;simpa using this
  by_cases R:f=0
  ·subst R;exact ⟨[],⟨some a,p,rfl,Nat.zero_le _,Nat.zero_le _,λi l=>by simp at l⟩,λx j=>by cases j⟩
  ·have k:∀i:Fin f,∃x:aQ,∃b c,a=⟨b,c,none⟩/\AU (Y.of W) b (c+i.val*n) n (enc x)/\good x:=λi=>each i.val i.isLt;refine ⟨List.ofFn λi=>Classical.choose (k i),⟨some a,p,by rw [List.length_ofFn],by rw [List.length_ofFn];exact K,by rw [List.length_ofFn];exact r,λi l=>?_⟩,λx j=>?_⟩
   ·rw [List.length_ofFn] at l;obtain ⟨b,c,u,w,_⟩:=Classical.choose_spec (k ⟨i,l⟩);refine ⟨b,c,by rw [u],?_⟩;rw [List.getElem_ofFn];exact w
   ·obtain ⟨i,rfl⟩:=List.mem_ofFn.1 j;obtain ⟨_,_,_,_,T⟩:=Classical.choose_spec (k i);exact T
theorem Kv{H:Type}{en:bA×aZ->H}{t:bA}(hl:laidOutB P=true)(hr:P.readableRec t=true)(hrow:t<P.types.size){W':World}{v:aZ}{d:DataW H}{ps:List MemPlace}(h:DataW.Trod en P W 0 (λ_=>true) true t v d ps)
  (hk:∀(b:Nat)(o:Obj),W.heap[b]? =some o->W'.heap[b]? =some o) (hlt:∀x ∈ ps,x.block<W.heap.size):DataW.Trod en P W' 0 (λb=>decide (b<W.heap.size)) true t v d ps:=by
 let W2:World:={ W' with os:=W.os,tape:=W.tape,output:=W.output };have c:W.heap.size<=W'.heap.size:=by
  rcases Nat.lt_or_ge W'.heap.size W.heap.size with x | x
  ·have:=hk W'.heap.size _ (Array.getElem?_eq_getElem x)
   rw [Array.getElem?_eq_none (Nat.le_refl _)] at this;cases this
  ·exact x
 have e:Below W.heap.size W W2:=⟨rfl,rfl,rfl,c,λk a=>by
  show W'.heap[k]? =_;rw [Array.getElem?_eq_getElem a];exact hk k _ (Array.getElem?_eq_getElem a)⟩
 exact DataW.Trod.of_heap (w:=W2) (w':=W') rfl (Below.trod hl hr hrow h e hlt)
theorem kept_but{W':World}(hk:∀(b:Nat)(o:Obj),W.heap[b]? =some o->W'.heap[b]? =some o)(ho:W'.os=W.os)(hp:W'.output=W.output)(may:MemPlace->Prop):W.keptBut W' may:=by
 refine ⟨ho,hp,λi a=>?_⟩;rw [hk i _ (Array.getElem?_eq_getElem a),Array.getElem?_eq_getElem a];split <;> simp_all
end
end Go.Ns
namespace Go.Ns
open Go.Conc
theorem Lx{P:Program}{E:Gb P}{O:Nat->aZ}{ds:List Deferred}{h:Y}{T:(Nat->aZ)->List Deferred->Y->Prop}{dst:Option Nat}{ty:bA}{pos:String}{af:Array Edge}{gd:Option (Nat×Bool)}{aQ:Type}
  {s x:bA} {o1 o2:Operand} {h0:Y} {w:aZ} {r e n bytes:Nat} {enc:aQ->Array aZ} {ys:List aQ} (ht:Iy P s x=some (e,n,bytes)) (h1:AN O o1=.slice (some ⟨r,0,none⟩) 0 0) (h2:AN O o2=w)
  (hv:AO h0 h (.slice (some ⟨r,0,none⟩) 0 0) e n enc ([]:List aQ)) (hw:AG h w n enc ys) (l0:∀q,h q=none->h0 q=none) (hb:(2*(([]:List aQ).length+ys.length)+512)*bytes<=2 ^ 48) (hfine:∀y ∈ ys,(enc y).toList.all (·.oneCell')=true)
  (k:∀v' h',AO h0 h' v' e n enc ys->Gc h h' (.slice (some ⟨r,0,none⟩) 0 0) v'->h.Le h'->T (putS O dst v') ds h'):BR E ⟨dst,.call ⟨.builtin .append,#[o1,o2],#[s,x]⟩,ty,pos,af,gd⟩ O ds h T:=
 Pb ht h1 h2 hv hw l0 hb hfine λv' h' o a f g=>k v' h' o ⟨a,f⟩ (.of λb y hb=>by
  by_cases e:b=r
  ·subst e;rcases hv with ⟨q,_⟩ | ⟨m,i,c,q,_,d,p,_⟩
   ·cases q
   ·simp only [Value.slice.injEq,Option.some.injEq,Addr.mk.injEq,and_true] at q;obtain ⟨rfl,_,rfl⟩:=q;obtain ⟨j,l,t⟩:=g b c rfl d;rw [d] at hb;cases hb;rw [l,Array.eq_empty_of_size_eq_zero (show c.size=0 by omega),Array.eq_empty_of_size_eq_zero (show j.size=0 by omega)]
  ·exact a b y hb λq=>e (by simpa [CS] using q.symm))
def KT(n:Nat)(l:List Int):Prop:=l.Nodup/\∀x ∈ l,0<=x/\x<n
section
variable {n i:Nat} {l kn rest:List Int}
theorem KT.at(h:KT n l)(k:Nat)(hk:k<l.length):0<=l.getD k 0/\l.getD k 0<n:=h.2 _ (BV hk)
theorem KT.bell(h:KT n l):Af n l=0:=CG (k:=l.length) (λj a=>by
 have r:=h.at j a;have e:Ci n (l.getD j 0)=0:=by unfold Ci;rw [aX U]
 unfold Ho;rw [aX (λq=>q e),aX];intro q;obtain ⟨x,d,f⟩:=List.any_eq_true.1 q;have b:l.getD j 0=x:=of_decide_eq_true f;obtain ⟨t,g,c⟩:=List.mem_iff_getElem.1 d;rw [List.length_take] at g;rw [List.getElem_take] at c
 have:=(List.pairwise_iff_getElem.1 (List.nodup_iff_pairwise_ne.1 h.1)) t j U a U
 rw [Dy 0 a] at b;exact this (c.trans b.symm)) (Nat.le_refl _)
theorem KT.len(h:KT n l):l.length<=n:=H1 h.bell
theorem KT.left(h:KT n (kn++rest)):KT n kn:=⟨(List.nodup_append.1 h.1).1,λx a=>h.2 x (List.mem_append_left _ a)⟩
theorem perm_out{l:List Int}:∀{i:Nat}(hi:i<l.length),([l[i]]++l.eraseIdx i).Perm l:=by
 induction l with
 | nil=>intro i hi;cases hi
 | cons x l a=>
  intro i hi;cases i with
  | zero=>exact List.Perm.refl _
  | succ i=>exact (List.Perm.swap _ _ _).trans ((a (Nat.lt_of_succ_lt_succ hi)).cons x)
theorem KT.next(h:KT n (kn++rest))(hi:i<rest.length):KT n (kn++[rest.getD i 0]++rest.eraseIdx i):=by
 have p:(kn++[rest.getD i 0]++rest.eraseIdx i).Perm (kn++rest):=by
  rw [List.append_assoc];refine List.Perm.append_left kn ?_;rw [Dy 0 hi];exact perm_out hi
 exact ⟨p.nodup_iff.2 h.1,λx a=>h.2 x (p.mem_iff.1 a)⟩
theorem KT.first(n:Nat):KT n (CW n):=by
 induction n with
 | zero=>exact ⟨List.nodup_nil,λx hx=>by cases hx⟩
 | succ n c=>
  have m:∀x ∈ CW n,0<=x/\x<(n:Int):=c.2;refine ⟨List.nodup_append.2 ⟨c.1,aD,λa d b f e=>?_⟩,λx hx=>?_⟩
  ·rw [List.mem_singleton.1 f] at e
   have:=m a d
   omega
  ·rcases List.mem_append.1 hx with hx | hx
   ·have:=m x hx
    omega
   ·rw [List.mem_singleton.1 hx];omega
end
def FR:Nat->Nat
 | 0=>1
 | n+1=>1+(n+1)*FR n
theorem RJ:∀n,n<=4->FR n<=65
 | 0,_=>aC
 | 1,_=>aC
 | 2,_=>aC
 | 3,_=>aC
 | 4,_=>aC
 | n+5,h=>U
theorem X8{n i:Nat}(hn:n<=4)(hi:i<=n):1+i*FR (n-1)<=65:=by
 rcases Nat.eq_zero_or_pos n with e | e
 ·subst e
  have:i=0:=U
  subst this;decide
 ·have h:=RJ n hn;have a:FR n=1+n*FR (n-1):=by
   cases n with
   | zero=>omega
   | succ n=>rfl
  have:=Nat.mul_le_mul_right (FR (n-1)) hi
  omega
theorem V9{n i:Nat}(hi:i=n){m:Nat}(h:m<=1+i*FR (n-1)):m<=FR n:=by
 subst hi;cases i with
 | zero=>simp at h;exact h
 | succ i=>exact h
def He(n:Nat)(xl:List Sl):Prop:=∀x ∈ xl,KT n x.2
section
variable {n:Nat} {a b:List Sl}
theorem He.app(ha:He n a)(hb:He n b):He n (a++b):=λx c=>(List.mem_append.1 c).elim (ha x) (hb x)
theorem He.one{v:aZ}{l:List Int}(h:KT n l):He n [(v,l)]:=λx c=>by rw [List.mem_singleton.1 c];exact h
theorem He.at(h:He n a){k:Nat}(hk:k<a.length):KT n (a.getD k Sl.z).2:=h _ (BV hk)
end
section
variable {l:List Int} {i q:Nat}
end
section
variable {aS aR:Int} {ps:List bB} {ws:List AF} {js:List AM} {ns:List AL} {l:List Int} {p:AI} {i:Nat}
end
section
variable {F G:AI->Int} {l:List AI}
end
section
variable {aS aR:Int} {ps:List bB} {ws:List AF} {js:List AM} {ns:List AL} {l:List Int} {i k:Nat}
end
end Go.Ns
namespace Go.Ns
section
variable {a b c:List Int} {x y:Int}
theorem Mj(x y:Int)(a b:List Int):∀f k,Ey (x ::a) (y ::b) f (k+1)=Ey a b f k
 | 0,k=>by
  unfold Ey;by_cases h:(a.length:Int)<b.length
  ·rw [aY h,aY (by simp only [List.length_cons];omega)]
  ·rw [aX h,aX (by simp only [List.length_cons];omega)]
 | f+1,k=>by
  unfold Ey;rw [Mj x y a b f (k+1)];by_cases h:(b.length:Int)<=(k:Int)
  ·rw [aY h,aY (by simp only [List.length_cons];omega)]
  ·rw [aX h,aX (by simp only [List.length_cons];omega)];rfl
theorem Nd(x y:Int)(a b:List Int):Hl (x ::a) (y ::b)=if¬IV x y=0 then IV x y else Hl a b:=by
 show Ey (x ::a) (y ::b) (a.length+1) 0=_;unfold Ey;rw [aX (by simp only [List.length_cons];omega),Mj];rfl
theorem cmpL_nil(b:List Int):Hl [] b<0↔b≠[]:=by
 cases b with
 | nil=>exact ⟨λh=>absurd h aC,λh=>absurd rfl h⟩
 | cons y b=>
  refine ⟨λ_=>aD,λ_=>?_⟩;show (if ((([]:List Int).length:Nat):Int)<((y ::b).length:Nat) then (-1:Int) else 0)<0;rw [aY (by simp only [List.length_cons,List.length_nil];omega)];decide
theorem TO(x:Int)(a:List Int):¬Hl (x ::a) []<0:=by
 show¬Ey (x ::a) [] (a.length+1) 0<0
 unfold Ey;rw [aY aD];decide
theorem Nf:∀(a b:List Int),Hl a b<0->¬Hl b a<0
 | [],[],h=>absurd h aC
 | [],y ::b,_=>TO y b
 | x ::a,[],h=>absurd h (TO x a)
 | x ::a,y ::b,h=>by
  rw [Nd] at h ⊢;have f:=Nf a b;by_cases d:x<y
  ·rw [show IV y x=1 by unfold IV;rw [aX U,aY d],aY aC];decide
  ·by_cases e:y<x
   ·rw [show IV x y=1 by unfold IV;rw [aX d,aY e],aY aC] at h;exact absurd h aC
   ·rw [show IV x y=0 by unfold IV;rw [aX d,aX e],aX aC] at h;rw [show IV y x=0 by unfold IV;rw [aX e,aX d],aX aC];exact f h
theorem WA(a:List Int):¬Hl a a<0:=λh=>Nf a a h h
theorem WB(l:List Int):∀{a b:List Int},Hl a b<0->Hl (l++a) (l++b)<0:=by
 induction l with
 | nil=>exact λh=>h
 | cons x l d=>
  intro a b h;show Hl (x ::(l++a)) (x ::(l++b))<0;rw [Nd,aX (by unfold IV;simp)];exact d h
theorem cmpL_lt(h:x<y)(a b:List Int):Hl (x ::a) (y ::b)<0:=by
 rw [Nd,show IV x y= -1 by unfold IV;rw [aY h],aY aC];decide
end
section
variable {jobs l r:List Int} {f n:Nat}
theorem Je:∀(f:Nat)(l:List Int),∀r ∈ BG jobs f l,∃s,r=l++s
 | 0,l,r,h=>⟨[],by rw [List.mem_singleton.1 h];simp⟩
 | f+1,l,r,h=>by
  rcases List.mem_cons.1 h with e | h
  ·exact ⟨[],by rw [e];simp⟩
  ·obtain ⟨k,_,h⟩:=List.mem_flatMap.1 h;split at h
   ·cases h
   ·obtain ⟨s,e⟩:=Je f _ r h;exact ⟨k ::s,by rw [e];simp⟩
theorem WC{l:List Int}{k:Int}:Hq l k=true↔k ∈ l:=by
 unfold Hq;rw [List.any_eq_true];exact ⟨λ⟨x,a,e⟩=>by rw [of_decide_eq_true e];exact a,λh=>⟨k,h,decide_eq_true rfl⟩⟩
theorem RK(hj:jobs.Pairwise (· < ·)):∀(f:Nat)(l:List Int),(BG jobs f l).Pairwise λa b=>Hl a b<0
 | 0,l=>List.pairwise_singleton _ _
 | f+1,l=>by
  refine List.pairwise_cons.2 ⟨λr g=>?_,?_⟩
  ·obtain ⟨k,_,h⟩:=List.mem_flatMap.1 g;split at h
   ·cases h
   ·obtain ⟨s,e⟩:=Je f _ r h;rw [e,List.append_assoc]
    have:=WB l (a:=[]) (b:=[k]++s) ((cmpL_nil _).2 aD)
    rwa [List.append_nil] at this
  ·rw [List.pairwise_flatMap];refine ⟨λk _=>?_,hj.imp λ{k m} i x c y d=>?_⟩
   ·split
    ·exact List.Pairwise.nil
    ·exact RK hj f _
   ·split at c
    ·cases c
    ·split at d
     ·cases d
     ·obtain ⟨s,e⟩:=Je f _ x c;obtain ⟨t,j⟩:=Je f _ y d;rw [e,j,List.append_assoc,List.append_assoc];exact WB l (cmpL_lt i s t)
end
section
variable {g pre:List (List Int)} {x:List Int}
end
section
variable {G:List Int->Int} {l:List (List Int)}
theorem drop1_atL{k:Nat}:(l.drop 1).getD k []=l.getD (k+1) []:=by
 rw [List.getD_eq_getElem?_getD,List.getElem?_drop,<-List.getD_eq_getElem?_getD,Nat.add_comm]
theorem RL:∀k,∃i,i<=k/\(DF G l k).1=l.getD i []/\(DF G l k).2=G (l.getD i [])/\∀j,j<=k->G (l.getD i [])<=G (l.getD j [])/\(j<i->G (l.getD i [])<G (l.getD j []))
 | 0=>⟨0,Nat.le_refl _,rfl,rfl,λj b=>by rw [show j=0 by omega];exact ⟨Int.le_refl _,λq=>absurd q (Nat.lt_irrefl _)⟩⟩
 | k+1=>by
  obtain ⟨i,g,f,a,d⟩:=RL k;unfold DF;rw [drop1_atL];split
  ·rename_i c
   rw [a] at c;refine ⟨k+1,Nat.le_refl _,rfl,rfl,λj b=>?_⟩;by_cases e:j=k+1
   ·subst e;exact ⟨Int.le_refl _,λq=>absurd q (Nat.lt_irrefl _)⟩
   ·have:=(d j U).1
    exact ⟨U,λ_=>U⟩
  ·rename_i c
   rw [a] at c;refine ⟨i,U,f,a,λj b=>?_⟩;by_cases e:j=k+1
   ·subst e;exact ⟨U,λq=>U⟩
   ·exact d j U
theorem X9(hl:l.Pairwise λa b=>Hl a b<0){r:List Int}(hr:r ∈ l):G (Cw G l)<=G r/\(G (Cw G l)=G r->¬Hl r (Cw G l)<0):=by
 obtain ⟨i,o,k,_,m⟩:=RL (G:=G) (l:=l) (l.length-1);obtain ⟨j,f,e⟩:=List.mem_iff_getElem.1 hr;have g:l.getD j []=r:=by rw [List.getD_eq_getElem?_getD,List.getElem?_eq_getElem f];exact e
 have d:=m j U;rw [g] at d;unfold Cw;rw [k];refine ⟨d.1,λq c=>?_⟩;have h:i<l.length:=U
 have n:l.getD i []=l[i]:=by rw [List.getD_eq_getElem?_getD,List.getElem?_eq_getElem h];rfl
 rcases Nat.lt_trichotomy j i with z | z | z
 ·have:=d.2 z;omega
 ·subst z;rw [g] at c;exact WA _ c
 ·have:=(List.pairwise_iff_getElem.1 hl) i j h f z
  rw [n,<-e] at c;exact Nf _ _ this c
end
end Go.Ns
namespace Go.Ns
section
variable {nj:Nat} {l:List Int} {k:Nat}
end
section
variable {jobs l r q:List Int} {f n:Nat}
theorem TP:∀(f:Nat)(l:List Int),∀r ∈ BG jobs f l,(l.Nodup->r.Nodup)/\∀y ∈ r,y ∈ l\/y ∈ jobs
 | 0,l,r,h=>by rw [List.mem_singleton.1 h];exact ⟨id,λy d=>.inl d⟩
 | f+1,l,r,h=>by
  rcases List.mem_cons.1 h with e | h
  ·rw [e];exact ⟨id,λy d=>.inl d⟩
  ·obtain ⟨k,g,h⟩:=List.mem_flatMap.1 h;split at h
   ·cases h
   ·rename_i c
    obtain ⟨i,j⟩:=TP f (l++[k]) r h;refine ⟨λm=>i (List.nodup_append.2 ⟨m,aD,λa o b p e=>?_⟩),λy d=>?_⟩
    ·rw [List.mem_singleton.1 p] at e;exact c (WC.2 (e▸o))
    ·rcases j y d with z | z
     ·rcases List.mem_append.1 z with z | z
      ·exact .inl z
      ·rw [List.mem_singleton.1 z];exact .inr g
     ·exact .inr z
theorem RM:∀(s l:List Int)(f:Nat),s.length<=f->(l++s).Nodup->(∀y ∈ s,y ∈ jobs)->l++s ∈ BG jobs f l
 | [],l,f,_,_,_=>by rw [List.append_nil,Fm];exact List.mem_cons_self
 | k ::s,l,0,h,_,_=>absurd h aD
 | k ::s,l,f+1,h,a,b=>by
  have e:l++k ::s=(l++[k])++s:=aD
  refine List.mem_cons_of_mem _ (List.mem_flatMap.2 ⟨k,b k List.mem_cons_self,?_⟩);have c:¬Hq l k=true:=λq=>by
   have d:=List.nodup_append.1 a;exact d.2.2 k (WC.1 q) k List.mem_cons_self rfl
  rw [aX c,e];exact RM s (l++[k]) f (by simp at h;omega) (by rw [<-e];exact a) λy g=>b y (List.mem_cons_of_mem _ g)
theorem nodup_le:∀{a b:List Int},a.Nodup->(∀y ∈ a,y ∈ b)->a.length<=b.length:=λ{a b} c h=>(List.subset_def.2 (λ{y} d=>h y d) |> λs=>(List.Nodup.length_le_of_subset c s))
theorem same_mem{a b:List Int}(ha:a.Nodup)(hb:b.Nodup)(hl:a.length=b.length)(h:∀y ∈ a,y ∈ b):∀y,y ∈ a↔y ∈ b:=λy=>⟨h y,λd=>Decidable.byContradiction λc=>by
 have g:(y ::a).Nodup:=List.nodup_cons.2 ⟨c,ha⟩
 have:=nodup_le g λz i=>(List.mem_cons.1 i).elim (λe=>e▸d) (h z)
 simp at this;omega⟩
theorem TQ{y:Int}:y ∈ Du l↔y ∈ l:=by rw [I3];exact List.mem_mergeSort
theorem WD(h:l.Nodup):(Du l).Nodup:=by rw [I3];exact (List.mergeSort_perm l _).nodup_iff.2 h
theorem sortI_asc(h:l.Nodup):(Du l).Pairwise (· < ·):=by
 have a:=List.pairwise_mergeSort (le:=λx y:Int=>decide (x<=y)) (λa b c d e=>by simp at *;omega) (λa b=>by simp;omega) l;rw [<-I3] at a;have b:=List.nodup_iff_pairwise_ne.1 (WD h);exact (List.pairwise_and_iff.2 ⟨a,b⟩).imp λ{x y} q=>by
  have:=of_decide_eq_true q.1
  have:=q.2
  omega
theorem WE(hr:r.Nodup):q ∈ Md (Du r) r.length↔q.Nodup/\q.length=r.length/\∀y,y ∈ q↔y ∈ r:=by
 unfold Md;rw [List.mem_filter];constructor
 ·rintro ⟨d,e⟩;have c:=of_decide_eq_true e;obtain ⟨a,b⟩:=TP (Du r).length [] q d;have h:=a List.nodup_nil;exact ⟨h,c,same_mem h hr c λy g=>(b y g).elim (λz=>by cases z) TQ.1⟩
 ·rintro ⟨d,e,i⟩;refine ⟨?_,decide_eq_true e⟩
  have:=RM (jobs:=Du r) q [] (Du r).length (by rw [D9];omega) d λy g=>TQ.2 ((i y).1 g)
  exact this
end
section
variable {aS aR:Int} {ps:List bB} {ws:List AF} {js:List AM} {ns:List AL} {r o:List Int}
theorem TR(h0:AV aS aR ps ws js ns 0=0)(hr:KT js.length r):Cx aS aR ps ws js ns r=Cw (λl=>Ba (λx=>AY ps.length ws js x l) (AD ws js ns)) (Md (Du r) r.length):=by
 unfold Cx;rw [hr.bell];exact aX (λe=>e h0)
theorem swift_in(h0:AV aS aR ps ws js ns 0=0)(hr:KT js.length r):Cx aS aR ps ws js ns r ∈ Md (Du r) r.length:=by
 rw [TR h0 hr];exact Xs (TJ hr.1)
theorem swift_val(h0:AV aS aR ps ws js ns 0=0)(hr:KT js.length r):KT js.length (Cx aS aR ps ws js ns r)/\∀y,y ∈ Cx aS aR ps ws js ns r↔y ∈ r:=by
 have m:=(WE hr.1).1 (swift_in h0 hr);exact ⟨⟨m.1,λx a=>hr.2 x ((m.2.2 x).1 a)⟩,m.2.2⟩
theorem swift_top(h0:AV aS aR ps ws js ns 0=0)(hr:KT js.length r)(ho:KT js.length o)(hl:o.length=r.length)(hm:∀y,y ∈ o↔y ∈ r) :
  GG (AV aS aR ps ws js ns 0) (Ba (λx=>AY ps.length ws js x (Cx aS aR ps ws js ns r)) (AD ws js ns))<=GG (AV aS aR ps ws js ns 0) (Ba (λx=>AY ps.length ws js x o) (AD ws js ns))/\
  (GG (AV aS aR ps ws js ns 0) (Ba (λx=>AY ps.length ws js x (Cx aS aR ps ws js ns r)) (AD ws js ns))=GG (AV aS aR ps ws js ns 0) (Ba (λx=>AY ps.length ws js x o) (AD ws js ns))->¬Hl o (Cx aS aR ps ws js ns r)<0):=by
 rw [h0];simp only [LQ];have c:(Md (Du r) r.length).Pairwise λa b=>Hl a b<0:=List.Pairwise.filter _ (RK (sortI_asc hr.1) _ [])
 have:=X9 (G:=λl=>Ba (λx=>AY ps.length ws js x l) (AD ws js ns)) c ((WE hr.1).2 ⟨ho.1,hl,hm⟩)
 rwa [<-TR h0 hr] at this
end
end Go.Ns
namespace Go.Ns
def wA(ws:List AF)(k:Nat):Nat:=(ws.getD k AF.z).a.toNat
def wB(ws:List AF)(k:Nat):Nat:=(ws.getD k AF.z).b.toNat
def RN(ws:List AF)(p:AI)(u v:Nat)(w:Int):Prop:=∃k,k<ws.length/\(wA ws k=u/\wB ws k=v\/wA ws k=v/\wB ws k=u)/\w=p.ways k
inductive Ml (ws:List AF) (p:AI) (x:Nat):Nat->Nat->Int->Prop
 | nil:Ml ws p x 0 x 0
 | step {k u v:Nat} {d w:Int}:Ml ws p x k u d->RN ws p u v w->Ml ws p x (k+1) v (d+w)
section
variable {ws:List AF} {p:AI} {x y z u v k l np:Nat} {d e w:Int}
theorem RN.symm(h:RN ws p u v w):RN ws p v u w:=by
 obtain ⟨k,a,b,c⟩:=h;exact ⟨k,a,b.symm,c⟩
theorem Ml.append(h:Ml ws p x k y d)(g:Ml ws p y l z e):Ml ws p x (k+l) z (d+e):=by
 induction g with
 | nil=>rw [Int.add_zero];exact h
 | step _ c a=>
  have:=a.step c
  rwa [Int.add_assoc,Nat.add_assoc] at this
theorem Ml.symm(h:Ml ws p x k y d):Ml ws p y k x d:=by
 induction h with
 | nil=>exact .nil
 | @step k u v d w _ c a=>
  have:=(Ml.step (.nil (x:=v)) c.symm).append a
  rw [Int.zero_add] at this
  rwa [Nat.add_comm k 1,Int.add_comm d w]
theorem Ml.le(hp:BX p)(h:Ml ws p x k y d):0<=d/\d<=30*(k:Int):=by
 induction h with
 | nil=>exact ⟨Int.le_refl _,Int.le_refl _⟩
 | step _ c a=>
  obtain ⟨q,_,_,rfl⟩:=c
  have:=hp.ways q
  omega
theorem CX{Q:Nat->Nat->Prop}(hQ:∀k v,v<np->Q (k+1) v->∃u,u<np/\Q k u/\∀j,Q j u->Q (j+1) v)(hv:v<np)(h:Q k v):∃j,j<np/\Q j v:=by
 have o:∀k v,v<np->Q k v->∃j,Q j v/\∀i,i<j->¬Q i v:=by
  intro k
  induction k using Nat.strongRecOn with
  | _ k r=>
   intro v hv h;by_cases c:∃i,i<k/\Q i v
   ·obtain ⟨i,b,g⟩:=c;exact r i b v hv g
   ·exact ⟨k,h,λi m q=>c ⟨i,m,q⟩⟩
 have chain:∀j v,v<np->Q j v->(∀i,i<j->¬Q i v)->∃f:Nat->Nat,∀i,i<=j->f i<np/\Q i (f i)/\∀t,t<i->¬Q t (f i):=by
  intro j
  induction j with
  | zero=>exact λv hv h _=>⟨λ_=>v,λi m=>by rw [show i=0 by omega];exact ⟨hv,h,λt A=>absurd A (Nat.not_lt_zero _)⟩⟩
  | succ j r=>
   intro v hv h B;obtain ⟨u,C,b,g⟩:=hQ j v hv h;obtain ⟨f,n⟩:=r u C b λi m q=>B (i+1) U (g i q);refine ⟨λi=>if i=j+1 then v else f i,λi m=>?_⟩;by_cases e:i=j+1
   ·subst e;simp only [if_true];exact ⟨hv,h,B⟩
   ·simp only [aX e];exact n i U
 obtain ⟨j,b,g⟩:=o k v hv h;obtain ⟨f,n⟩:=chain j v hv b g
 have:=Ua np (j+1) f (λi m=>(n i U).1) λi t s A e=>by
  have a:=(n i U).2.1;rw [e] at a;exact (n t U).2.2 i s a
 exact ⟨j,U,b⟩
end
section
variable {aS aR:Int} {ps:List bB} {ws:List AF} {js:List AM} {ns:List AL} {p:AI} {x y v k n:Nat} {d w:Int}
theorem RO(bk:BL aS aR ps ws js ns){u:Nat}(h:RN ws p u v w):u<ps.length/\v<ps.length:=by
 obtain ⟨k,c,e,_⟩:=h;have o:=P9 bk.way k c;have f:=o.a;have g:=o.b;unfold wA wB at e;omega
theorem WF(bk:BL aS aR ps ws js ns)(hp:BX p){u:Nat}(h:RN ws p u v w):Aw ps.length ws p u v<=w:=by
 obtain ⟨k,b,a,rfl⟩:=h
 have:=X5 (np:=ps.length) hp (Ku bk.way) b
 have s:=(Jc (np:=ps.length) hp (Ku bk.way)).s.sym u v;unfold wA wB at a;rcases a with ⟨rfl,rfl⟩ | ⟨rfl,rfl⟩
 ·exact this
 ·rw [s];exact this
theorem AAL(bk:BL aS aR ps ws js ns)(hp:BX p)(hx:x<ps.length)(h:Ml ws p x k v d):Aw ps.length ws p x v<=d:=by
 have a:=Jc (np:=ps.length) hp (Ku bk.way)
 induction h with
 | nil=>rw [a.s.diag];exact Int.le_refl _
 | @step k u v d w b c e=>
  have r:=RO bk c;have t:=a.tri u r.1 x v hx r.2
  have:=WF bk hp c
  omega
theorem WG(bk:BL aS aR ps ws js ns):∀n,n<=ws.length->∀x y,x<4->y<4->A3 p ws n x y<1048576->∃k,Ml ws p x k y (A3 p ws n x y)
 | 0,_,x,y,f,g,h=>by
  have e:A3 p ws 0 x y=Iq 4 x y:=rfl;rw [e,KN] at h ⊢;by_cases c:x<4/\y<4/\x≠y
  ·rw [aY c] at h;omega
  ·rw [aX c]
   have:x=y:=Decidable.byContradiction λq=>c ⟨f,g,q⟩
   subst this;exact ⟨0,.nil⟩
 | n+1,i,x,y,f,g,h=>by
  have r:=(Ku bk.way).rng n U;have e:A3 p ws (n+1)=KG p ws (A3 p ws n) n:=At _ _ _;rw [e,Lu _ _ _ _ U] at h ⊢;by_cases c:(x=(ws.getD n AF.z).a.toNat/\y=(ws.getD n AF.z).b.toNat)\/(x=(ws.getD n AF.z).b.toNat/\y=(ws.getD n AF.z).a.toNat)
  ·rw [aY c]
   have:=Ml.step (.nil (ws:=ws) (p:=p) (x:=x)) (v:=y) (w:=p.ways n) ⟨n,U,by unfold wA wB;omega,rfl⟩
   rw [Int.zero_add] at this;exact ⟨1,this⟩
  ·rw [aX c] at h ⊢;exact WG bk n U x y f g h
theorem WH(bk:BL aS aR ps ws js ns)(hp:BX p):∀n,n<=ps.length->∀x y,x<ps.length->y<ps.length->Cb ps.length (A3 p ws ws.length) n x y<1048576->∃k,Ml ws p x k y (Cb ps.length (A3 p ws ws.length) n x y)
 | 0,_,x,y,f,i,h=>WG bk ws.length (Nat.le_refl _) x y (by have:=bk.plen;omega) (by have:=bk.plen;omega) h
 | n+1,m,x,y,f,i,h=>by
  have j:=WH bk hp n U;have s:=(FW.all (KO hp (Ku bk.way) ws.length (Nat.le_refl _)) n (show n<=ps.length by omega)).s;have e:Cb ps.length (A3 p ws ws.length) (n+1)=Ev n ps.length (Cb ps.length (A3 p ws ws.length) n) ps.length:=At _ _ _;have g:=RG (np:=ps.length) n (Cb ps.length (A3 p ws ws.length) n) (s.diag n) s.ok ps.length x y;rw [aY ⟨f,i⟩] at g;rw [e,g] at h ⊢;have o:=s.ok x n;have q:=s.ok n y;rcases Int.le_total (Cb ps.length (A3 p ws ws.length) n x y) (Cb ps.length (A3 p ws ws.length) n x n+Cb ps.length (A3 p ws ws.length) n n y) with c | c
  ·rw [Int.min_eq_left c] at h ⊢;exact j x y f i h
  ·rw [Int.min_eq_right c] at h ⊢;obtain ⟨k,a⟩:=j x n f U U;obtain ⟨l,b⟩:=j n y U i U;exact ⟨_,a.append b⟩
theorem WI(bk:BL aS aR ps ws js ns)(hv:v<ps.length):∃k d,Ml ws p 0 k v d:=by
 have one:∀(c:Gl)(a:AF),a ∈ ws->(∀i,c i=true->∃k d,Ml ws p 0 k i d)->∀i,GR c a i=true->∃k d,Ml ws p 0 k i d:=by
  intro c a m g;obtain ⟨q,r,A⟩:=List.mem_iff_getElem.1 m;have s:RN ws p a.a.toNat a.b.toNat (p.ways q):=⟨q,r,.inl (by unfold wA wB;rw [Dy AF.z r,A];exact ⟨rfl,rfl⟩),rfl⟩;have both:(c a.a.toNat || c a.b.toNat)=true->(∃k d,Ml ws p 0 k a.a.toNat d)/\∃k d,Ml ws p 0 k a.b.toNat d:=λh=>by
   rcases Bool.or_eq_true_iff.1 h with h | h
   ·obtain ⟨k,d,t⟩:=g _ h;exact ⟨⟨k,d,t⟩,_,_,t.step s⟩
   ·obtain ⟨k,d,t⟩:=g _ h;exact ⟨⟨_,_,t.step s.symm⟩,k,d,t⟩
  intro i f;unfold GR Gl.set at f;by_cases e:i=a.b.toNat
  ·rw [aY e] at f;rw [e];by_cases j:a.b.toNat=a.a.toNat
   ·rw [aY j,aY rfl,Bool.or_self] at f;exact (both f).2
   ·rw [aX j,aY rfl] at f;rcases Bool.or_eq_true_iff.1 f with h | h
    ·exact g _ h
    ·exact (both h).2
  ·rw [aX e] at f;by_cases j:i=a.a.toNat
   ·rw [aY j] at f;rw [j];exact (both f).1
   ·rw [aX j] at f;exact g i f
 have fold:∀(l:List AF)(c:Gl),(∀a ∈ l,a ∈ ws)->(∀i,c i=true->∃k d,Ml ws p 0 k i d)->∀i,l.foldl GR c i=true->∃k d,Ml ws p 0 k i d:=by
  intro l
  induction l with
  | nil=>exact λc _ g=>g
  | cons a l o=>exact λc u g=>o _ (λb B=>u b (List.mem_cons_of_mem _ B)) (one c a (u a List.mem_cons_self) g)
 have all:∀n (c:Gl),(∀i,c i=true->∃k d,Ml ws p 0 k i d)->∀i,EY ws n c i=true->∃k d,Ml ws p 0 k i d:=by
  intro n
  induction n with
  | zero=>exact λc g=>g
  | succ n o=>exact λc g=>o _ (fold ws c (λa m=>m) g)
 have led:=bk.led;unfold GS at led;split at led
 ·cases led
 ·rename_i q
  refine all ps.length (Gl.none.set 0 true) (λi f=>?_) v ?_
  ·unfold Gl.set Gl.none at f;by_cases e:i=0
   ·subst e;exact ⟨0,0,.nil⟩
   ·rw [aX e] at f;cases f
  ·refine Decidable.byContradiction λc=>q (List.any_eq_true.2 ⟨EY ws ps.length (Gl.none.set 0 true) v,?_,?_⟩)
   ·unfold Ox;exact List.mem_map.2 ⟨v,List.mem_range.2 hv,rfl⟩
   ·rw [Bool.eq_false_iff.2 c];rfl
theorem far_short(bk:BL aS aR ps ws js ns)(hp:BX p)(hx:x<ps.length)(hv:v<ps.length):∃k,k<ps.length/\Ml ws p x k v (Aw ps.length ws p x v):=by
 have g:=bk.plen;have h:=Jc (np:=ps.length) hp (Ku bk.way);have small:Aw ps.length ws p x v<1048576:=by
  obtain ⟨k,d,t⟩:=WI (p:=p) bk hx;obtain ⟨l,e,t2⟩:=WI (p:=p) bk hv;obtain ⟨j,i,d2,t3⟩:=CX (Q:=λk v=>∃d,Ml ws p x k v d) (np:=ps.length) (λk v _ ⟨d,t⟩=>by
   cases t with
   | @step _ u _ d w t c=>exact ⟨u,(RO bk c).1,⟨_,t⟩,λj ⟨d,t⟩=>⟨_,t.step c⟩⟩) hv (k:=k+l) ⟨_,t.symm.append t2⟩
  have a:=AAL bk hp hx t3;have b:=t3.le hp;omega
 obtain ⟨k,t⟩:=WH bk hp ps.length (Nat.le_refl _) x v hx hv small;refine CX (Q:=λk v=>Ml ws p x k v (Aw ps.length ws p x v)) (np:=ps.length) (λk v f t=>?_) hv t;generalize m:Aw ps.length ws p x v=D at t;cases t with
 | @step _ u _ d w t c=>
  have r:=RO bk c;have a:=AAL bk hp hx t;have b:=WF bk hp c;have o:=h.tri u r.1 x v hx f;have e:Aw ps.length ws p x u=d:=U
  exact ⟨u,r.1,by rw [e];exact t,λj t2=>by
   have:=t2.step c
   rw [e] at this;exact this⟩
end
end Go.Ns
namespace Go.Ns
def Do(l:List Int):Array aZ:=#[.int .i64 (l.getD 0 0),.int .i64 (l.getD 1 0),.int .i64 (l.getD 2 0),.int .i64 (l.getD 3 0)]
theorem I7(l:List Int):(Value.agg (Do l)).cells.size=4:=rfl
theorem I8(l:List Int):Value.fine (.agg (Do l))=true:=rfl
theorem Kw(l:List Int):0+4<=(Do l).size:=Nat.le_refl 4
theorem Kx(l m:List Int):BU (Do l) 0 (Value.agg (Do m)).cells.toList=Do m:=by
 simp [Value.cells,Do,BU]
theorem eM4_get{l:List Int}{i:Nat}(h:i<4):(Do l)[0+i*1]? =some (.int .i64 (l.getD i 0)):=by
 match i,h with
 | 0,_=>rfl
 | 1,_=>rfl
 | 2,_=>rfl
 | 3,_=>rfl
theorem m4_sl{h:Y}{r n:Nat}{p:Bool}{l:List Int}{t:bA}{f:Nat×Nat}(hb:h r=some (p,.cells (Do l) t f))(hl:l.length<=4)(hn:n=l.length):AG h (.slice (some ⟨r,0,none⟩) n 4) 1 eI l:=by
 subst hn;refine ⟨some ⟨r,0,none⟩,4,rfl,hl,U,λi a=>⟨r,0,rfl,p,_,t,f,hb,?_,?_⟩⟩
 ·show 0+i*1+1<=4;omega
 ·rw [<-Dy 0 a];have b:i<4:=U
  match i,b with
  | 0,_=>rfl
  | 1,_=>rfl
  | 2,_=>rfl
  | 3,_=>rfl
theorem m4_copy{l:List Int}(h:l.length<=4):BU (Do []) 0 (DR eI l)=Do l:=by
 match l,h with
 | [],_=>rfl
 | [a],_=>rfl
 | [a,b],_=>rfl
 | [a,b,c],_=>rfl
 | [a,b,c,d],_=>rfl
end Go.Ns
namespace Go.Ns
structure Ay where
 price:Int
 pv:aZ
 paid:List Int
 seen:Int
structure Cu where
 kind:Int
 low:Int
 high:Int
def Cr(x:Ay):Array aZ:=#[.int .i64 x.price,x.pv,.int .i64 x.seen]
def D4(x:Cu):Array aZ:=#[.int .i64 x.kind,.int .i64 x.low,.int .i64 x.high]
def Ay.z:Ay:=⟨0,.slice none 0 0,[],0⟩
def Cu.z:Cu:=⟨0,0,0⟩
def CN(h:Y)(sa:List Ay):Prop:=∀k,AG h (sa.getD k Ay.z).pv 1 eI (sa.getD k Ay.z).paid
theorem CN.le{h h':Y}{sa:List Ay}(x:CN h sa)(l:h.Le h'):CN h' sa:=λk=>(x k).le l
def EB(ks cs:List Int):Nat->Int
 | 0=>0
 | n+1=>EB ks cs n+ks.getD n 0*cs.getD n 0
def DJ(ks cs:List Int):Int:=EB ks cs ks.length
theorem Mm{a b A B:Int}(ha:0<=a/\a<=A)(hb:0<=b/\b<=B):0<=a*b/\a*b<=A*B:=
 ⟨Int.mul_nonneg ha.1 hb.1,Int.mul_le_mul ha.2 hb.2 hb.1 (Int.le_trans ha.1 ha.2)⟩
theorem Ng{ks cs:List Int}(hk:∀i,0<=ks.getD i 0/\ks.getD i 0<=500)(hc:∀i,0<=cs.getD i 0/\cs.getD i 0<=30):∀n,0<=EB ks cs n/\EB ks cs n<=15000*(n:Int)
 | 0=>⟨Int.le_refl _,Int.le_refl _⟩
 | n+1=>by
  have:=Ng hk hc n
  have:=Mm (hk n) (hc n)
  unfold EB;omega
def Uq(ks:List Int)(i:Nat):Prop:=(1<=ks.getD i 0/\ks.getD i 0<=500)/\(0<i->ks.getD i 0<ks.getD ((i:Int)-1).toNat 0)
def Ur(dr:List (Int×Int))(i:Nat):Prop:=((0<=(dr.getD i (0,0)).1/\(dr.getD i (0,0)).1<=(dr.getD i (0,0)).2)/\(dr.getD i (0,0)).2<=9)/\(dr.getD i (0,0)).2-(dr.getD i (0,0)).1<2
def RP(l:List Int):Prop:=∀j,j<l.length->0<=l.getD j 0/\l.getD j 0<=3
def SaleOK(ks:List Int)(sa:List Ay)(k:Nat):Prop:=
 (sa.getD k Ay.z).paid.length=ks.length/\RP (sa.getD k Ay.z).paid/\(0<=(sa.getD k Ay.z).price/\(sa.getD k Ay.z).price<=999)/\¬DJ ks (sa.getD k Ay.z).paid<(sa.getD k Ay.z).price/\(0<=(sa.getD k Ay.z).seen/\(sa.getD k Ay.z).seen<=2)
def Mn(n:Nat)(x:Int×Int):Prop:=(0<=x.1/\x.1<=(n:Int)-1)/\(0<=x.2/\x.2<=(n:Int)-1)
def AAM(n:Nat)(x:Cu):Prop:=(0<=x.kind/\x.kind<=(n:Int)-1)/\((0<=x.low/\x.low<=x.high)/\x.high<=30)
def Mp(ks:List Int)(dr:List (Int×Int)):Prop:=(1<=(ks.length:Int)/\(ks.length:Int)<=4)/\(∀i,i<ks.length->Uq ks i)/\dr.length=ks.length/\∀i,i<dr.length->Ur dr i
def AAN(ks:List Int)(sa:List Ay):Prop:=¬(4:Int)<sa.length/\∀k,k<sa.length->SaleOK ks sa k
structure Dj(ks:List Int)(dr:List (Int×Int))(sa:List Ay)(fi:List (Int×Int))(co:List Cu):Prop where
 hk:Mp ks dr
 hs:AAN ks sa
 hf:¬(4:Int)<fi.length/\∀k,k<fi.length->Mn sa.length (fi.getD k (0,0))
 hc:¬(4:Int)<co.length/\∀k,k<co.length->AAM ks.length (co.getD k Cu.z)
theorem Mp.rng{ks:List Int}{dr:List (Int×Int)}(h:Mp ks dr)(i:Nat):0<=ks.getD i 0/\ks.getD i 0<=500:=by
 by_cases e:i<ks.length
 ·have:=(h.2.1 i e).1;omega
 ·rw [Bl U];omega
theorem RP.rng{l:List Int}(h:RP l)(i:Nat):0<=l.getD i 0/\l.getD i 0<=30:=by
 by_cases e:i<l.length
 ·have:=h i e;omega
 ·rw [Bl U];omega
theorem kind_ok{ks:List Int}{i:Nat}(h1:¬¬(1<=ks.getD i 0/\ks.getD i 0<=500))(h2:¬(0<(i:Int)/\ks.getD ((i:Int)-1).toNat 0<=ks.getD i 0)):Uq ks i:=⟨U,U⟩
def IO(cl:List Int):Prop:=∀i,0<=cl.getD i 0/\cl.getD i 0<=9
theorem IO.nil:IO []:=λi=>by rw [Bl aD];omega
theorem IO.snoc{cl:List Int}{x:Int}(h:IO cl)(hx:0<=x/\x<=9):IO (cl++[x]):=λi=>by
 rw [II];split
 ·exact h i
 ·cases i-cl.length with
  | zero=>exact hx
  | succ n=>rw [Bl aD];omega
theorem paid_any{l:List Int}(h:RP l):l.any (λn=>decide (¬(0<=n/\n<=3)))=false:=by
 rw [List.any_eq_false];intro x b;obtain ⟨q,a,rfl⟩:=List.mem_iff_getElem.1 b
 have:=h q a
 rw [Dy 0 a] at this;simpa using this
theorem eM4_get1{l:List Int}{i:Nat}(h:i<4):(Do l)[i*1]? =some (.int .i64 (l.getD i 0)):=by
 match i,h with
 | 0,_=>rfl
 | 1,_=>rfl
 | 2,_=>rfl
 | 3,_=>rfl
theorem m4_index{l:List Int}{i:Nat}(h:i<4):(if false=true then some (Value.agg ((Do l).extract (i*1) (i*1+1))) else (Do l)[i*1]?)=some (.int .i64 (l.getD i 0)):=by
 match i,h with
 | 0,_=>rfl
 | 1,_=>rfl
 | 2,_=>rfl
 | 3,_=>rfl
theorem coins_any{l:List Int}(h:∀i,0<=l.getD i 0/\l.getD i 0<=30):l.any (λn=>decide (¬(0<=n/\n<=30)))=false:=by
 rw [List.any_eq_false];intro x a;obtain ⟨q,b,rfl⟩:=List.mem_iff_getElem.1 a
 have:=h q
 rw [Dy 0 b] at this;simpa using this
end Go.Ns
namespace Go.Ns
open Go.Conc
def Ib(most:Bool)(top:Int)(k:Nat):Int:=if most=true then top-k else k
def IP(ks out:List Int)(i:Nat)(left:Int):Int:=min (out.getD i 0) (left / ks.getD i 0)
def Bm(ks out:List Int)(most:Bool):Nat->Nat->Int->List Int->List (List Int)
 | 0,_,left,c=>if 0<left then [] else [c]
 | f+1,i,left,c=>(List.range (IP ks out i left+1).toNat).flatMap λk=>Bm ks out most f (i+1) (left-Ib most (IP ks out i left) k*ks.getD i 0) (c++[Ib most (IP ks out i left) k])
def EJ(ks out:List Int)(most:Bool)(f i:Nat)(left:Int)(c:List Int)(k:Nat):List (List Int):=Bm ks out most f (i+1) (left-Ib most (IP ks out i left) k*ks.getD i 0) (c++[Ib most (IP ks out i left) k])
section
variable {ks out c:List Int} {most:Bool} {f i k:Nat} {left top:Int} {all pre:List (List Int)}
theorem range_at{k n:Nat}(h:k<n):∃r,List.range n=List.range k++k ::r:=by
 refine ⟨(List.range n).drop (k+1),?_⟩;have e:=List.take_append_drop k (List.range n);rw [List.take_range,Nat.min_eq_left U,List.drop_eq_getElem_cons (by simpa using h),List.getElem_range] at e;exact e.symm
theorem WJ(ht:top=IP ks out i left)(h:most=true):Bm ks out most f (i+1) (left-(top-(k:Int))*ks.getD i 0) (c++[top-(k:Int)])=EJ ks out most f i left c k:=by
 unfold EJ Ib;rw [aY h,ht]
theorem WK(h:most=false):Bm ks out most f (i+1) (left-(k:Int)*ks.getD i 0) (c++[(k:Int)])=EJ ks out most f i left c k:=by
 unfold EJ Ib;rw [aX (by rw [h];simp)]
theorem OZ(hw:Bw all pre (Bm ks out most (f+1) i left c))(hk:(k:Int)<IP ks out i left+1):Bw all (pre++(List.range k).flatMap (EJ ks out most f i left c)) (EJ ks out most f i left c k):=by
 obtain ⟨r,e⟩:=range_at (k:=k) (n:=(IP ks out i left+1).toNat) U;have a:Bw all pre ((List.range k).flatMap (EJ ks out most f i left c)++(EJ ks out most f i left c k++r.flatMap (EJ ks out most f i left c))):=by
  have:Bm ks out most (f+1) i left c=(List.range (IP ks out i left+1).toNat).flatMap (EJ ks out most f i left c):=rfl
  rw [this,e,List.flatMap_append,List.flatMap_cons] at hw;exact hw
 exact a.right.left
theorem ways_end(hk:(k:Int)<=IP ks out i left+1)(h:¬(k:Int)<IP ks out i left+1):Bm ks out most (f+1) i left c=(List.range k).flatMap (EJ ks out most f i left c):=by
 have:k=(IP ks out i left+1).toNat:=U
 subst this;rfl
theorem TS:pre++(List.range (k+1)).flatMap (EJ ks out most f i left c)=(pre++(List.range k).flatMap (EJ ks out most f i left c))++EJ ks out most f i left c k:=by
 rw [List.range_succ,List.flatMap_append];simp
theorem m4_put{pc:List Int}{n:Int}(hi:i<4)(hp:pc.take i=c)(hl:c.length=i)(h1:pc.length<=i+1):BU (Do pc) (0+i*1) [.int .i64 n]=Do (c++[n]):=by
 have g:pc=c\/∃x,pc=c++[x]:=by
  have e:=List.take_append_drop i pc;rw [hp] at e;cases h:pc.drop i with
  | nil=>left;rw [h,List.append_nil] at e;exact e.symm
  | cons x r=>
   have:(pc.drop i).length<=1:=by rw [List.length_drop];omega
   rw [h] at this;cases r with
   | nil=>right;exact ⟨x,by rw [<-e,h]⟩
   | cons y r=>simp at this
 match c,hl,hi with
 | [],hl,_=>subst hl;rcases g with rfl | ⟨x,rfl⟩ <;> rfl
 | [a],hl,_=>subst hl;rcases g with rfl | ⟨x,rfl⟩ <;> rfl
 | [a,b],hl,_=>subst hl;rcases g with rfl | ⟨x,rfl⟩ <;> rfl
 | [a,b,d],hl,_=>subst hl;rcases g with rfl | ⟨x,rfl⟩ <;> rfl
 | a ::b ::d ::e ::r,hl,hi=>simp at hl;omega
theorem TT{n:Int}(hl:c.length=i):(c++[n]).take i=c:=by subst hl;simp
theorem RQ{n:Int}:∀m,m<=c.length->EB ks (c++[n]) m=EB ks c m
 | 0,_=>rfl
 | m+1,h=>by
  unfold EB;rw [RQ m U,II,aY U]
theorem RR(ho:0<=out.getD i 0)(hk:1<=ks.getD i 0)(hl:0<=left):0<=IP ks out i left/\IP ks out i left<=out.getD i 0/\IP ks out i left*ks.getD i 0<=left:=by
 unfold IP;have b:0<=left / ks.getD i 0:=Int.ediv_nonneg hl U;have a:left / ks.getD i 0*ks.getD i 0<=left:=Int.ediv_mul_le _ U;refine ⟨U,U,Int.le_trans (Int.mul_le_mul_of_nonneg_right (Int.min_le_right _ _) U) a⟩
theorem stepW_rng(ht:0<=top)(hk:(k:Int)<top+1):0<=Ib most top k/\Ib most top k<=top:=by
 unfold Ib;split <;> omega
theorem Mq(ho:∀j,0<=out.getD j 0)(hk:∀j,j<ks.length->1<=ks.getD j 0):∀(f i:Nat)(left:Int)(c x:List Int),x ∈ Bm ks out most f i left c->i+f=ks.length->c.length=i->0<=left->(∀j,0<=c.getD j 0/\c.getD j 0<=out.getD j 0)->
  x.length=ks.length/\DJ ks x=EB ks c i+left/\∀j,0<=x.getD j 0/\x.getD j 0<=out.getD j 0
 | 0,i,left,c,x,a,n,b,m,d=>by
  unfold Bm at a;split at a
  ·cases a
  ·rw [List.mem_singleton.1 a];have e:i=ks.length:=U
   subst e;exact ⟨b,by unfold DJ;omega,d⟩
 | f+1,i,left,c,x,a,n,b,m,d=>by
  obtain ⟨k,g,a⟩:=List.mem_flatMap.1 a;have o:=List.mem_range.1 g;have h:=RR (ks:=ks) (out:=out) (i:=i) (left:=left) (ho i) (hk i U) m;have l:=stepW_rng (most:=most) (k:=k) h.1 U;have p:=hk i U;have q:Ib most (IP ks out i left) k*ks.getD i 0<=left:=Int.le_trans (Int.mul_le_mul_of_nonneg_right l.2 U) h.2.2;have a:=Mq ho hk f (i+1) _ _ x a U (by rw [List.length_append,b];rfl) U (λj=>by
   rw [II];split
   ·exact d j
   ·by_cases e:j=i
    ·subst e;rw [b,Nat.sub_self];exact ⟨l.1,Int.le_trans l.2 h.2.1⟩
    ·rw [Bl (by simp;omega)];exact ⟨Int.le_refl _,ho j⟩)
  refine ⟨a.1,?_,a.2.2⟩;have e:EB ks (c++[Ib most (IP ks out i left) k]) (i+1)=EB ks c i+Ib most (IP ks out i left) k*ks.getD i 0:=by
   show EB ks (c++[Ib most (IP ks out i left) k]) i+ks.getD i 0*(c++[Ib most (IP ks out i left) k]).getD i 0=_;rw [RQ i U,II,aX U,b,Nat.sub_self,Int.mul_comm];rfl
  rw [a.2.1,e];omega
theorem WL{a b:List Int}(hk:∀j,0<=ks.getD j 0)(h:∀j,a.getD j 0<=b.getD j 0):∀n,EB ks a n<=EB ks b n
 | 0=>Int.le_refl _
 | n+1=>by
  have:=WL hk h n
  have:=Int.mul_le_mul_of_nonneg_left (h n) (hk n)
  unfold EB;omega
end
def JBest(hB:Y)(r r2:Nat)(T T2:bA)(pre:List (List Int))(aO:Nat->Prop)(h:Y):Prop:=
 ∃(c:List Int)(b:Bool),h r=some (true,.cells (Do c) T (0,0))/\h r2=some (true,.cells #[.bool b] T2 (0,0))/\(b=true->c ∈ pre)/\hB r=none/\hB r2=none/\∀x,aO x↔x=r\/x=r2
theorem RS(hB:Y)(r r2:Nat)(T T2:bA):Fh hB (JBest hB r r2 T T2):=by
 refine ⟨?_,?_⟩
 ·rintro d g h x ⟨c,b,e,f,_,_,_,a⟩ i;rcases (a x).1 i with rfl | rfl
  ·exact ⟨_,_,e,rfl⟩
  ·exact ⟨_,_,f,rfl⟩
 ·rintro d g h m ⟨c,b,e,f,j,k,l,a⟩ same _;exact ⟨c,b,(same r ((a r).2 (.inl rfl))).trans e,(same r2 ((a r2).2 (.inr rfl))).trans f,j,k,l,a⟩
theorem WM{hB h:Y}{r r2:Nat}{T T2:bA}{c:List Int}(n1:hB r=none)(n2:hB r2=none)(x:h r=some (true,.cells (Do c) T (0,0)))(y:h r2=some (true,.cells #[.bool false] T2 (0,0))):JBest hB r r2 T T2 [] (λb=>b=r\/b=r2) h:=
 ⟨c,false,x,y,(λe=>by cases e),n1,n2,λ_=>Iff.rfl⟩
section
variable {P:Program} {E:Gb P} {O:Nat->aZ} {ds:List Deferred} {h:Y} {T:(Nat->aZ)->List Deferred->Y->Prop}
variable {dst:Option Nat} {ty:bA} {pos:String} {af:Array Edge} {gd:Option (Nat×Bool)}
def Nh(P:Program)(t:bA):Bool:=match P.underlying t with
 | some (.array _ e)=>(B0 P e).isSome
 | _=>false
theorem Us{t:bA}{z:Array aZ}(ha:Nh P t=true)(hz:BZ P t=some z)(k:T (putS O dst (.agg z)) ds h):BR E ⟨dst,.build t #[],ty,pos,af,gd⟩ O ds h T:=by
 unfold BR execOp;refine Fg ?_;unfold BZ at hz;unfold Nh at ha;unfold Instr.build zeroValue;cases a:P.info? t with
 | none=>rw [a] at hz;cases hz
 | some i=>
  rw [a] at hz;simp only [Option.map_eq_some_iff] at hz;obtain ⟨v,f,rfl⟩:=hz;refine AE _ _ (AE _ _ (CU a ?_));rw [f];refine Ak ?_;cases b:P.underlying t with
  | none=>rw [b] at ha;cases ha
  | some d=>
   rw [b] at ha;cases d <;> first | (cases ha;done) | skip
   rename_i n e
   refine AE _ _ (Ai b ?_);simp only at ha ⊢;cases c:B0 P e with
   | none=>rw [c] at ha;cases ha
   | some x=>
    have g:Instr.fill (λi=>some (i*x.2,x.2)) v.cells ((#[]:Array (Nat×Operand)).map λ(i,y)=>(i,AN O y)).toList=some v.cells:=by simp [Instr.fill]
    refine AE _ _ (Dq c ?_);simp only [g];exact k
end
end Go.Ns
namespace Go.Ns
section
variable {aS aR:Int} {ps:List bB} {ws:List AF} {js:List AM} {ns:List AL} {l r:List Int} {p:AI}
theorem far90(bk:BL aS aR ps ws js ns)(hp:BX p){x v:Nat}(hx:x<ps.length)(hv:v<ps.length):0<=Aw ps.length ws p x v/\Aw ps.length ws p x v<=90:=by
 obtain ⟨k,a,t⟩:=far_short bk hp hx hv
 have:=t.le hp
 have:=bk.plen
 omega
theorem AAO(bk:BL aS aR ps ws js ns)(hr:KT js.length l):∀q,q<=l.length->(GZ js l q).toNat<ps.length
 | 0,_=>by have:=bk.plen;show (0:Int).toNat<_;simp;omega
 | q+1,h=>by
  have a:=hr.at q U
  have:=(Lm bk a).place
  show ((js.getD (l.getD q 0).toNat AM.z).place).toNat<_;omega
theorem WN(bk:BL aS aR ps ws js ns)(hp:BX p)(hr:KT js.length l):∀q,q<=l.length->0<=Bu ps.length ws js p l q/\Bu ps.length ws js p l q<=120*(q:Int)
 | 0,_=>⟨Int.le_refl _,Int.le_refl _⟩
 | q+1,h=>by
  have e:=WN bk hp hr q U;have a:=hr.at q U;have b:=(Lm bk a).place;have f:=far90 bk hp (AAO bk hr q U) (show (js.getD (l.getD q 0).toNat AM.z).place.toNat<ps.length by omega);have w:=hp.works (l.getD q 0).toNat;show 0<=Bu ps.length ws js p l q+(Aw ps.length ws p (GZ js l q).toNat (js.getD (l.getD q 0).toNat AM.z).place.toNat+p.works (l.getD q 0).toNat)/\Bu ps.length ws js p l q+(Aw ps.length ws p (GZ js l q).toNat (js.getD (l.getD q 0).toNat AM.z).place.toNat+p.works (l.getD q 0).toNat)<=_;omega
theorem Ni(bk:BL aS aR ps ws js ns)(hp:BX p)(hr:KT js.length l):0<=AY ps.length ws js p l/\AY ps.length ws js p l<=999:=by
 have a:=WN bk hp hr l.length (Nat.le_refl _);have b:=far90 bk hp (AAO bk hr l.length (Nat.le_refl _)) (show 0<ps.length by have:=bk.plen;omega);have c:=hr.len;have d:=bk.jlen;unfold AY;omega
theorem AAP(hz:BW aS aR ps ws js ns=0)(h0:AV aS aR ps ws js ns 0=0)(hr:KT js.length l):(0<=GG (AV aS aR ps ws js ns 0) (DT (λx=>AY ps.length ws js x l) (AD ws js ns))/\0<=GG (AV aS aR ps ws js ns 0) (Ba (λx=>AY ps.length ws js x l) (AD ws js ns)))/\
  GG (AV aS aR ps ws js ns 0) (Ba (λx=>AY ps.length ws js x l) (AD ws js ns))<=999:=by
 have a:=Cn hz;have b:=(Ei h0).2.2;rw [h0];simp only [LQ];obtain ⟨x,d,e⟩:=fMin_mem (F:=λx=>AY ps.length ws js x l) b;obtain ⟨y,c,f⟩:=fMax_mem (F:=λx=>AY ps.length ws js x l) b;rw [e,f];exact ⟨⟨(Ni a (E7 a x d) hr).1,(Ni a (E7 a y c) hr).1⟩,(Ni a (E7 a y c) hr).2⟩
end
section
variable {ks cl c:List Int} {dr fi:List (Int×Int)} {sa:List Ay} {co:List Cu} {am:Int}
theorem give_ok(hb:Dj ks dr sa fi co)(hcl:IO cl)(ham:0<=am)(hc:c ∈ Bm ks cl true ks.length 0 am []):c.length=ks.length/\DJ ks c=am/\DJ ks c<=DJ ks cl/\∀i,0<=c.getD i 0/\c.getD i 0<=30:=by
 obtain ⟨b,d,a⟩:=Mq (λj=>(hcl j).1) (λj e=>(hb.hk.2.1 j e).1.1) _ _ _ _ _ hc U rfl ham (λj=>⟨aD,by have:=hcl j;simpa using this.1⟩);refine ⟨b,d.trans (show 0+am=am by omega),WL (λj=>(hb.hk.rng j).1) (λj=>(a j).2) _,λi=>?_⟩
 have:=a i;have:=hcl i;omega
theorem IO.c30(h:IO cl)(i:Nat):0<=cl.getD i 0/\cl.getD i 0<=30:=by have:=h i;omega
end
end Go.Ns
namespace Go.Ns
open Go.Conc
universe u
theorem Z{aQ:Sort u}{a:aQ}:a=a:=rfl
theorem Lr{h:Y}:Y.Le h h:=Y.Le.refl h
theorem Ln{h h':Y}(l:h.Le h'){r:Nat}(hr:h' r=none):h r=none:=l.nothing hr
theorem CI{h:Y}{b r:Nat}{p:Bool}{o:Obj}(hb:h b=some (p,o))(hr:h r=none):b≠r:=Y.ne_of hb hr
theorem Nb{a b:Nat}(h:Nat.ble a b=true):a<=b:=Nat.le_of_ble_eq_true h
theorem Dn{p:Prop}[Decidable p](h:¬¬p):p:=Decidable.not_not.1 h
theorem Et{aQ:Sort u}{a b c:aQ}(x:a=b)(y:b=c):a=c:=x.trans y
theorem Kl{h0 h:Y}(k:KeepD (λb=>h0 b=none) h0 h):h0.Le h:=k.leOf
theorem Bx{h:Y}{b:Nat}{p:Bool}{c:Array aZ}{t:bA}{f:Nat×Nat}(hb:h b=some (p,.cells c t f)){n:Nat}(hn:c.size=n):AU h b 0 n c:=AU.box hb hn
abbrev lE(v:aZ):Law2:=λ_ u _=>u=v
abbrev lF(v:aZ):Sd:=λu _=>u=v
abbrev zP:Array aZ:=#[.int .i64 0,.int .i64 0,.slice none 0 0,.slice none 0 0,.slice none 0 0,.slice none 0 0,.map none]
section
variable {P:Program} {E:Gb P} {O:Nat->aZ} {ds:List Deferred} {h:Y} {Q:Post} {T:(Nat->aZ)->List Deferred->Y->Prop}
variable {dst:Option Nat} {ty:bA} {pos:String} {af:Array Edge} {ops:Array Oper} {o:Oper} {l:List Oper}
theorem Sq{x y:Code}(a:Tr E x O ds h (λe σ' ds' h'=>match e with | .normal=>Tr E y σ' ds' h' Q | e=>Q e σ' ds' h')):Tr E (.seq x y) O ds h Q:=tr_seq a
theorem Rg{id:Nat}{l:List Oper}(a:DK E l.toArray l O ds h Q):Tr E (.region id l.toArray false) O ds h Q:=AAa a
theorem L(q:Q .normal O ds h):DK E ops [] O ds h Q:=trL_nil q
abbrev Rt:=@tr_ret
abbrev Bk:=@tr_block
abbrev Sk:=@tr_skip
abbrev Xt:=@tr_exit
def plainB(N:Nat)(o:Oper):Bool:=o.guard.isNone && !C2 o.op && Cy o.dst N
theorem S(hp:plainB E.N o=true)(x:BR E o O ds h λσ' ds' h'=>DK E ops l σ' ds' h' Q):DK E ops (o ::l) O ds h Q:=by
 simp only [plainB,Bool.and_eq_true,Option.isNone_iff_eq_none,Bool.not_eq_true'] at hp;exact Gh hp.1.1 hp.1.2 hp.2 x
theorem Mv{x:Operand}(v:aZ)(hp:Cy dst E.N=true)(hx:AN O x=v)(k:DK E ops l (putS O dst v) ds h Q):DK E ops (⟨dst,.move x,ty,pos,af,none⟩ ::l) O ds h Q:=Gh rfl rfl hp (UC hx k)
theorem As{x:Operand}(v:aZ)(hp:Cy dst E.N=true)(hx:AN O x=v)(k:DK E ops l (putS O dst v) ds h Q):DK E ops (⟨dst,.assign x,ty,pos,af,none⟩ ::l) O ds h Q:=Gh rfl rfl hp (Kj hx k)
theorem Ld{t:bA}{x:Operand}{b off:Nat}(v:aZ)(hp:Cy dst E.N=true)(hx:AN O x=.pointer (some ⟨b,off,none⟩))(hr:Rd P h t b off v)(k:DK E ops l (putS O dst v) ds h Q):DK E ops (⟨dst,.load t x,ty,pos,af,none⟩ ::l) O ds h Q:=
 Gh rfl rfl hp (CE hx hr k)
theorem Fa{s:bA}{x:Operand}{f o b off:Nat}(hf:Co P s f=some o)(hp:Cy dst E.N=true)(hx:AN O x=.pointer (some ⟨b,off,none⟩))(k:DK E ops l (putS O dst (.pointer (some ⟨b,off+o,none⟩))) ds h Q) :
  DK E ops (⟨dst,.fieldAddr s x f,ty,pos,af,none⟩ ::l) O ds h Q:=Gh rfl rfl hp (AC hf hx k)
theorem Pk{c a b:Operand}(t:Bool)(v:aZ)(hp:Cy dst E.N=true)(hc:AN O c=.bool t)(hv:(if t then AN O a else AN O b)=v)(k:DK E ops l (putS O dst v) ds h Q):DK E ops (⟨dst,.pick c a b,ty,pos,af,none⟩ ::l) O ds h Q:=
 Gh rfl rfl hp (BI hc hv k)
theorem Ad{xt yt:bA}{x y:Operand}(a b:Int)(hp:Cy dst E.N=true)(hx:AN O x=.int .i64 a)(hy:AN O y=.int .i64 b)(hr: -9223372036854775808<=a+b/\a+b<=9223372036854775807)(k:DK E ops l (putS O dst (.int .i64 (a+b))) ds h Q) :
  DK E ops (⟨dst,.binOp .add xt x y yt,ty,pos,af,none⟩ ::l) O ds h Q:=Gh rfl rfl hp (Im hx hy hr k)
def skipB(N:Nat)(ops:Array Oper)(o:Oper)(j d:Nat)(is:Bool):Bool:=(match o.guard with
 | some (i,w)=>i==j && w !=is
 | none=>false) && (match ops[j]? with
 | some oj=>(match oj.dst with
  | some e=>e==d
  | none=>false)
 | none=>false) && Nat.blt d N && Cy o.dst N
theorem Gs(j d:Nat){is:Bool}(hv:O d=.bool is)(hs:skipB E.N ops o j d is=true)(x:DK E ops l (putS O o.dst undef) ds h Q):DK E ops (o ::l) O ds h Q:=by
 simp only [skipB,Bool.and_eq_true] at hs;obtain ⟨⟨⟨a,b⟩,m⟩,n⟩:=hs;cases f:o.guard with
 | none=>rw [f] at a;cases a
 | some q=>
  obtain ⟨i,w⟩:=q;rw [f] at a;simp only [Bool.and_eq_true,beq_iff_eq,bne_iff_ne,ne_eq] at a;obtain ⟨rfl,g⟩:=a;cases c:ops[i]? with
  | none=>rw [c] at b;cases b
  | some p=>
   cases k:p.dst with
   | none=>simp [c,k] at b
   | some e=>
    obtain rfl:e=d:=by simpa [c,k] using b
    exact PP f c k hv m g n x
def goB(N:Nat)(ops:Array Oper)(o:Oper)(j d:Nat)(is:Bool):Bool:=(match o.guard with
 | some (i,w)=>i==j && w==is
 | none=>false) && (match ops[j]? with
 | some oj=>(match oj.dst with
  | some e=>e==d
  | none=>false)
 | none=>false) && Nat.blt d N && !C2 o.op && Cy o.dst N
theorem Gg(j d:Nat){is:Bool}(hv:O d=.bool is)(hs:goB E.N ops o j d is=true)(x:BR E o O ds h λσ' ds' h'=>DK E ops l σ' ds' h' Q):DK E ops (o ::l) O ds h Q:=by
 simp only [goB,Bool.and_eq_true,Bool.not_eq_true'] at hs;obtain ⟨⟨⟨⟨a,b⟩,k⟩,m⟩,n⟩:=hs;cases f:o.guard with
 | none=>rw [f] at a;cases a
 | some q=>
  obtain ⟨i,w⟩:=q;rw [f] at a;simp only [Bool.and_eq_true,beq_iff_eq] at a;obtain ⟨rfl,rfl⟩:=a;cases c:ops[i]? with
  | none=>rw [c] at b;cases b
  | some p=>
   cases g:p.dst with
   | none=>simp [c,g] at b
   | some e=>
    obtain rfl:e=d:=by simpa [c,g] using b
    exact trL_opg f c g hv k (.inr m) n x
end
section
variable {aN:Nat->Prop} {Pre:Nat->Y->Prop} {Φ:List Law2} {cl:List Nat} {k d:Nat} {h h':Y} {O:Nat->aZ} {ds:List Deferred} {v:aZ}
theorem fL{Φ:List Sd}(p:MH Φ k v h):ds=ds/\Y.Le h h/\∃w,putS O (some d) v=putS O (some d) w/\MH Φ k w h:=⟨rfl,Y.Le.refl _,_,rfl,p⟩
theorem K1{R:Y->Y->Prop}{Φ:List Sd}{a:aZ}(x:GK R Φ):GK R (lF a ::Φ):=⟨λ_ _ _ _ y=>y,x⟩
theorem K2{R:Y->Y->Prop}{Φ:List Sd}{a b:aZ}(x:GK R Φ):GK R (lF a ::lF b ::Φ):=K1 (K1 x)
theorem K4{R:Y->Y->Prop}{Φ:List Sd}{a b c d:aZ}(x:GK R Φ):GK R (lF a ::lF b ::lF c ::lF d ::Φ):=K2 (K2 x)
theorem K8{R:Y->Y->Prop}{Φ:List Sd}{a b c d a' b' c' d':aZ}(x:GK R Φ):GK R (lF a ::lF b ::lF c ::lF d ::lF a' ::lF b' ::lF c' ::lF d' ::Φ):=K4 (K4 x)
end
end Go.Ns
namespace Go.Ns
open Go.Conc
section
variable {P:Program} {E:Gb P} {O:Nat->aZ} {ds:List Deferred} {h:Y} {Q:Post} {T:(Nat->aZ)->List Deferred->Y->Prop}
variable {dst:Option Nat} {ty:bA} {pos:String} {af:Array Edge} {ops:Array Oper} {o:Oper} {l:List Oper} {gd:Option (Nat×Bool)}
theorem Mz{x:Operand}(v:aZ)(e:(Cy dst E.N,AN O x)=(true,v))(k:DK E ops l (putS O dst v) ds h Q):DK E ops (⟨dst,.move x,ty,pos,af,none⟩ ::l) O ds h Q:=Mv v (congrArg Prod.fst e) (congrArg Prod.snd e) k
theorem V{x:Operand}(v:aZ)(e:(Cy dst E.N,AN O x)=(true,v))(k:DK E ops l (putS O dst v) ds h Q):DK E ops (⟨dst,.assign x,ty,pos,af,none⟩ ::l) O ds h Q:=As v (congrArg Prod.fst e) (congrArg Prod.snd e) k
theorem Lz{t:bA}{x:Operand}{b off:Nat}(v:aZ)(e:(Cy dst E.N,AN O x)=(true,.pointer (some ⟨b,off,none⟩)))(hr:Rd P h t b off v)(k:DK E ops l (putS O dst v) ds h Q):DK E ops (⟨dst,.load t x,ty,pos,af,none⟩ ::l) O ds h Q:=
 Ld v (congrArg Prod.fst e) (congrArg Prod.snd e) hr k
theorem Fz{s:bA}{x:Operand}{f o b off:Nat}(hf:Co P s f=some o)(e:(Cy dst E.N,AN O x)=(true,.pointer (some ⟨b,off,none⟩)))(k:DK E ops l (putS O dst (.pointer (some ⟨b,off+o,none⟩))) ds h Q) :
  DK E ops (⟨dst,.fieldAddr s x f,ty,pos,af,none⟩ ::l) O ds h Q:=Fa hf (congrArg Prod.fst e) (congrArg Prod.snd e) k
theorem Pz{c a b:Operand}(t:Bool)(v:aZ)(e:(Cy dst E.N,AN O c,(if t then AN O a else AN O b))=(true,.bool t,v))(k:DK E ops l (putS O dst v) ds h Q):DK E ops (⟨dst,.pick c a b,ty,pos,af,none⟩ ::l) O ds h Q:=
 Pk t v (congrArg Prod.fst e) (congrArg (λq=>q.2.1) e) (congrArg (λq=>q.2.2) e) k
theorem Yd{xt yt:bA}{x y:Operand}{a b:Int}(e:(Cy dst E.N,AN O x,AN O y)=(true,.int .i64 a,.int .i64 b))(hr: -9223372036854775808<=a+b/\a+b<=9223372036854775807)(k:DK E ops l (putS O dst (.int .i64 (a+b))) ds h Q) :
  DK E ops (⟨dst,.binOp .add xt x y yt,ty,pos,af,none⟩ ::l) O ds h Q:=Ad a b (congrArg Prod.fst e) (congrArg (λq=>q.2.1) e) (congrArg (λq=>q.2.2) e) hr k
theorem Mo{x:Operand}(v:aZ)(hx:AN O x=v)(k:T (putS O dst v) ds h):BR E ⟨dst,.move x,ty,pos,af,gd⟩ O ds h T:=UC hx k
theorem Lo{t:bA}{x:Operand}{b off:Nat}(v:aZ)(hx:AN O x=.pointer (some ⟨b,off,none⟩))(hr:Rd P h t b off v)(k:T (putS O dst v) ds h):BR E ⟨dst,.load t x,ty,pos,af,gd⟩ O ds h T:=CE hx hr k
theorem Ex{x:Operand}{n:Nat}{vs:Array aZ}(v:aZ)(e:(AN O x,vs[n]?)=(.tuple vs,some v))(k:T (putS O dst v) ds h):BR E ⟨dst,.extract x n,ty,pos,af,gd⟩ O ds h T:=XG (congrArg Prod.fst e) (congrArg Prod.snd e) k
theorem Bo{t:bA}{x:Operand}{v:aZ}(c:Array aZ)(hx:AN O x=v)(hc:v.cells=c)
  (k:∀r h',h r=none->h.Le h'->h' r=some (true,.cells c t (0,0))->(∀b,b≠r->h' b=h b)->T (putS O dst (.pointer (some ⟨r,0,none⟩))) ds h'):BR E ⟨dst,.box t x,ty,pos,af,gd⟩ O ds h T:=UE hx hc k
theorem So{t:bA}{a x:Operand}{b off n:Nat}{g:Bool}{c:Array aZ}{et:bA}(v:aZ)(c':Array aZ)(ht:B0 P t=some (g,n))(e:(AN O a,AN O x)=(.pointer (some ⟨b,off,none⟩),v))(hb:h b=some (true,.cells c et (0,0)))
  (e2:(v.cells.size,Value.fine v)=(n,true)) (hn:off+n<=c.size) (hc:BU c off v.cells.toList=c') (k:∀h',h' b=some (true,.cells c' et (0,0))->(∀x,x≠b->h' x=h x)->T (putS O dst undef) ds h') :
  BR E ⟨dst,.store t a x,ty,pos,af,gd⟩ O ds h T:=AZ ht (congrArg Prod.fst e) (congrArg Prod.snd e) hb (congrArg Prod.fst e2) (congrArg Prod.snd e2) hn hc k
theorem Ot{fn:Func}{R:aZ->Y->Prop}{t:Tmp}(v:aZ)(e:(fn.results,O t)=(#[.tmp t],v))(x:R v h):Gf P fn O R [] h:=Jt (congrArg Prod.fst e) (congrArg Prod.snd e) x
theorem Ou{fn:Func}{R:aZ->Y->Prop}{t u:Tmp}(v v':aZ)(e:(fn.results,O t,O u)=(#[.tmp t,.tmp u],v,v'))(x:R (.tuple #[v,v']) h):Gf P fn O R [] h:=outs2 (congrArg Prod.fst e) (congrArg (λq=>q.2.1) e) (congrArg (λq=>q.2.2) e) x
theorem Sr{id:Nat}{y:Code}(a:DK E l.toArray l O ds h (λe σ' ds' h'=>match e with | .normal=>Tr E y σ' ds' h' Q | e=>Q e σ' ds' h')):Tr E (.seq (.region id l.toArray false) y) O ds h Q:=Sq (Rg a)
theorem S2{id:Nat}{y z:Code}(a:DK E l.toArray l O ds h (λe σ' ds' h'=>match e with | .normal=>Tr E y σ' ds' h' (λe σ' ds' h'=>match e with | .normal=>Tr E z σ' ds' h' Q | e=>Q e σ' ds' h') | e=>(λe σ' ds' h'=>match e with | .normal=>Tr E z σ' ds' h' Q | e=>Q e σ' ds' h') e σ' ds' h')) :
  Tr E (.seq (.seq (.region id l.toArray false) y) z) O ds h Q:=Sq (Sq (Rg a))
theorem Zr{aQ:Type}{a b:aQ}:a=b\/a=a:=.inr rfl
theorem M2{x x':Operand}{dst':Option Nat}{ty':bA}{pos':String}{af':Array Edge}(v v':aZ)(e:(Cy dst E.N,AN O x,Cy dst' E.N,AN (putS O dst v) x')=(true,v,true,v'))(k:DK E ops l (putS (putS O dst v) dst' v') ds h Q):DK E ops (⟨dst,.move x,ty,pos,af,none⟩ ::⟨dst',.move x',ty',pos',af',none⟩ ::l) O ds h Q:=
 Mv v (congrArg Prod.fst e) (congrArg (λq=>q.2.1) e) (Mv v' (congrArg (λq=>q.2.2.1) e) (congrArg (λq=>q.2.2.2) e) k)
theorem A2{x x':Operand}{dst':Option Nat}{ty':bA}{pos':String}{af':Array Edge}(v v':aZ)(e:(Cy dst E.N,AN O x,Cy dst' E.N,AN (putS O dst v) x')=(true,v,true,v'))(k:DK E ops l (putS (putS O dst v) dst' v') ds h Q):DK E ops (⟨dst,.assign x,ty,pos,af,none⟩ ::⟨dst',.assign x',ty',pos',af',none⟩ ::l) O ds h Q:=
 As v (congrArg Prod.fst e) (congrArg (λq=>q.2.1) e) (As v' (congrArg (λq=>q.2.2.1) e) (congrArg (λq=>q.2.2.2) e) k)
theorem Ct{W:Wk P}{f:FuncId}{fn:Func}{c:Code}{args:Array aZ}{R:aZ->Y->Prop}(hf:P.funcs[f]? =some fn)(e:(fn.body,Nat.ble args.size fn.ntmps)=(some c,true))
  (x:Tr ⟨W,f,none,fn.ntmps⟩ c (λi=>args.getD i undef) [] h (λe O ds h'=>(e=.normal\/e=.ret)/\Gf P fn O R ds h')):AT W f args h R:=XE hf (congrArg Prod.fst e) (Nat.le_of_ble_eq_true (congrArg Prod.snd e)) x
end
section
variable {P:Program} {E:Gb P} {l:List Oper} {n:Nat} {fl:Bool} {hs:Y} {ds:List Deferred} {Lw:Nat->aZ->Y->Prop} {F:(Nat->aZ)->Y->Prop} {π:List Nat} {O:Nat->aZ} {h:Y} {m k g d:Nat} {dst:Option Nat} {op:Op} {ty:bA} {pos:String} {af:Array Edge} {v:aZ} {w is:Bool} {og:Oper}
theorem Rz(e:(LC m,l[k]?)=((.r,k),some ⟨dst,op,ty,pos,af,none⟩))(x:UH E ⟨dst,op,ty,pos,af,none⟩ O ds h v)(y:TD E l n fl hs ds Lw F (dK π) (putS O dst v) h):TD E l n fl hs ds Lw F (dK (m ::π)) O h:=tR (congrArg Prod.fst e) (congrArg Prod.snd e) x y
theorem Rm{x:Operand}(v:aZ)(e:(LC m,l[k]?,AN O x)=((.r,k),some ⟨dst,.move x,ty,pos,af,none⟩,v))(y:TD E l n fl hs ds Lw F (dK π) (putS O dst v) h):TD E l n fl hs ds Lw F (dK (m ::π)) O h:=
 tR (congrArg Prod.fst e) (congrArg (λq=>q.2.1) e) (UC (congrArg (λq=>q.2.2) e) vz) y
theorem Rl{t:bA}{x:Operand}{b off:Nat}(v:aZ)(e:(LC m,l[k]?,AN O x)=((.r,k),some ⟨dst,.load t x,ty,pos,af,none⟩,.pointer (some ⟨b,off,none⟩)))(hr:Rd P h t b off v)(y:TD E l n fl hs ds Lw F (dK π) (putS O dst v) h):TD E l n fl hs ds Lw F (dK (m ::π)) O h:=
 tR (congrArg Prod.fst e) (congrArg (λq=>q.2.1) e) (CE (congrArg (λq=>q.2.2) e) hr vz) y
theorem Py(e:(LC m,l[k]?)=((.p,k),some ⟨dst,op,ty,pos,af,none⟩))(x:∀hx,UH E ⟨dst,op,ty,pos,af,none⟩ O ds hx v)(y:TD E l n fl hs ds Lw F (dK π) (putS O dst v) h):TD E l n fl hs ds Lw F (dK (m ::π)) O h:=tP (congrArg Prod.fst e) (congrArg Prod.snd e) x y
theorem Ry(e:(LC m,l[k]?,l[g]?,og.dst)=((.r,k),some ⟨dst,op,ty,pos,af,some (g,w)⟩,some og,some d))(h3:O d=.bool w)(x:UH E ⟨dst,op,ty,pos,af,some (g,w)⟩ O ds h v)
  (y:TD E l n fl hs ds Lw F (dK π) (putS O dst v) h):TD E l n fl hs ds Lw F (dK (m ::π)) O h:=tRg (congrArg Prod.fst e) (congrArg (λq=>q.2.1) e) (congrArg (λq=>q.2.2.1) e) (congrArg (λq=>q.2.2.2) e) h3 x y
theorem Sz{kd:Kd}(e:(LC m,l[k]?,l[g]?,og.dst)=((kd,k),some ⟨dst,op,ty,pos,af,some (g,w)⟩,some og,some d))(h3:O d=.bool is)(hne:(is==w)=false)
  (y:TD E l n fl hs ds Lw F (dK π) (putS O dst undef) h) (hl:(kd !=Kd.l)=true:=by rfl):TD E l n fl hs ds Lw F (dK (m ::π)) O h:=tS (congrArg Prod.fst e) (congrArg (λq=>q.2.1) e) (congrArg (λq=>q.2.2.1) e) (congrArg (λq=>q.2.2.2) e) h3 hne y hl
end
end Go.Ns
namespace Go.Ns
open Go.Conc
structure Fc(h:Y)(ps:List bB)(aU:aZ)(ws:List AF)(aT:aZ)(js:List AM)(aV:aZ)(ns:List AL)(aW:aZ):Prop where
 a:AG h aU 1 E0 ps
 b:AG h aT 4 DP ws
 c:AG h aV 5 DC js
 d:CV h js
 e:AG h aW 3 CL ns
 f:Au h ns
theorem Fc.le{h h':Y}{ps:List bB}{aU:aZ}{ws:List AF}{aT:aZ}{js:List AM}{aV:aZ}{ns:List AL}{aW:aZ}(x:Fc h ps aU ws aT js aV ns aW)(l:h.Le h'):Fc h' ps aU ws aT js aV ns aW:=⟨x.1.le l,x.2.le l,x.3.le l,x.4.le l,x.5.le l,x.6.le l⟩
abbrev J(x:Int):aZ:=.int .i64 x
abbrev Pt(b:Nat):aZ:=.pointer (some ⟨b,0,none⟩)
abbrev Sc(b:Nat)(n c:Nat):aZ:=.slice (some ⟨b,0,none⟩) n c
abbrev Q0:Array aZ:=#[J 0,J 0,.slice none 0 0,.slice none 0 0,.slice none 0 0,.slice none 0 0,.slice none 0 0,.map none]
abbrev Q1(a:List AF)(b:List AM)(c:List AL)(d:Nat):Array aZ:=#[J (((AD a b c).getD (((d:Int)-1).toNat) AI.zero).ways 0),J (((AD a b c).getD (((d:Int)-1).toNat) AI.zero).ways 1),J (((AD a b c).getD (((d:Int)-1).toNat) AI.zero).ways 2),J (((AD a b c).getD (((d:Int)-1).toNat) AI.zero).ways 3),J (((AD a b c).getD (((d:Int)-1).toNat) AI.zero).ways 4)]
abbrev Q2(a:List AF)(b:List AM)(c:List AL)(d:Nat):Array aZ:=#[J (((AD a b c).getD d AI.zero).ways 0),J (((AD a b c).getD d AI.zero).ways 1),J (((AD a b c).getD d AI.zero).ways 2),J (((AD a b c).getD d AI.zero).ways 3),J (((AD a b c).getD d AI.zero).ways 4)]
abbrev Q3(a:List AF)(b:Nat):Array aZ:=#[J ((a.getD b AF.z).a),J ((a.getD b AF.z).b),J ((a.getD b AF.z).low),J ((a.getD b AF.z).high)]
abbrev Q4(a:bB)(b:Nat):=decide (¬(((97<=((bytesOf a).getD b 0))/\(((bytesOf a).getD b 0)<=122))\/(((0<(b:Int))/\(48<=((bytesOf a).getD b 0)))/\(((bytesOf a).getD b 0)<=57))))
abbrev Q5:aZ:=.slice none 0 0
abbrev Q6(a:List AL)(b:Nat):Array aZ:=#[(a.getD b AL.z).wv,J ((a.getD b AL.z).low),J ((a.getD b AL.z).high)]
abbrev Q7(a:List AM)(b:Nat):=decide ((¬(((0<=((a.getD b AM.z).low)/\((a.getD b AM.z).low)<=((a.getD b AM.z).high))/\((a.getD b AM.z).high)<=30)/\((a.getD b AM.z).high)-((a.getD b AM.z).low)<2))\/(¬(0<=((a.getD b AM.z).due)/\((a.getD b AM.z).due)<=200)))
abbrev Q8(a:bB)(b:Nat):=(bytesOf a).getD b 0
abbrev Q9(a:List AF)(b:Nat):=(a.getD b AF.z).b
abbrev Qa(a:List AM)(b:Nat):Array aZ:=#[J ((a.getD b AM.z).place),J ((a.getD b AM.z).low),J ((a.getD b AM.z).high),J ((a.getD b AM.z).due),(a.getD b AM.z).pv]
abbrev Qb(a:List AI)(b:Nat):=(a.drop (1)).getD b AI.zero
abbrev Qc(a:List AF)(b:Nat):=(a.getD b AF.z).a
abbrev Qd(a:List bB)(b:List AF)(c:List AM)(d:List AL):=decide ((((20<(a.length:Int))\/(20<(b.length:Int)))\/(20<(c.length:Int)))\/(20<(d.length:Int)))
abbrev Qe(a:Int)(b:Int):=decide ((¬(0<=a/\a<=9))\/(¬(0<=b/\b<=3)))
abbrev Qf(a:List Ay)(b:Nat):Array aZ:=#[J ((a.getD b Ay.z).price),(a.getD b Ay.z).pv,J ((a.getD b Ay.z).seen)]
abbrev Qg(a:List AF)(b:List AM)(c:List AL)(d:Nat):aZ:=.agg (Ac ((AD a b c).getD d AI.zero))
abbrev Qh(a:Int)(b:Int):aZ:=.bool (decide (a<=b))
abbrev Qi(a:Int)(b:Int)(c:Int)(d:Int):=decide ((((0<=a)/\(a<=b))/\(b<=c))/\((b-a)<d))
abbrev Qj(a:List bB)(b:List AF)(c:Nat):=J (BH a.length [(b.getD c AF.z).a,(b.getD c AF.z).b])
abbrev Qk(a:List AI):=a.getD 0 AI.zero
abbrev Ql(a:List AM)(b:List Int):=Af a.length b
abbrev Qm(a:List Int)(b:Nat):=J (a.getD b 0)
abbrev Qn(a:List AL)(b:Nat):Array aZ:=#[J ((a.getD b AL.z).low),J ((a.getD b AL.z).high)]
abbrev Qo(a:List AF)(b:Nat):Array aZ:=#[J ((a.getD b AF.z).low),J ((a.getD b AF.z).high)]
abbrev Qp(a:List AM)(b:Nat):Array aZ:=#[J ((a.getD b AM.z).low),J ((a.getD b AM.z).high)]
abbrev Qq(a:List AL)(b:Nat)(c:Nat):=((a.getD b AL.z).ways).getD c 0
abbrev Qr(a:Int)(b:Int):=decide (((0<=a/\a<=b)/\b<=30)/\((b-a)<2))
abbrev Qs(a:Int)(b:Int)(c:Int):=decide ((a<=b)/\(b<=c))
abbrev Qt(a:Int)(b:Int)(c:Int)(d:Int):=decide (((a<=b)/\(b<=c))/\(c<=d))
abbrev Qu(a:Nat)(b:Nat)(c:Array Int):=decide (((a:Int)<(b:Int))/\((c[b]!)<(c[((b:Int)-1).toNat]!)))
abbrev Qv(a:List AM)(b:Nat):=(a.getD b AM.z).due
abbrev Qw(a:List AL)(b:Nat):=(a.getD b AL.z).wv
abbrev Qx(a:bB):=decide (((a.size:Int)<1)\/(10<(a.size:Int)))
abbrev Qy(a:List AM)(b:Nat):=(a.getD b AM.z).high
abbrev Qz(a:Int):=decide ((97<=a)/\(a<=122))
abbrev WO(a:Int)(b:Int)(c:aZ)(d:aZ)(e:aZ)(f:aZ):Array aZ:=#[.agg #[J a,J b,c,d,e,f]]
abbrev Q11(a:Int):=decide (¬(0<=a/\a<=3))
abbrev Q12(a:Nat):aZ:=.func (.func 116) #[] #[Pt a]
abbrev Q13(a:List Int)(b:Nat)(c:List Int):=J (IV (a.getD b 0) (c.getD b 0))
abbrev Q14(a:List Sl)(b:Nat):=((a.drop (1)).getD b Sl.z).1
abbrev Q15(a:Int):=decide ((48<=a)/\(a<=57))
abbrev Q16(a:List AM)(b:Nat):=(a.getD b AM.z).low
abbrev Q17(a:List AM)(b:List Int)(c:Nat):=J (Ci a.length (b.getD c 0))
abbrev Q18(a:List Cu)(b:Nat):Array aZ:=#[J ((a.getD b Cu.z).kind),J ((a.getD b Cu.z).low),J ((a.getD b Cu.z).high)]
end Go.Ns
namespace Go.Ns
open Go.Conc Go.Proofs Go.Proofs.Tryz
theorem SK:Iy prog 122 122=some (160,9,72):=aB
theorem WP:Iy prog 22 22=some (9,1,16):=aB
theorem WQ:Iy prog 23 23=some (117,4,32):=aB
theorem WR:Iy prog 24 24=some (48,5,56):=aB
theorem KU:Iy prog 25 25=some (94,3,40):=aB
theorem By:Iy prog 37 37=some (3,1,8):=aB
theorem WT:Iy prog 57 57=some (46,2,16):=aB
theorem GB:Iy prog 98 98=some (37,1,24):=aB
theorem fx_arr140:VN prog 140=some (4,false,1):=aB
theorem fx_arr178:VN prog 178=some (5,false,1):=aB
theorem fx_arr237:VN prog 237=some (5,false,1):=aB
theorem D6:J2 prog 102=some (4,1):=aB
theorem H2:J2 prog 140=some (4,1):=aB
theorem H3:J2 prog 158=some (5,1):=aB
theorem Eo:J2 prog 168=some (4,1):=aB
theorem FS:J2 prog 244=some (4,4):=aB
theorem fx_bar140:Nh prog 140=true:=aB
theorem fx_bt3:MW prog 3=some 8:=aB
theorem fx_bt4:MW prog 4=some 1:=aB
theorem YA:AK Tryz.f100=true:=aB
theorem YB:AK Tryz.f101=true:=aB
theorem YC:AK Tryz.f102=true:=aB
theorem YD:AK Tryz.f103=true:=aB
theorem fx_call11:AK Tryz.f11=true:=aB
theorem YE:AK Tryz.f110=true:=aB
theorem YF:AK Tryz.f111=true:=aB
theorem YG:AK Tryz.f112=true:=aB
theorem YH:AK Tryz.f113=true:=aB
theorem YI:AK Tryz.f114=true:=aB
theorem YJ:AK Tryz.f115=true:=aB
theorem RT:AK Tryz.f116=true:=aB
theorem YK:AK Tryz.f117=true:=aB
theorem RU:AK Tryz.f118=true:=aB
theorem RV:AK Tryz.f119=true:=aB
theorem fx_call12:AK Tryz.f12=true:=aB
theorem RW:AK Tryz.f120=true:=aB
theorem RX:AK Tryz.f121=true:=aB
theorem RY:AK Tryz.f122=true:=aB
theorem RZ:AK Tryz.f123=true:=aB
theorem YL:AK Tryz.f124=true:=aB
theorem Jf:AK Tryz.f125=true:=aB
theorem YM:AK Tryz.f126=true:=aB
theorem YN:AK Tryz.f127=true:=aB
theorem YO:AK Tryz.f128=true:=aB
theorem YP:AK Tryz.f129=true:=aB
theorem Ra:AK Tryz.f130=true:=aB
theorem YQ:AK Tryz.f131=true:=aB
theorem YR:AK Tryz.f132=true:=aB
theorem Ly:AK Tryz.f133=true:=aB
theorem Rb:AK Tryz.f134=true:=aB
theorem YS:AK Tryz.f135=true:=aB
theorem YT:AK Tryz.f136=true:=aB
theorem L0:AK Tryz.f138=true:=aB
theorem YU:AK Tryz.f139=true:=aB
theorem Jg:AK Tryz.f140=true:=aB
theorem YV:AK Tryz.f141=true:=aB
theorem YW:AK Tryz.f142=true:=aB
theorem YX:AK Tryz.f143=true:=aB
theorem YY:AK Tryz.f144=true:=aB
theorem YZ:AK Tryz.f145=true:=aB
theorem Ya:AK Tryz.f146=true:=aB
theorem fx_call15:AK Tryz.f15=true:=aB
theorem Rc:AK Tryz.f150=true:=aB
theorem Yb:AK Tryz.f156=true:=aB
theorem fx_call16:AK Tryz.f16=true:=aB
theorem Yc:AK Tryz.f160=true:=aB
theorem Ye:AK Tryz.f161=true:=aB
theorem Yf:AK Tryz.f162=true:=aB
theorem Yg:AK Tryz.f163=true:=aB
theorem L1:AK Tryz.f164=true:=aB
theorem Yh:AK Tryz.f165=true:=aB
theorem Yi:AK Tryz.f166=true:=aB
theorem Jh:AK Tryz.f167=true:=aB
theorem Re:AK Tryz.f168=true:=aB
theorem L2:AK Tryz.f169=true:=aB
theorem TU:AK Tryz.f17=true:=aB
theorem TV:AK Tryz.f18=true:=aB
theorem fx_call19:AK Tryz.f19=true:=aB
theorem Yj:AK Tryz.f194=true:=aB
theorem Yk:AK Tryz.f196=true:=aB
theorem Yl:AK Tryz.f197=true:=aB
theorem Ym:AK Tryz.f198=true:=aB
theorem Yn:AK Tryz.f199=true:=aB
theorem fx_call20:AK Tryz.f20=true:=aB
theorem Yo:AK Tryz.f200=true:=aB
theorem Yp:AK Tryz.f201=true:=aB
theorem Yq:AK Tryz.f202=true:=aB
theorem Yr:AK Tryz.f203=true:=aB
theorem Ys:AK Tryz.f204=true:=aB
theorem L3:AK Tryz.f205=true:=aB
theorem Yt:AK Tryz.f206=true:=aB
theorem Yu:AK Tryz.f207=true:=aB
theorem Yv:AK Tryz.f208=true:=aB
theorem Yw:AK Tryz.f209=true:=aB
theorem TW:AK Tryz.f21=true:=aB
theorem Yx:AK Tryz.f210=true:=aB
theorem Yy:AK Tryz.f211=true:=aB
theorem Yz:AK Tryz.f212=true:=aB
theorem TX:AK Tryz.f22=true:=aB
theorem Y1:AK Tryz.f222=true:=aB
theorem Y3:AK Tryz.f223=true:=aB
theorem Y4:AK Tryz.f224=true:=aB
theorem Y5:AK Tryz.f225=true:=aB
theorem Y6:AK Tryz.f226=true:=aB
theorem Rf:AK Tryz.f227=true:=aB
theorem Y7:AK Tryz.f228=true:=aB
theorem Rh:AK Tryz.f229=true:=aB
theorem fx_call23:AK Tryz.f23=true:=aB
theorem fx_call24:AK Tryz.f24=true:=aB
theorem fx_call27:AK Tryz.f27=true:=aB
theorem fx_call28:AK Tryz.f28=true:=aB
theorem TY:AK Tryz.f29=true:=aB
theorem fx_call30:AK Tryz.f30=true:=aB
theorem fx_call31:AK Tryz.f31=true:=aB
theorem fx_call32:AK Tryz.f32=true:=aB
theorem fx_call33:AK Tryz.f33=true:=aB
theorem fx_call34:AK Tryz.f34=true:=aB
theorem fx_call35:AK Tryz.f35=true:=aB
theorem fx_call36:AK Tryz.f36=true:=aB
theorem fx_call37:AK Tryz.f37=true:=aB
theorem FT:AK Tryz.f38=true:=aB
theorem fx_call39:AK Tryz.f39=true:=aB
theorem I9:AK Tryz.f40=true:=aB
theorem fx_call41:AK Tryz.f41=true:=aB
theorem GC:AK Tryz.f42=true:=aB
theorem H4:AK Tryz.f46=true:=aB
theorem fx_call47:AK Tryz.f47=true:=aB
theorem fx_call48:AK Tryz.f48=true:=aB
theorem TZ:AK Tryz.f49=true:=aB
theorem fx_call5:AK Tryz.f5=true:=aB
theorem Ta:AK Tryz.f50=true:=aB
theorem Tb:AK Tryz.f51=true:=aB
theorem Tc:AK Tryz.f52=true:=aB
theorem Td:AK Tryz.f56=true:=aB
theorem fx_call57:AK Tryz.f57=true:=aB
theorem fx_call58:AK Tryz.f58=true:=aB
theorem GD:AK Tryz.f59=true:=aB
theorem Ky:AK Tryz.f60=true:=aB
theorem H5:AK Tryz.f61=true:=aB
theorem Te:AK Tryz.f62=true:=aB
theorem Tf:AK Tryz.f63=true:=aB
theorem Tg:AK Tryz.f64=true:=aB
theorem Th:AK Tryz.f65=true:=aB
theorem Ti:AK Tryz.f66=true:=aB
theorem Tj:AK Tryz.f67=true:=aB
theorem Tk:AK Tryz.f68=true:=aB
theorem FU:AK Tryz.f69=true:=aB
theorem KV:AK Tryz.f7=true:=aB
theorem fx_call70:AK Tryz.f70=true:=aB
theorem Nj:AK Tryz.f71=true:=aB
theorem fx_call72:AK Tryz.f72=true:=aB
theorem Tl:AK Tryz.f73=true:=aB
theorem Db:AK Tryz.f74=true:=aB
theorem fx_call75:AK Tryz.f75=true:=aB
theorem fx_call76:AK Tryz.f76=true:=aB
theorem fx_call77:AK Tryz.f77=true:=aB
theorem fx_call78:AK Tryz.f78=true:=aB
theorem Kz:AK Tryz.f82=true:=aB
theorem JA:AK Tryz.f83=true:=aB
theorem DO:AK Tryz.f84=true:=aB
theorem Tm:AK Tryz.f85=true:=aB
theorem Nk:AK Tryz.f86=true:=aB
theorem Nm:AK Tryz.f87=true:=aB
theorem fx_call88:AK Tryz.f88=true:=aB
theorem Tn:AK Tryz.f89=true:=aB
theorem To:AK Tryz.f90=true:=aB
theorem fx_call91:AK Tryz.f91=true:=aB
theorem Nn:AK Tryz.f92=true:=aB
theorem Tp:AK Tryz.f93=true:=aB
theorem Np:AK Tryz.f94=true:=aB
theorem ES:AK Tryz.f95=true:=aB
theorem Tq:AK Tryz.f96=true:=aB
theorem Gt:AK Tryz.f97=true:=aB
theorem Ts:AK Tryz.f98=true:=aB
theorem Tt:AK Tryz.f99=true:=aB
theorem Tu:prog.eqGuardType prog.depth 158=false:=aB
theorem JB:prog.eqGuardType prog.depth 46=false:=aB
theorem FV:D0 prog 122=some 9:=aB
theorem Nq:D0 prog 218=some 1:=aB
theorem HL:D0 prog 22=some 1:=aB
theorem Fp:D0 prog 23=some 4:=aB
theorem Fq:D0 prog 24=some 5:=aB
theorem IQ:D0 prog 25=some 3:=aB
theorem fx_esz274:D0 prog 274=some 1:=aB
theorem An:D0 prog 37=some 1:=aB
theorem IR:D0 prog 57=some 2:=aB
theorem Ri:D0 prog 58=some 3:=aB
theorem WU:D0 prog 59=some 2:=aB
theorem WV:D0 prog 60=some 3:=aB
theorem fx_esz63:D0 prog 63=some 1:=aB
theorem FB:D0 prog 98=some 1:=aB
theorem K0:∀a:FP,ckP prog 4 162 (E6 a)=true:=by intros;kernel_rfl
theorem K3:∀a b:FP,Pd prog 4 162 (E6 a) (E6 b)=some ((a.1.1==b.1.1 && (a.1.2.1==b.1.2.1 && (a.1.2.2.1==b.1.2.2.1 && (a.1.2.2.2.1==b.1.2.2.2.1 && (a.1.2.2.2.2==b.1.2.2.2.2 && true))))) && (a.2.1==b.2.1 && (a.2.2==b.2.2 && true))):=by intros;kernel_rfl
theorem Ap:Co prog 113 0=some 0:=aB
theorem B4:Co prog 117 0=some 0:=aB
theorem CC:Co prog 117 1=some 1:=aB
theorem KW:Co prog 117 2=some 2:=aB
theorem Dp:Co prog 125 0=some 0:=aB
theorem HM:Co prog 125 1=some 6:=aB
theorem Ic:Co prog 125 2=some 7:=aB
theorem Bn:Co prog 139 0=some 0:=aB
theorem Cj:Co prog 160 0=some 0:=aB
theorem KX:Co prog 160 1=some 5:=aB
theorem Id:Co prog 182 0=some 0:=aB
theorem EW:Co prog 182 1=some 1:=aB
theorem KY:Co prog 182 2=some 2:=aB
theorem Oa:Co prog 185 0=some 0:=aB
theorem Ob:Co prog 185 1=some 1:=aB
theorem Oc:Co prog 188 0=some 0:=aB
theorem Od:Co prog 188 1=some 1:=aB
theorem WW:Co prog 217 0=some 0:=aB
theorem WX:Co prog 217 1=some 1:=aB
theorem L4:Co prog 27 0=some 0:=aB
theorem IS:Co prog 27 1=some 1:=aB
theorem CH:Co prog 27 2=some 2:=aB
theorem Bs:Co prog 27 3=some 3:=aB
theorem Bt:Co prog 27 4=some 4:=aB
theorem B9:Co prog 27 5=some 5:=aB
theorem CY:Co prog 46 0=some 0:=aB
theorem CA:Co prog 46 1=some 1:=aB
theorem Ji:Co prog 48 0=some 0:=aB
theorem L5:Co prog 48 1=some 1:=aB
theorem Jj:Co prog 48 2=some 3:=aB
theorem Ea:Co prog 48 3=some 4:=aB
theorem Bc:Co prog 62 0=some 0:=aB
theorem Dx:Co prog 62 1=some 1:=aB
theorem Df:Co prog 62 2=some 2:=aB
theorem Gu:Co prog 62 3=some 3:=aB
theorem Gv:Co prog 62 4=some 4:=aB
theorem Eb:Co prog 94 0=some 0:=aB
theorem Jk:Co prog 94 1=some 1:=aB
theorem Y8:(prog.info? 217).isSome=true:=aB
theorem fx_infs3:(prog.info? 3).isSome=true:=aB
theorem fx_infs4:(prog.info? 4).isSome=true:=aB
theorem Y9:(prog.info? 217).map (·.zero)=some (some (.agg #[.int .i64 0,.bool false])):=aB
theorem fx_infz3:(prog.info? 3).map (·.zero)=some (some (.int .i64 0)):=aB
theorem fx_infz4:(prog.info? 4).map (·.zero)=some (some (.bool false)):=aB
theorem Rj:PX prog 193=some .u64:=aB
theorem Fs:PX prog 3=some .i64:=aB
theorem HN:PX prog 5=some .u8:=aB
theorem K5:MI prog 123=some (162,3):=aB
theorem Nr:MI prog 169=some (3,3):=aB
theorem Nt:∀a:Int,ckP prog 3 3 (Dz a)=true:=by intros;kernel_rfl
theorem Nu:∀a b:Int,Pd prog 3 3 (Dz a) (Dz b)=some (a==b):=by intros;kernel_rfl
theorem Av:prog.follows .mixedOrders=true:=aB
theorem Rk:(prog.info? 3).bind (·.zero)=some (.int .i64 0):=aB
theorem WY:(prog.info? 3).bind (·.zero)=some (.int .i64 0):=aB
theorem HO:Ef prog 113=some [(0,6)]:=aB
theorem Rn:Ef prog 117=some [(0,1),(1,1),(2,2)]:=aB
theorem HP:Ef prog 125=some [(0,6),(6,1),(7,1)]:=aB
theorem Ro:Ef prog 139=some [(0,5)]:=aB
theorem Mr:Ef prog 162=some [(0,5),(5,1),(6,1)]:=aB
theorem fx_pl217:Ef prog 217=some [(0,1),(1,1)]:=aB
theorem fx_pl27:Ef prog 27=some [(0,1),(1,1),(2,1),(3,1),(4,1),(5,1)]:=aB
theorem Jl:Ef prog 46=some [(0,1),(1,1)]:=aB
theorem Ut:Ef prog 48=some [(0,1),(1,2),(3,1),(4,1)]:=aB
theorem Uu:Ef prog 94=some [(0,1),(1,2)]:=aB
theorem WZ:s2bOf prog 9 274=some 5:=aB
theorem fx_sel122:DZ prog 122=some (9,#[.int .i64 0,.int .i64 0,.int .i64 0,.int .i64 0,.int .i64 0,.int .i64 0,.int .i64 0,.int .i64 0,.int .i64 0],160):=aB
theorem fx_sel218:DZ prog 218=some (1,#[.bool false],4):=aB
theorem Wa:DZ prog 22=some (1,#[.string ⟨#[]⟩],9):=aB
theorem Wb:DZ prog 23=some (4,#[.int .i64 0,.int .i64 0,.int .i64 0,.int .i64 0],117):=aB
theorem Wc:DZ prog 24=some (5,#[.int .i64 0,.int .i64 0,.int .i64 0,.int .i64 0,.slice none 0 0],48):=aB
theorem Ms:DZ prog 25=some (3,#[.slice none 0 0,.int .i64 0,.int .i64 0],94):=aB
theorem BK:DZ prog 37=some (1,#[.int .i64 0],3):=aB
theorem Wd:DZ prog 57=some (2,#[.int .i64 0,.int .i64 0],46):=aB
theorem JC:DZ prog 98=some (1,#[.slice none 0 0],37):=aB
theorem FC:Iw prog 122=true:=aB
theorem fx_sl218:Iw prog 218=true:=aB
theorem Dk:Iw prog 22=true:=aB
theorem EM:Iw prog 23=true:=aB
theorem FX:Iw prog 24=true:=aB
theorem Fv:Iw prog 25=true:=aB
theorem fx_sl274:Iw prog 274=true:=aB
theorem Al:Iw prog 37=true:=aB
theorem G8:Iw prog 57=true:=aB
theorem G9:Iw prog 58=true:=aB
theorem Mt:Iw prog 59=true:=aB
theorem Mu:Iw prog 60=true:=aB
theorem fx_sl63:Iw prog 63=true:=aB
theorem HA:Iw prog 98=true:=aB
theorem Ec:PW prog 9=true:=aB
theorem B3:B0 prog 113=some (true,6):=aB
theorem FD:B0 prog 117=some (true,4):=aB
theorem Mw:B0 prog 120=some (false,1):=aB
theorem HQ:B0 prog 122=some (false,1):=aB
theorem Mx:B0 prog 123=some (false,1):=aB
theorem Am:B0 prog 125=some (true,8):=aB
theorem HR:B0 prog 139=some (true,5):=aB
theorem CP:B0 prog 140=some (true,4):=aB
theorem HT:B0 prog 158=some (true,5):=aB
theorem CZ:B0 prog 160=some (true,9):=aB
theorem fx_ty178:B0 prog 178=some (true,5):=aB
theorem My:B0 prog 182=some (true,3):=aB
theorem Rp:B0 prog 185=some (true,2):=aB
theorem Rq:B0 prog 188=some (true,3):=aB
theorem KZ:B0 prog 196=some (false,1):=aB
theorem fx_ty201:B0 prog 201=some (false,1):=aB
theorem M0:B0 prog 213=some (false,1):=aB
theorem M1:B0 prog 214=some (false,1):=aB
theorem Rr:B0 prog 215=some (false,1):=aB
theorem fx_ty217:B0 prog 217=some (true,2):=aB
theorem Dl:B0 prog 22=some (false,1):=aB
theorem DG:B0 prog 23=some (false,1):=aB
theorem fx_ty237:B0 prog 237=some (true,5):=aB
theorem fx_ty239:B0 prog 239=some (false,1):=aB
theorem DH:B0 prog 24=some (false,1):=aB
theorem M3:B0 prog 240=some (false,1):=aB
theorem fx_ty242:B0 prog 242=some (false,1):=aB
theorem Dc:B0 prog 25=some (false,1):=aB
theorem Aq:B0 prog 27=some (true,6):=aB
theorem fx_ty28:B0 prog 28=some (false,1):=aB
theorem AQ:B0 prog 3=some (false,1):=aB
theorem Ar:B0 prog 37=some (false,1):=aB
theorem Ed:B0 prog 4=some (false,1):=aB
theorem A4:B0 prog 46=some (true,2):=aB
theorem Ie:B0 prog 48=some (true,5):=aB
theorem fx_ty5:B0 prog 5=some (false,1):=aB
theorem GW:B0 prog 57=some (false,1):=aB
theorem Fw:B0 prog 58=some (false,1):=aB
theorem K6:B0 prog 59=some (false,1):=aB
theorem K7:B0 prog 60=some (false,1):=aB
theorem EC:B0 prog 62=some (true,5):=aB
theorem Uv:B0 prog 84=some (false,1):=aB
theorem Nv:B0 prog 9=some (false,1):=aB
theorem Fx:B0 prog 94=some (true,3):=aB
theorem Hu:B0 prog 98=some (false,1):=aB
theorem GE:(prog.underlying 234).isSome=true:=aB
theorem We:(prog.underlying 28).isSome=true:=aB
theorem AAQ:(prog.underlying 3).isSome=true:=aB
theorem If:(prog.underlying 5).isSome=true:=aB
theorem Ka:prog.underlying 213=some (.chan .both 217):=aB
theorem Kb:prog.underlying 214=some (.chan .both 3):=aB
theorem Kc:prog.underlying 215=some (.chan .both 4):=aB
theorem Dg:BZ prog 113=some #[.int .i64 0,.int .i64 0,.slice none 0 0,.slice none 0 0,.slice none 0 0,.slice none 0 0]:=aB
theorem FE:BZ prog 117=some #[.int .i64 0,.int .i64 0,.int .i64 0,.int .i64 0]:=aB
theorem ZA:BZ prog 120=some #[.nilFunc]:=aB
theorem ZB:BZ prog 122=some #[.slice none 0 0]:=aB
theorem A9:BZ prog 125=some #[.int .i64 0,.int .i64 0,.slice none 0 0,.slice none 0 0,.slice none 0 0,.slice none 0 0,.slice none 0 0,.map none]:=aB
theorem Jm:BZ prog 139=some #[.slice none 0 0,.slice none 0 0,.slice none 0 0,.slice none 0 0,.slice none 0 0]:=aB
theorem FF:BZ prog 140=some #[.int .i64 0,.int .i64 0,.int .i64 0,.int .i64 0]:=aB
theorem F5:BZ prog 160=some #[.int .i64 0,.int .i64 0,.int .i64 0,.int .i64 0,.int .i64 0,.int .i64 0,.int .i64 0,.int .i64 0,.int .i64 0]:=aB
theorem Jn:BZ prog 162=some #[.int .i64 0,.int .i64 0,.int .i64 0,.int .i64 0,.int .i64 0,.int .i64 0,.int .i64 0]:=aB
theorem Rs:BZ prog 168=some #[.bool false,.bool false,.bool false,.bool false]:=aB
theorem Ru:BZ prog 182=some #[.int .i64 0,.slice none 0 0,.int .i64 0]:=aB
theorem ZC:BZ prog 185=some #[.int .i64 0,.int .i64 0]:=aB
theorem ZD:BZ prog 188=some #[.int .i64 0,.int .i64 0,.int .i64 0]:=aB
theorem ZE:BZ prog 196=some #[.nilFunc]:=aB
theorem ZF:BZ prog 213=some #[.chan none]:=aB
theorem ZG:BZ prog 214=some #[.chan none]:=aB
theorem ZH:BZ prog 215=some #[.chan none]:=aB
theorem Rv:BZ prog 217=some #[.int .i64 0,.bool false]:=aB
theorem ZI:BZ prog 240=some #[.nilFunc]:=aB
theorem ZJ:BZ prog 244=some #[.int .i64 0,.int .i64 0,.int .i64 0,.int .i64 0,.int .i64 0,.int .i64 0,.int .i64 0,.int .i64 0,.int .i64 0,.int .i64 0,.int .i64 0,.int .i64 0,.int .i64 0,.int .i64 0,.int .i64 0,.int .i64 0]:=aB
theorem Gx:BZ prog 27=some #[.int .i64 0,.int .i64 0,.slice none 0 0,.slice none 0 0,.slice none 0 0,.slice none 0 0]:=aB
theorem fx_zero3:BZ prog 3=some #[.int .i64 0]:=aB
theorem fx_zero37:BZ prog 37=some #[.slice none 0 0]:=aB
theorem fx_zero4:BZ prog 4=some #[.bool false]:=aB
theorem Bg:BZ prog 46=some #[.int .i64 0,.int .i64 0]:=aB
theorem Gy:BZ prog 48=some #[.int .i64 0,.int .i64 0,.int .i64 0,.int .i64 0,.slice none 0 0]:=aB
theorem fx_zero9:BZ prog 9=some #[.string ⟨#[]⟩]:=aB
theorem GF:BZ prog 94=some #[.slice none 0 0,.int .i64 0,.int .i64 0]:=aB
theorem Tv:BZ prog 98=some #[.slice none 0 0]:=aB
end Go.Ns
namespace Go.Ns
open Go.Conc Go.Proofs Go.Proofs.Tryz
attribute [local irreducible] BR DK Tr AT Bi BS
variable {W:Wk prog} {h:Y} {aS aR:Int} {ps:List bB} {aU:aZ} {ws:List AF} {aT:aZ} {js:List AM} {aV:aZ} {ns:List AL} {aW:aZ}
theorem SL(a:List Int)(av:aZ)(b:List Int)(bv:aZ)(ha:AG h av 1 eI a)(hb:AG h bv 1 eI b):AT W 103 #[av,bv] h (λv h'=>v=(.bool (decide (a=b)):aZ)/\h.Le h'):=by
 have F:=ha.len;have H:=hb.len;refine Ct func103 Z (Sr (V (.bool false) Z (L (S2 (Mz av Z (S Z (AJ Al ha Z (Mz bv Z (S Z (AJ Al hb Z (S Z (A0 Z Z (L (AR Z (λm=>?_) (λm=>?_)))))))))))))))
 ·exact Sr (V (.bool false) Z (L (Rt (⟨Zr,Ot (.bool false) Z (⟨(by (rw [decide_eq_false (ne_len U)];done)),Lr⟩)⟩))))
 ·refine Sk (S2 (V (J 0) Z (L (Bk (Aa (λi σ' f h'=>∃(k:Nat),i=a.length-k/\(k<=a.length)/\(a.take k=b.take k)/\f=[]/\Y.Le h h'/\σ' 0=av/\σ' 1=bv/\σ' 5=J k) ⟨0,Z,U,(by rfl),Z,Lr,Z,Z,Z⟩ (λi _ _ _ n=>?_))))));obtain ⟨k,rfl,o,j,p,c,g,l,e⟩:=n;subst p;refine S2 (Mv (J k) Z e (Mv av Z g (S Z (AJ Al (ha.le c) Z (S Z (Ah Z Z (L (AR Z (λq=>?_) (λq=>?_)))))))))
  ·refine Sk (Sq (Bk (Sq (CF 8 false [1,6,10,16,21,26,30,36] Av aB (Rz Z (Mo av g vz) (Rz Z (Mo (J k) e vz) ?_))))));have r:(0:Int)<=(k:Int):=U
   have s:(k:Int)<((a.length:Nat):Int):=U
   refine tI Z Z An ha Z Z r s λt u w=>have x:AU _ t u 1 (eI (a.getD k 0)):=AU.getD 0 w;Rl (Qm a k) Z (A7 AQ (x.le c) Z) (Rz Z (Mo bv l vz) (Rz Z (Mo (J k) e vz) ?_));have y:(0:Int)<=(k:Int):=U
   have z:(k:Int)<((b.length:Nat):Int):=U
   refine tI Z Z An hb Z Z y z λA B C=>have D:AU _ A B 1 (eI (b.getD k 0)):=AU.getD 0 C;Rl (Qm b k) Z (A7 AQ (D.le c) Z) (tN (S Z (A0 Z Z (L (AR Z (λE=>?_) (λE=>?_))))))
   ·exact Sr (V (.bool false) Z (L (Rt (⟨Zr,Ot (.bool false) Z (⟨(by (rw [decide_eq_false (ne_getD (k:=k) (d:=0) ‹_›)])),c⟩)⟩))))
   ·exact Sk (Rg (Mv (J k) Z e (Yd Z U (V (J ((k:Int)+1)) Z (L (⟨_,U,k+1,Z,U,(by exact Pq 0 j U U aE),Z,c,g,l,Z⟩))))))
  ·exact Xt (Sr (V (.bool true) Z (L (Rt (⟨Zr,Ot (.bool true) Z (⟨(by (rw [decide_eq_true (UM j o ‹_› U)];done)),c⟩)⟩)))))
theorem Rw(a:List Int)(av:aZ)(n:Int)(ha:AG h av 1 eI a):AT W 138 #[av,J n] h (λv h'=>v=(.bool (decide (n ∈ a)):aZ)/\h.Le h'):=by
 have w:=ha.len;refine Ct func138 Z (Sr (V (.bool false) Z (L (S2 (V (J 0) Z (L (Bk (Aa (λf σ' c h'=>∃(k:Nat),f=a.length-k/\(k<=a.length)/\(¬n ∈ a.take k)/\c=[]/\Y.Le h h'/\σ' 0=av/\σ' 1=J n/\σ' 5=J k) ⟨0,Z,U,aD,Z,Lr,Z,Z,Z⟩ (λf _ _ _ j=>?_)))))))));obtain ⟨k,rfl,x,g,l,b,d,i,e⟩:=j;subst l;refine S2 (Mv (J k) Z e (Mv av Z d (S Z (AJ Al (ha.le b) Z (S Z (Ah Z Z (L (AR Z (λm=>?_) (λm=>?_)))))))))
 ·refine Sk (Sq (Bk (Sr (Mv av Z d (Mv (J k) Z e ?_)))));have o:(0:Int)<=(k:Int):=U
  have p:(k:Int)<((a.length:Nat):Int):=U
  refine S Z (AW An ha Z Z o p λq r s=>have t:AU _ q r 1 (eI (a.getD k 0)):=AU.getD 0 s;Lz (Qm a k) Z (A7 AQ (t.le b) Z) (Mv (J n) Z i (S Z (CK Z Z (L (AR Z (λu=>?_) (λu=>?_)))))))
  ·exact Sr (V (.bool true) Z (L (Rt (⟨Zr,Ot (.bool true) Z (⟨(by (rw [decide_eq_true (has_hit (k:=k) ‹_› ‹_›)];done)),b⟩)⟩))))
  ·exact Sk (Rg (Mv (J k) Z e (Yd Z U (V (J ((k:Int)+1)) Z (L (⟨_,U,k+1,Z,U,(by exact has_next ‹_› g ‹_›),Z,b,d,i,Z⟩))))))
 ·exact Xt (Sr (V (.bool false) Z (L (Rt (⟨Zr,Ot (.bool false) Z (⟨(by (rw [decide_eq_false (has_end (k:=k) ‹_› g)])),b⟩)⟩)))))
theorem Ez(n:Int)(lo:Int)(hi:Int):AT W 74 #[J n,J lo,J hi] h (λv h'=>v=(.bool (decide (lo<=n/\n<=hi)):aZ)/\h=h'):=by
 refine Ct func74 Z (Sr (V (.bool false) Z (L (BP (λσ' c h'=>c=[]/\h=h'/\σ' 6=.bool (Qs lo n hi)) ?_ ?_))))
 ·refine Rg (Mz (J n) Z (Mz (J lo) Z (S Z (DE Z Z (Mz (Qh lo n) Z (Aj (p:=lo<=n) ?_ ?_))))))
  ·intro a;exact Gg 3 10 (AB Z a) Z (Mo (J n) Z (Gg 3 10 (AB Z a) Z (Mo (J hi) Z (Gg 3 10 (AB Z a) Z (Dt Z Z (Pk true (Qh n hi) Z (AB Z a) Z (V (Qh n hi) Z (L (⟨Z,Z,Et (b:=(.bool (decide (n<=hi)):aZ)) Z (congrArg Value.bool (by (simp [a];done):decide (n<=hi)=(Qs lo n hi)))⟩)))))))))
  ·intro a;exact Gs 3 10 (AA Z a) Z (Gs 3 10 (AA Z a) Z (Gs 3 10 (AA Z a) Z (Pk false (.bool false) Z (AA Z a) Z (V (.bool false) Z (L (⟨Z,Z,Et (b:=(.bool false:aZ)) Z (congrArg Value.bool (by (simp [a];done):false=(Qs lo n hi)))⟩))))))
 ·rintro _ _ _ ⟨d,e,f⟩;subst d;subst e;exact Rt (⟨Zr,Jt Z (v:=.bool (Qs lo n hi)) f (⟨(by rfl),Z⟩)⟩)
theorem Ig(xl:Int)(xh:Int)(lo:Int)(hi:Int):AT W 82 #[.agg #[J xl,J xh],J lo,J hi] h (λv h'=>v=(.bool (decide ((lo<=xl/\xl<=xh)/\xh<=hi)):aZ)/\h.Le h'):=by
 refine Ct func82 Z (Sr (S Z (Bo #[J xl,J xh] Z Z λ_ f _ g d _=>V (.bool false) Z (L (BP (λσ' e h'=>e=[]/\f=h'/\σ' 6=.bool (Qt lo xl xh hi)) ?_ ?_)))))
 ·refine Rg (Fz CY Z (Lz (J xl) Z (Rd.one AQ d Z) (Mz (J lo) Z (S Z (DE Z Z (Mz (Qh lo xl) Z (Aj (p:=lo<=xl) ?_ ?_)))))))
  ·intro a;refine Gg 4 11 (AB Z a) Z (AC CA Z (Gg 4 11 (AB Z a) Z (Lo (J xh) Z (Rd.one AQ d Z) (Gg 4 11 (AB Z a) Z (AC CY Z (Gg 4 11 (AB Z a) Z (Lo (J xl) Z (Rd.one AQ d Z) (Gg 4 11 (AB Z a) Z (DE Z Z (Pk true (Qh xl xh) Z (AB Z a) Z (Mz (Qh xl xh) Z (Aj (p:=xl<=xh) ?_ ?_))))))))))))
   ·intro c;exact Gg 11 18 (AB Z c) Z (AC CA Z (Gg 11 18 (AB Z c) Z (Lo (J xh) Z (Rd.one AQ d Z) (Gg 11 18 (AB Z c) Z (Mo (J hi) Z (Gg 11 18 (AB Z c) Z (Dt Z Z (Pk true (Qh xh hi) Z (AB Z c) Z (V (Qh xh hi) Z (L (⟨Z,Z,Et (b:=(.bool (decide (xh<=hi)):aZ)) Z (congrArg Value.bool (by (simp [a,c];done):decide (xh<=hi)=(Qt lo xl xh hi)))⟩)))))))))))
   ·intro c;exact Gs 11 18 (AA Z c) Z (Gs 11 18 (AA Z c) Z (Gs 11 18 (AA Z c) Z (Gs 11 18 (AA Z c) Z (Pk false (.bool false) Z (AA Z c) Z (V (.bool false) Z (L (⟨Z,Z,Et (b:=(.bool false:aZ)) Z (congrArg Value.bool (by (simp [a,c];done):false=(Qt lo xl xh hi)))⟩)))))))
  ·intro a;exact Gs 4 11 (AA Z a) Z (Gs 4 11 (AA Z a) Z (Gs 4 11 (AA Z a) Z (Gs 4 11 (AA Z a) Z (Gs 4 11 (AA Z a) Z (Pk false (.bool false) Z (AA Z a) Z (Mz (.bool false) Z (Gs 11 18 Z Z (Gs 11 18 Z Z (Gs 11 18 Z Z (Gs 11 18 Z Z (Pz false (.bool false) Z (V (.bool false) Z (L (⟨Z,Z,Et (b:=(.bool false:aZ)) Z (congrArg Value.bool (by (simp [a];done):false=(Qt lo xl xh hi)))⟩))))))))))))))
 ·rintro _ _ _ ⟨i,j,k⟩;subst i;subst j;exact Rt (⟨Zr,Jt Z (v:=.bool (Qt lo xl xh hi)) k (⟨(by rfl),g⟩)⟩)
theorem Wf(c:Int):AT W 165 #[.int .u8 c] h (λv h'=>v=(.bool (decide (E3 c)):aZ)/\h=h'):=by
 refine Ct func165 Z (Sr (V (.bool false) Z (L (BP (λσ' d h'=>d=[]/\h=h'/\σ' 2=.bool (Qz c)) ?_ ?_))))
 ·refine Rg (Mz (.int .u8 c) Z (S Z (DE Z Z (Mz (.bool (decide (97<=c))) Z (Aj (p:=97<=c) ?_ ?_)))))
  ·intro a;exact Gg 2 5 (AB Z a) Z (Mo (.int .u8 c) Z (Gg 2 5 (AB Z a) Z (Dt Z Z (Pk true (.bool (decide (c<=122))) Z (AB Z a) Z (V (.bool (decide (c<=122))) Z (L (⟨Z,Z,Et (b:=(.bool (decide (c<=122)):aZ)) Z (congrArg Value.bool (by (simp [a];done):decide (c<=122)=(Qz c)))⟩)))))))
  ·intro a;exact Gs 2 5 (AA Z a) Z (Gs 2 5 (AA Z a) Z (Pk false (.bool false) Z (AA Z a) Z (V (.bool false) Z (L (⟨Z,Z,Et (b:=(.bool false:aZ)) Z (congrArg Value.bool (by (simp [a];done):false=(Qz c)))⟩)))))
 ·rintro _ _ _ ⟨e,f,g⟩;subst e;subst f;exact Rt (⟨Zr,Jt Z (v:=.bool (Qz c)) g (⟨(by rfl),Z⟩)⟩)
theorem ZK(c:Int):AT W 166 #[.int .u8 c] h (λv h'=>v=(.bool (decide (FL c)):aZ)/\h=h'):=by
 refine Ct func166 Z (Sr (V (.bool false) Z (L (BP (λσ' d h'=>d=[]/\h=h'/\σ' 2=.bool (Q15 c)) ?_ ?_))))
 ·refine Rg (Mz (.int .u8 c) Z (S Z (DE Z Z (Mz (.bool (decide (48<=c))) Z (Aj (p:=48<=c) ?_ ?_)))))
  ·intro a;exact Gg 2 5 (AB Z a) Z (Mo (.int .u8 c) Z (Gg 2 5 (AB Z a) Z (Dt Z Z (Pk true (.bool (decide (c<=57))) Z (AB Z a) Z (V (.bool (decide (c<=57))) Z (L (⟨Z,Z,Et (b:=(.bool (decide (c<=57)):aZ)) Z (congrArg Value.bool (by (simp [a];done):decide (c<=57)=(Q15 c)))⟩)))))))
  ·intro a;exact Gs 2 5 (AA Z a) Z (Gs 2 5 (AA Z a) Z (Pk false (.bool false) Z (AA Z a) Z (V (.bool false) Z (L (⟨Z,Z,Et (b:=(.bool false:aZ)) Z (congrArg Value.bool (by (simp [a];done):false=(Q15 c)))⟩)))))
 ·rintro _ _ _ ⟨e,f,g⟩;subst e;subst f;exact Rt (⟨Zr,Jt Z (v:=.bool (Q15 c)) g (⟨(by rfl),Z⟩)⟩)
theorem SM(xs:List Int)(xsv:aZ)(fv:aZ)(p:Int->Bool)(hxs:AG h xsv 1 eI xs)(hf:∀x ∈ xs,∀h1,h.Le h1->Bi W fv #[J x] h1 λv h2=>v=.bool (p x)/\h1.Le h2):AT W 162 #[xsv,fv] h (λv h'=>v=(J (idxOf p xs):aZ)/\h.Le h'):=by
 have A:=hxs.len;refine Ct func162 Z (Sr (V (J 0) Z (L (S2 (Mz xsv Z (S Z (AJ Al hxs Z (Mz (J 0) Z (L (Bk (Aa (λf σ' b h'=>∃(k:Nat),f=xs.length-k/\(k<=xs.length)/\((xs.take k).any p=false)/\b=[]/\Y.Le h h'/\σ' 0=xsv/\σ' 1=fv/\σ' 7=J (xs.length:Int)/\σ' 8=J k) ⟨0,Z,U,aD,Z,Lr,Z,Z,Z,Z⟩ (λf _ _ _ m=>?_))))))))))));obtain ⟨k,rfl,B,c,n,a,g,i,j,e⟩:=m;subst n;refine Sr (S Z (Ah e j (L (Sq (AR Z (λo=>?_) (λo=>?_))))))
 ·refine Sk (Sq (Bk (Sr (Mv (J k) Z e (V (J k) Z (L (Sr (Mv fv Z i (Mv xsv Z g (Mz (J k) Z ?_))))))))));have q:(0:Int)<=(k:Int):=U
  have r:(k:Int)<((xs.length:Nat):Int):=U
  refine S Z (AW An hxs Z Z q r λs t u=>have w:AU _ s t 1 (eI (xs.getD k 0)):=AU.getD 0 u;Lz (Qm xs k) Z (A7 AQ (w.le a) Z) (S Z (Lb Z (vs:=#[J (xs.getD k 0)]) (by simp only [List.map_toArray,List.map_cons,List.map_nil,AN] <;> rfl) ((hf (xs.getD k 0) (BV U) _ a).mono λ_ _ y=>?_))));obtain ⟨rfl,l⟩:=y;refine L (CJ Z (λz=>?_) (λz=>?_))
  ·exact Sr (Mz (J k) Z (V (J k) Z (L (Rt (⟨Zr,Ot (J k) Z (⟨(by (rw [Hy (k:=k) U c ‹_›];done)),(a.trans l)⟩)⟩)))))
  ·exact Sk (Rg (Ad _ _ Z e Z U (Mz (J ((k:Int)+1)) Z (L (⟨_,U,k+1,Z,U,(by exact Eh (d:=0) U c ‹_›),Z,(a.trans l),g,i,j,Z⟩)))))
 ·exact Xt (Sr (V (J (-1)) Z (L (Rt (⟨Zr,Ot (J (-1)) Z (⟨(by (rw [Gk (k:=k) U c])),a⟩)⟩)))))
theorem FY(xs:List Int)(xsv:aZ)(fv:aZ)(p:Int->Bool)(hxs:AG h xsv 1 eI xs)(hf:∀x ∈ xs,∀h1,h.Le h1->Bi W fv #[J x] h1 λv h2=>v=.bool (p x)/\h1.Le h2):AT W 125 #[xsv,fv] h (λv h'=>v=(.bool (xs.any p):aZ)/\h.Le h'):=by
 have e:=hxs.len;refine Ct func125 Z (Sr (V (.bool false) Z (L (Sr (Mz xsv Z (Mz fv Z (S Z (AP func162 Yf Z Z ((SM xs xsv fv p hxs (λx a h1 b=>hf x a h1 (Y.Le.trans Lr b))).mono λ_ _ c=>?_)))))))));obtain ⟨rfl,d⟩:=c;exact S Z (DE Z Z (V (.bool (decide (0<=(idxOf p xs)))) Z (L (Rt (⟨Zr,Ot (.bool (decide (0<=(idxOf p xs)))) Z (⟨(by rw [show decide (0<=idxOf p xs)=xs.any p from by rw [Bool.eq_iff_iff];simp [FM]]),d⟩)⟩)))))
end Go.Ns
