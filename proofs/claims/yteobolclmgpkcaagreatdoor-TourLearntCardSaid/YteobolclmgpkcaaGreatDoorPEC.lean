/- Rules and walks, part 3 of 6. No conditions. -/
import Derived.Carry
import Derived.Conc.LeavingOf
import Derived.LaidMore
import Derived.OpenShut
import Derived.ProofKit
import Derived.Test.YteobolclmgpkcaaGreatDoorPEB
import Derived.Test.YteobolclmgpkcaaGreatDoorProg
set_option linter.unusedVariables false
set_option linter.unusedSimpArgs false
set_option linter.unnecessarySimpa false
set_option linter.unusedSectionVars false
namespace Go.Ns
open Go.Conc
section
variable {P:Program} {E:GV P} {O:Nat->Value} {ds:List Deferred} {h:GH} {T:(Nat->Value)->List Deferred->GH->Prop}
variable {dst:Option Nat} {ty:TypeId} {pos:String} {af:Array Edge} {gd:Option (Nat×Bool)}
def Lq(P:Program)(e:TypeId):Option Nat:=(P.info? e).map (·.bytes)
theorem Tj(z:Value)(n:Nat):(Array.range n).map (λi=>(#[z]:Array Value)[i%(#[z]:Array Value).size]!)=Array.replicate n z:=by
 apply Array.ext
 ·simp
 ·intro i h1 h2;simp [Nat.mod_one]
theorem Ls{t:TypeId}{l c:Operand}{N by_:Nat}{z:Value}{e:TypeId}(hs:DQ P t=some (1,#[z],e))(hby:Lq P e=some by_)(hl:AO O l=.int .i64 N)(hc:AO O c=.int .i64 N)(hb:by_*N<=281474976710656)(hN2:N<=16777216)
  (k:∀r h',h r=none->h.Le h'->h' r=some (true,.cells (Array.replicate N z) e (0,0))->(∀b,b≠r->h' b=h b)->T (putS O dst (.slice (some ⟨r,0,none⟩) N N)) ds h'):BU E ⟨dst,.makeSlice t l c,ty,pos,af,gd⟩ O ds h T:=by
 unfold BU execOp;refine F5 ?_;unfold DQ at hs;unfold Instr.makeSlice;rw [hl,hc];cases hu:P.underlying t with
 | none=>rw [hu] at hs;cases hs
 | some d=>
  rw [hu] at hs;cases d <;> first | (cases hs;done) | skip
  rename_i e'
  simp only at hs;cases ht:Ch P e' with
  | none=>rw [ht] at hs;cases hs
  | some x=>
   cases hz:B1 P e' with
   | none=>rw [ht,hz] at hs;cases hs
   | some z'=>
    rw [ht,hz] at hs;simp only [Option.some.injEq,Prod.mk.injEq] at hs;obtain ⟨hx2,rfl,rfl⟩:=hs;refine AG _ _ (Am hu ?_);refine AG _ _ (At ?_);refine AG _ _ (At ?_);unfold Lq at hby;unfold B1 at hz;cases hi:P.info? e' with
    | none=>rw [hi] at hz;cases hz
    | some i=>
    rw [hi] at hz hby;simp only [Option.map_some,Option.some.injEq] at hby;simp only [Option.map_eq_some_iff] at hz;obtain ⟨v,hv,hvz⟩:=hz;refine AG _ _ (Ck hi ?_);have hw:IntKind.i64.wrap (N:Int)=N:=IntWalk.i64_in _ aA;simp only [hw,hby];have hb':((by_:Int)*(N:Int))<=281474976710656:=by rw [<-Int.natCast_mul];exact Int.ofNat_le.2 hb
    rw [if_neg (by simp;omega)];simp only [Int.toNat_natCast];have hask:∀(m:Nat)(Q:Unit->GH->Prop),Q () h->(askRoom m).gh P h Q:=λm Q q=>by
     unfold askRoom;split
     ·exact ⟨rfl,q⟩
     ·exact q
    refine AG _ _ (hask _ _ ?_);refine AG _ _ (Ga (by rw [ht];rfl) ?_);dsimp only;rw [hx2,Nat.mul_one];by_cases hN:N=0
    ·subst hN;rw [if_pos rfl];refine AG _ _ (At ?_);rw [show (Array.range 0).map (λi=>(#[]:Array Value)[i%(#[]:Array Value).size]!)=Array.replicate 0 z from aD];refine AG _ _ ?_;unfold newRow;refine AG _ _ (λr hr=>?_);exact k r _ hr (GH.Le.new hr _ _) (GH.set_same _ _ _ _) λb hb=>GH.set_ne _ _ _ hb
    rw [if_neg hN];unfold zeroValue;refine AG _ _ (AG _ _ (AG _ _ (Ck hi ?_)));rw [hv];refine At ?_;refine AG _ _ (At ?_);rw [hvz,Tj];refine AG _ _ ?_;unfold newRow;refine AG _ _ (λr hr=>?_);exact k r _ hr (GH.Le.new hr _ _) (GH.set_same _ _ _ _) λb hb=>GH.set_ne _ _ _ hb
theorem Jy{V:Type}{enc:V->Array Value}{x:V}{z:Value}(he:enc x=#[z]):∀N:Nat,DY enc (List.replicate N x)=List.replicate N z
 | 0=>rfl
 | N+1=>by
  have:=Jy he N
  unfold DY at this ⊢;rw [List.replicate_succ,List.flatMap_cons,this,he];rfl
theorem AN.made{V:Type}{h h':GH}{r N:Nat}{t:TypeId}{enc:V->Array Value}{x:V}{z:Value}(hr:h r=none)(hb:h' r=some (true,.cells (Array.replicate N z) t (0,0)))(hN:N<=16777216)(he:enc x=#[z]) :
  AN h h' (.slice (some ⟨r,0,none⟩) N N) t 1 enc (List.replicate N x):=
 .inr ⟨r,N,_,by rw [List.length_replicate],hr,hb,aD,aD,by rw [List.length_replicate];omega,by rw [Jy he,List.length_replicate,Nat.mul_one];simp,λy hy=>by rw [(List.mem_replicate.1 hy).2,he];rfl⟩
end
def FD(nj:Nat)(k:Int):Int:=if¬(0<=k/\k<=(nj:Int)-1) then 6 else 0
def HZ(nj:Nat)(l:List Int)(k:Nat):Int:=if¬FD nj (l.getD k 0)=0 then FD nj (l.getD k 0) else if (l.take k).any (λx=>decide (l.getD k 0=x))=true then 5 else 0
def Ai(nj:Nat)(l:List Int):Int:=Cw (HZ nj l) 0 l.length
def GG(bag kinds:Int)(ps:List ByteArray)(ws:List AA)(js:List AK)(ns:List AJ)(l:List Int):Int:=
 if¬A4 bag kinds ps ws js ns=0 then A4 bag kinds ps ws js ns else Ai js.length l
theorem Nn{nj:Nat}{k:Int}(h:FD nj k=0):0<=k/\k<nj:=by
 unfold FD at h;split at h
 ·cases h
 ·omega
theorem FE{nj:Nat}{l:List Int}(h:Ai nj l=0)(k:Nat)(hk:k<l.length):0<=l.getD k 0/\l.getD k 0<nj:=by
 have h1:=DG h k (Nat.zero_le _) aA;unfold HZ at h1;split at h1
 ·rename_i a;exact absurd h1 a
 ·rename_i a;exact Nn (Decidable.not_not.1 a)
def Gk(out ps:List Int):Nat->List Int
 | 0=>out
 | i+1=>(Gk out ps i).set i ((Gk out ps i).getD i 0+ps.getD i 0)
def CR(kinds:Int)(js:List AK)(l:List Int):Nat->List Int
 | 0=>List.replicate kinds.toNat 0
 | q+1=>Gk (CR kinds js l q) (js.getD (l.getD q 0).toNat AK.z).parts (js.getD (l.getD q 0).toNat AK.z).parts.length
def DH(kinds:Int)(js:List AK)(l:List Int):List Int:=CR kinds js l l.length
theorem Lt(out ps:List Int):∀i,(Gk out ps i).length=out.length
 | 0=>rfl
 | i+1=>by rw [Gk,List.length_set,Lt out ps i]
theorem PW(out ps:List Int)(hl:ps.length=out.length):∀i,i<=ps.length->∀j,(Gk out ps i).getD j 0=if j<i then out.getD j 0+ps.getD j 0 else out.getD j 0
 | 0,_,j=>by rw [if_neg aA];rfl
 | i+1,h,j=>by
  have e:=PW out ps hl i aA;have hn:=Lt out ps i;unfold Gk;rw [List.getD_eq_getElem?_getD,List.getElem?_set];by_cases hij:i=j
  ·subst hij;rw [if_pos rfl,if_pos aA,if_pos aA,Option.getD_some,e i,if_neg aA]
  ·rw [if_neg hij,<-List.getD_eq_getElem?_getD,e j];by_cases h1:j<i
   ·rw [if_pos h1,if_pos aA]
   ·rw [if_neg h1,if_neg aA]
section
variable {bag kinds:Int} {ps:List ByteArray} {ws:List AA} {js:List AK} {ns:List AJ} {l:List Int}
theorem PX(b:BO bag kinds ps ws js ns){k:Int}(h:0<=k/\k<js.length):JobOK ps.length kinds (js.getD k.toNat AK.z):=PM (b.job k.toNat aA)
theorem JE(b:BO bag kinds ps ws js ns):∀q,(CR kinds js l q).length=kinds.toNat
 | 0=>List.length_replicate
 | q+1=>by rw [CR,Lt,JE b q]
theorem LA(b:BO bag kinds ps ws js ns)(hr:∀k,k<l.length->0<=l.getD k 0/\l.getD k 0<js.length):∀q,q<=l.length->∀j,0<=(CR kinds js l q).getD j 0/\(CR kinds js l q).getD j 0<=5*(q:Int)
 | 0,_,j=>by
  unfold CR;rw [List.getD_eq_getElem?_getD,List.getElem?_replicate];split <;> simp
 | q+1,h,j=>by
  have e:=LA b hr q aA j;have x:=PX b (hr q aA);have x2:=x.part j;have x3:=x.len;unfold CR;rw [PW _ _ (by rw [JE b q];omega) _ (Nat.le_refl _)];split <;> omega
theorem addP_rng(b:BO bag kinds ps ws js ns)(hr:∀k,k<l.length->0<=l.getD k 0/\l.getD k 0<js.length){q:Nat}(hq:q<l.length){i:Nat}(hi:i<(js.getD (l.getD q 0).toNat AK.z).parts.length) :
  (Gk (CR kinds js l q) (js.getD (l.getD q 0).toNat AK.z).parts i).length=(js.getD (l.getD q 0).toNat AK.z).parts.length/\0<=(Gk (CR kinds js l q) (js.getD (l.getD q 0).toNat AK.z).parts i).getD i 0/\(Gk (CR kinds js l q) (js.getD (l.getD q 0).toNat AK.z).parts i).getD i 0<=5*(q:Int)/\
  0<=(js.getD (l.getD q 0).toNat AK.z).parts.getD i 0/\(js.getD (l.getD q 0).toNat AK.z).parts.getD i 0<=5:=by
 have x:=PX b (hr q hq);have e:=LA b hr q aA i;have x3:=x.len;have hl:=JE (l:=l) b q;refine ⟨by rw [Lt,hl];omega,?_⟩;rw [PW _ _ (by rw [hl];omega) i aA,if_neg aA];exact ⟨e.1,e.2,x.part i⟩
theorem WZ(b:BO bag kinds ps ws js ns):(DH kinds js l).length=kinds.toNat:=JE b _
theorem Wa(b:BO bag kinds ps ws js ns)(hr:∀k,k<l.length->0<=l.getD k 0/\l.getD k 0<js.length)(j:Nat):0<=(DH kinds js l).getD j 0/\(DH kinds js l).getD j 0<=5*(l.length:Int):=LA b hr _ (Nat.le_refl _) j
theorem sum_take(xs:List Int){k:Nat}(h:k<xs.length):(xs.take (k+1)).sum=(xs.take k).sum+xs.getD k 0:=by
 rw [List.take_add_one,List.sum_append,List.getD_eq_getElem?_getD,List.getElem?_eq_getElem h];simp
theorem sum_all(xs:List Int){k:Nat}(h:xs.length<=k):(xs.take k).sum=xs.sum:=by rw [List.take_of_length_le h]
theorem Ur(h:GG bag kinds ps ws js ns l=0):BO bag kinds ps ws js ns/\∀k,k<l.length->0<=l.getD k 0/\l.getD k 0<js.length:=by
 unfold GG at h;split at h
 ·rename_i a;exact absurd h a
 ·rename_i a;exact ⟨CE (Decidable.not_not.1 a),FE h⟩
def R8(bag kinds:Int)(ps:List ByteArray)(ws:List AA)(js:List AK)(ns:List AJ)(l:List Int):List Int:=if¬GG bag kinds ps ws js ns l=0 then [] else DH kinds js l
def Yb(bag kinds:Int)(ps:List ByteArray)(ws:List AA)(js:List AK)(ns:List AJ)(l:List Int):Bool:=if¬GG bag kinds ps ws js ns l=0 then false else decide ((DH kinds js l).sum<=bag)
end
end Go.Ns
namespace Go.Ns
open Go.Conc
section
variable {P:Program} {E:GV P} {O:Nat->Value} {ds:List Deferred} {h:GH} {T:(Nat->Value)->List Deferred->GH->Prop}
variable {dst:Option Nat} {ty:TypeId} {pos:String} {af:Array Edge} {gd:Option (Nat×Bool)}
theorem LB{t kt vt:TypeId}{x ix:Operand}{r np:Nat}{ws:List AA}{pq:List AF}{q:AF}{a b:Int}{z:Value}(ht:LZ P t=some (kt,vt))(hx:AO O x=.map (some r))(hk:AO O ix=Ev (q.w5,a,b))(hm:EH h r np ws pq)
  (hc:∀a:FC,ckP P 4 kt (Ev a)=true)
  (he:∀a b:FC,Om P 4 kt (Ev a) (Ev b)=some ((a.1.1==b.1.1 && (a.1.2.1==b.1.2.1 && (a.1.2.2.1==b.1.2.2.1 && (a.1.2.2.2.1==b.1.2.2.2.1 && (a.1.2.2.2.2==b.1.2.2.2.2 && true))))) && (a.2.1==b.2.1 && (a.2.2==b.2.2 && true))))
  (hz:(P.info? vt).bind (·.zero)=some z) (hq:q ∈ pq) (ha:0<=a/\a<np) (hb:0<=b/\b<np)
  (k:T (putS O dst (.int .i64 (AW np ws q a.toNat b.toNat))) ds h):BU E ⟨dst,.lookup t x ix false,ty,pos,af,gd⟩ O ds h T:=by
 obtain ⟨pm,M,hM,hF⟩:=hm;have e:=hF q hq a.toNat b.toNat aA aA;rw [Int.toNat_of_nonneg ha.1,Int.toNat_of_nonneg hb.1] at e;refine Ru (d:=3) (a:=(q.w5,a,b)) ht hx hk hM rfl (hc _) (λb=>by rw [he,FC.eq_iff]) hz ?_;rw [e];exact k
theorem R9{V:Type}{t:TypeId}{x:Operand}{olo ohi:Option Operand}{n:Nat}{enc:V->Array Value}{xs:List V}{v:Value}{hk:GH}(lo hi:Nat)(ht:En P t=some n)(hs:AH hk v n enc xs)(hx:AO O x=v)
  (hlo:match olo with | none=>lo=0 | some o=>∃kd,AO O o=.int kd lo) (hhi:match ohi with | none=>hi=xs.length | some o=>∃kd,AO O o=.int kd hi) (h1:lo<=hi) (h2:hi<=xs.length)
  (k:∀v',AH hk v' n enc ((xs.take hi).drop lo)->T (putS O dst v') ds h):BU E ⟨dst,.slice t x olo ohi none,ty,pos,af,gd⟩ O ds h T:=by
 have hs':=hs;obtain ⟨a,cap,rfl,hc,_,_⟩:=hs';exact KL lo hi ht hc hx hlo hhi h1 h2 (k _ (hs.part h1 h2))
end
def Us(F:AF->Int)(l:List AF):Nat->Int
 | 0=>F (l.getD 0 AF.zero)
 | k+1=>min (Us F l k) (F ((l.drop 1).getD k AF.zero))
def Ut(F:AF->Int)(l:List AF):Nat->Int
 | 0=>F (l.getD 0 AF.zero)
 | k+1=>max (Ut F l k) (F ((l.drop 1).getD k AF.zero))
def Bg(F:AF->Int)(l:List AF):Int:=Us F l (l.length-1)
def BC(F:AF->Int)(l:List AF):Int:=Ut F l (l.length-1)
theorem Mh{l:List AF}{k:Nat}(h:k<l.length-1):(l.drop 1).getD k AF.zero ∈ l:=List.mem_of_mem_drop (Bc (by rw [List.length_drop];exact h))
def SA(s v:Int):Int:=if s=0 then v else 0
theorem Jg(v:Int):SA 0 v=v:=if_pos rfl
theorem Np{s v:Int}(h:¬s=0):SA s v=0:=if_neg h
end Go.Ns
namespace Go.Ns
open Go.Conc
theorem Tk:∀(n m:Nat)(f:Nat->Nat),(∀i,i<m->f i<n)->(∀i j,i<j->j<m->f i≠f j)->m<=n
 | 0,m,f,h,_=>by
  rcases Nat.eq_zero_or_pos m with e | e
  ·omega
  ·exact absurd (h 0 e) (Nat.not_lt_zero _)
 | n+1,m,f,h,d=>by
  rcases Nat.eq_zero_or_pos m with e | e
  ·omega
  ·have x:=Tk n (m-1) (λi=>if f i=n then f (m-1) else f i) (λi hi=>by
    have h1:=h i aA;have h2:=h (m-1) aA;have h3:=d i (m-1) hi aA;show (if f i=n then f (m-1) else f i)<n;split <;> omega) (λi j hij hj=>by
    have h1:=d i j hij aA;have h2:=d i (m-1) aA aA;have h3:=d j (m-1) aA aA;show (if f i=n then f (m-1) else f i)≠(if f j=n then f (m-1) else f j);split <;> split <;> omega)
   omega
theorem Hm{nj:Nat}{l:List Int}(h:Ai nj l=0):l.length<=nj:=by
 refine Tk nj l.length (λk=>(l.getD k 0).toNat) (λi hi=>?_) λi j hij hj=>?_
 ·have:=FE h i hi
  show (l.getD i 0).toNat<nj;omega
 ·have hi:=FE h i aA;have hj':=FE h j hj;have h1:=DG h j (Nat.zero_le _) aA;unfold HZ at h1;split at h1
  ·rename_i a;exact absurd h1 a
  ·split at h1
   ·cases h1
   ·rename_i a b
    show (l.getD i 0).toNat≠(l.getD j 0).toNat;intro e;refine b (List.any_eq_true.2 ⟨l.getD i 0,?_,decide_eq_true aA⟩);rw [List.mem_iff_getElem];refine ⟨i,by rw [List.length_take];omega,?_⟩;rw [List.getElem_take,List.getD_eq_getElem?_getD,List.getElem?_eq_getElem aA];rfl
def GI(js:List AK)(l:List Int):Nat->Int
 | 0=>0
 | q+1=>(js.getD (l.getD q 0).toNat AK.z).place
def Bf(np:Nat)(ws:List AA)(js:List AK)(p:AF)(l:List Int):Nat->Int
 | 0=>0
 | q+1=>Bf np ws js p l q+(AW np ws p (GI js l q).toNat (js.getD (l.getD q 0).toNat AK.z).place.toNat+p.works (l.getD q 0).toNat)
def Ew(np:Nat)(ws:List AA)(js:List AK)(p:AF)(l:List Int):Nat->List Int
 | 0=>[]
 | q+1=>Ew np ws js p l q++[Bf np ws js p l (q+1)]
def Aa(np:Nat)(ws:List AA)(js:List AK)(p:AF)(l:List Int):Int:=Bf np ws js p l l.length+AW np ws p (GI js l l.length).toNat 0
theorem JF(np:Nat)(ws:List AA)(js:List AK)(p:AF)(l:List Int):∀q,(Ew np ws js p l q).length=q
 | 0=>rfl
 | q+1=>by rw [Ew,List.length_append,JF np ws js p l q];rfl
theorem PY(np:Nat)(ws:List AA)(js:List AK)(p:AF)(l:List Int):∀q i,i<q->(Ew np ws js p l q).getD i 0=Bf np ws js p l (i+1)
 | 0,i,h=>absurd h (Nat.not_lt_zero _)
 | q+1,i,h=>by
  have hl:=JF np ws js p l q;rw [Ew,List.getD_eq_getElem?_getD];by_cases e:i<q
  ·rw [List.getElem?_append_left aA,<-List.getD_eq_getElem?_getD];exact PY np ws js p l q i e
  ·have e2:i=q:=aA
   subst e2;rw [List.getElem?_append_right aA,hl,Nat.sub_self];rfl
section
variable {bag kinds:Int} {ps:List ByteArray} {ws:List AA} {js:List AK} {ns:List AJ} {l:List Int} {p:AF}
theorem SB{np:Nat}(hp:CI p):(AW np ws p).ok:=Up (PS hp)
theorem goAt_rng(b:BO bag kinds ps ws js ns)(hr:∀k,k<l.length->0<=l.getD k 0/\l.getD k 0<js.length):∀q,q<=l.length->0<=GI js l q/\GI js l q<ps.length
 | 0,_=>by have:=b.plen;show (0:Int)<=0/\(0:Int)<_;omega
 | q+1,h=>by have:=(PX b (hr q aA)).place;show 0<=(js.getD (l.getD q 0).toNat AK.z).place/\(js.getD (l.getD q 0).toNat AK.z).place<ps.length;omega
theorem SC(hp:CI p):∀q,0<=Bf ps.length ws js p l q/\Bf ps.length ws js p l q<=1048606*(q:Int)
 | 0=>⟨Int.le_refl 0,Int.le_refl 0⟩
 | q+1=>by
  have e:=SC hp q;have f:=SB (np:=ps.length) (ws:=ws) hp (GI js l q).toNat (js.getD (l.getD q 0).toNat AK.z).place.toNat;have w:=hp.works (l.getD q 0).toNat;unfold Bf;omega
end
end Go.Ns
namespace Go.Ns
open Go.Conc
theorem EH.store{h h':GH}{q r np:Nat}{ws:List AA}{pq:List AF}(x:EH h r np ws pq)(ho:∀b,b≠q->h' b=h b)(n:r≠q):EH h' r np ws pq:=by
 obtain ⟨pm,M,⟨es,clk,hb,hl⟩,hM⟩:=x;exact ⟨pm,M,⟨es,clk,(ho r n).trans hb,hl⟩,hM⟩
def eSp(x:Int×Int):Array Value:=#[.int .i64 x.1,.int .i64 x.2]
section
variable (np:Nat) (ws:List AA) (js:List AK) (pq:List AF) (l:List Int)
def Kp(i:Nat):Int:=Bg (λx=>Bf np ws js x l (i+1)) pq
def Kq(i:Nat):Int:=BC (λx=>Bf np ws js x l (i+1)) pq
def JG:Nat->List (Int×Int)
 | 0=>[]
 | q+1=>JG q++[(Kp np ws js pq l q,Kq np ws js pq l q)]
theorem PZ:∀q,(JG np ws js pq l q).length=q
 | 0=>rfl
 | q+1=>by rw [JG,List.length_append,PZ q];rfl
def Mi(i:Nat):Bool:=decide (Kq np ws js pq l i<=(js.getD (l.getD i 0).toNat AK.z).due)
def B7(bag kinds:Int):Bool:=decide ((DH kinds js l).sum<=bag) && (List.range l.length).all (Mi np ws js pq l)
variable {np ws js pq l}
theorem ZN{q:Nat}(h:¬(js.getD (l.getD q 0).toNat AK.z).due<BC (λx=>Bf np ws js x l ((q:Int).toNat+1)) pq):Mi np ws js pq l q=true:=decide_eq_true (Int.not_lt.1 h)
theorem ZO{q:Nat}(h:(js.getD (l.getD q 0).toNat AK.z).due<BC (λx=>Bf np ws js x l ((q:Int).toNat+1)) pq):Mi np ws js pq l q=false:=decide_eq_false (Int.not_le.2 h)
variable {bag kinds:Int}
theorem Wb(h:¬(DH kinds js l).sum<=bag):B7 np ws js pq l bag kinds=false:=by unfold B7;rw [decide_eq_false h];rfl
theorem ZP{k:Nat}(hk:k<l.length)(h:(js.getD (l.getD k 0).toNat AK.z).due<BC (λx=>Bf np ws js x l ((k:Int).toNat+1)) pq):B7 np ws js pq l bag kinds=false:=by
 unfold B7;rw [Bool.and_eq_false_iff];refine .inr (Bool.eq_false_iff.2 λe=>?_)
 have:=List.all_eq_true.1 e k (List.mem_range.2 hk)
 rw [ZO h] at this;cases this
theorem safe_all{k:Nat}(h:¬¬(DH kinds js l).sum<=bag)(hs:∀j,j<k->Mi np ws js pq l j=true)(hk:l.length<=k):B7 np ws js pq l bag kinds=true:=by
 unfold B7;rw [decide_eq_true (Decidable.not_not.1 h),Bool.true_and];exact List.all_eq_true.2 λj hj=>hs j (by have:=List.mem_range.1 hj;omega)
end
def CS:Nat->List Int
 | 0=>[]
 | k+1=>CS k++[(k:Int)]
theorem C9:∀n,(CS n).length=n
 | 0=>rfl
 | n+1=>by rw [CS,List.length_append,C9 n];rfl
def CH(nj:Nat)(l:List Int)(i:Int):Int:=if¬Ai nj l=0 then Ai nj l else if¬(0<=i/\i<=(l.length:Int)-1) then 1 else 0
theorem Uu{nj:Nat}{l:List Int}{i:Int}(h:CH nj l i=0):Ai nj l=0/\0<=i/\i<l.length:=by
 unfold CH at h;split at h
 ·rename_i a;exact absurd h a
 ·rename_i a
  split at h
  ·cases h
  ·exact ⟨Decidable.not_not.1 a,aA⟩
section
variable (bag kinds:Int) (ps:List ByteArray) (ws:List AA) (js:List AK) (ns:List AJ) (l:List Int)
def SD:List (Int×Int):=if¬AV bag kinds ps ws js ns (Ai js.length l)=0 then [] else JG ps.length ws js (AB ws js ns) l l.length
def safeR:Bool:=if¬AV bag kinds ps ws js ns (Ai js.length l)=0 then false else B7 ps.length ws js (AB ws js ns) l bag kinds
def Cs(i:Int):Int:=
 if¬AV bag kinds ps ws js ns (CH js.length l i)=0 then 0 else if (js.getD (l.getD i.toNat 0).toNat AK.z).due<Kp ps.length ws js (AB ws js ns) l i.toNat then 1
 else if Kq ps.length ws js (AB ws js ns) l i.toNat<=(js.getD (l.getD i.toNat 0).toNat AK.z).due then 2 else 0
variable {bag kinds ps ws js ns l} {i:Int}
theorem late_yes(h0:AV bag kinds ps ws js ns (CH js.length l i)=0)(h:(js.getD (l.getD i.toNat 0).toNat AK.z).due<Bg (λx=>Bf ps.length ws js x l (i.toNat+1)) (AB ws js ns)):(1:Int)=Cs bag kinds ps ws js ns l i:=by
 unfold Cs;rw [if_neg (λx=>x h0)];exact (if_pos h).symm
theorem late_no(h0:AV bag kinds ps ws js ns (CH js.length l i)=0)(h:¬(js.getD (l.getD i.toNat 0).toNat AK.z).due<Bg (λx=>Bf ps.length ws js x l (i.toNat+1)) (AB ws js ns))
  (h2:BC (λx=>Bf ps.length ws js x l (i.toNat+1)) (AB ws js ns)<=(js.getD (l.getD i.toNat 0).toNat AK.z).due):(2:Int)=Cs bag kinds ps ws js ns l i:=by
 unfold Cs;rw [if_neg (λx=>x h0)];exact ((if_neg h).trans (if_pos h2)).symm
theorem ZQ(h0:AV bag kinds ps ws js ns (CH js.length l i)=0)(h:¬(js.getD (l.getD i.toNat 0).toNat AK.z).due<Bg (λx=>Bf ps.length ws js x l (i.toNat+1)) (AB ws js ns))
  (h2:¬BC (λx=>Bf ps.length ws js x l (i.toNat+1)) (AB ws js ns)<=(js.getD (l.getD i.toNat 0).toNat AK.z).due):(0:Int)=Cs bag kinds ps ws js ns l i:=by
 unfold Cs;rw [if_neg (λx=>x h0)];exact ((if_neg h).trans (if_neg h2)).symm
theorem late_bad(h0:¬AV bag kinds ps ws js ns (CH js.length l i)=0):(0:Int)=Cs bag kinds ps ws js ns l i:=by unfold Cs;rw [if_pos h0]
end
end Go.Ns
namespace Go.Ns
open Go.Conc
def Gx(i:Nat)(pq:List AF):Nat->List Int
 | 0=>[]
 | k+1=>Gx i pq k++[(pq.getD k AF.zero).works i]
theorem HA(i:Nat)(pq:List AF):∀k,(Gx i pq k).length=k
 | 0=>rfl
 | k+1=>by rw [Gx,List.length_append,HA i pq k];rfl
theorem Pa{i:Nat}{pq:List AF}{k:Nat}(h:0<k):Gx i pq k≠[]:=λe=>by
 have:=HA i pq k
 rw [e] at this;simp at this;omega
def Mj(bag kinds:Int)(ps:List ByteArray)(ws:List AA)(js:List AK)(ns:List AJ)(i:Int):List Int:=
 if¬AV bag kinds ps ws js ns (FD js.length i)=0 then [] else Dg (FR (Gx i.toNat (AB ws js ns) (AB ws js ns).length))
end Go.Ns
namespace Go.Ns
open Go.Conc
theorem Uv{h:GH}{r:Nat}{M:Int->Option Int}(x:Cp h r Dl Dl M):∃y,h r=some y:=by
 obtain ⟨es,clk,hb,_⟩:=x;exact ⟨_,hb⟩
def Dy(ns:List AJ)(mask:Int)(k:Nat):List AJ:=((List.range k).filter (Na mask)).map λ(i:Nat)=>ns.getD i AJ.z
section
variable {ns:List AJ} {mask:Int} {k:Nat} {h:GH}
theorem pickN_t(hb:mask.fdiv (2 ^ k)%2=1):Dy ns mask (k+1)=Dy ns mask k++[ns.getD k AJ.z]:=by
 unfold Dy;rw [Jo (by unfold Na;rw [decide_eq_true hb]),List.map_append];rfl
theorem pickN_f(hb:¬mask.fdiv (2 ^ k)%2=1):Dy ns mask (k+1)=Dy ns mask k:=by
 unfold Dy;rw [Jp (by unfold Na;rw [decide_eq_false hb])]
theorem SE(ns:List AJ)(mask:Int)(k:Nat):(Dy ns mask k).length<=k:=by
 unfold Dy;rw [List.length_map]
 have:=List.length_filter_le (Na mask) (List.range k)
 rwa [List.length_range] at this
theorem Uw(ns:List AJ)(mask:Int)(k q:Nat)(hq:q<(Dy ns mask k).length):∃i,i<k/\(Dy ns mask k).getD q AJ.z=ns.getD i AJ.z:=by
 have hm:(Dy ns mask k).getD q AJ.z ∈ Dy ns mask k:=Bc hq;unfold Dy at hm ⊢;obtain ⟨i,hi,e⟩:=List.mem_map.1 hm;exact ⟨i,List.mem_range.1 (List.mem_filter.1 hi).1,e.symm⟩
theorem Ag.pick(x:Ag h ns)(mask:Int)(k:Nat):Ag h (Dy ns mask k):=λq=>by
 by_cases hq:q<(Dy ns mask k).length
 ·obtain ⟨i,_,e⟩:=Uw ns mask k q hq;rw [e];exact x i
 ·rw [List.getD_eq_getElem?_getD,List.getElem?_eq_none aA];exact Ag.nil h 0
theorem Ag.fine1(x:Ag h ns)(k:Nat):(CG (ns.getD k AJ.z)).toList.all (·.oneCell')=true:=by
 show (((ns.getD k AJ.z).wv.oneCell') && (true && (true && true)))=true;rw [(AH.one (x k)).2];rfl
theorem Ag.fine(x:Ag h ns):∀y ∈ ns,(CG y).toList.all (·.oneCell')=true:=λy hy=>by
 obtain ⟨i,hi,e⟩:=List.mem_iff_getElem.1 hy
 have:=x.fine1 i
 rw [List.getD_eq_getElem?_getD,List.getElem?_eq_getElem hi] at this;rw [<-e];exact this
theorem Tl{nw:Nat}{ns ns':List AJ}{k i:Nat}(e:ns'.getD k AJ.z=ns.getD i AJ.z):Dp nw ns' k=Dp nw ns i:=by unfold Dp;rw [e]
theorem BO.pick{bag kinds:Int}{ps:List ByteArray}{ws:List AA}{js:List AK}(b:BO bag kinds ps ws js ns)(mask:Int):BO bag kinds ps ws js (Dy ns mask ns.length):=
 { b with
  nlen:=Nat.le_trans (SE ns mask ns.length) b.nlen
  note:=λk hk=>by
   obtain ⟨i,hi,e⟩:=Uw ns mask ns.length k hk;rw [Tl e];exact b.note i hi }
end
section
variable (ws:List AA) (js:List AK) (ns:List AJ)
def Fl(x:Bool×List Int)(l:List Int):Bool:=x.1 && (decide ((x.2.length:Int)<l.length) || (decide ((l.length:Int)=x.2.length) && decide (0<Ue l x.2)))
def CC:Nat->Bool×List Int
 | 0=>(false,[])
 | q+1=>if Fl (CC q) (Dm (q:Int) ns.length)=true then CC q else if (AB ws js (Dy ns (q:Int) ns.length)).length=0 then (true,Dm (q:Int) ns.length) else CC q
variable {ws js ns} {q:Nat}
theorem IJ(h:Fl (CC ws js ns q) (Dm (q:Int) ns.length)=true):CC ws js ns (q+1)=CC ws js ns q:=if_pos h
theorem Nq(h:Fl (CC ws js ns q) (Dm (q:Int) ns.length)=false)(h2:((AB ws js (Dy ns (q:Int) ns.length)).length:Int)=0):CC ws js ns (q+1)=(true,Dm (q:Int) ns.length):=by
 rw [CC,if_neg (by rw [h];simp),if_pos aA]
theorem Nr(h:Fl (CC ws js ns q) (Dm (q:Int) ns.length)=false)(h2:¬((AB ws js (Dy ns (q:Int) ns.length)).length:Int)=0):CC ws js ns (q+1)=CC ws js ns q:=by
 rw [CC,if_neg (by rw [h];simp),if_neg aA]
theorem ZR{x:Bool×List Int}{l:List Int}(h:x.1=false):Fl x l=false:=by unfold Fl;rw [h];rfl
theorem ZS{x:Bool×List Int}{l:List Int}(h:¬(x.2.length:Int)<l.length)(h2:¬(l.length:Int)=x.2.length):Fl x l=false:=by
 unfold Fl;rw [decide_eq_false h,decide_eq_false h2];simp
theorem ZT{x:Bool×List Int}{l:List Int}(h:¬(x.2.length:Int)<l.length)(h2:¬0<Ue l x.2):Fl x l=false:=by
 unfold Fl;rw [decide_eq_false h,decide_eq_false h2];simp
theorem SF{x:Bool×List Int}{l:List Int}(h:x.1=true)(h1:(x.2.length:Int)<l.length):Fl x l=true:=by
 unfold Fl;rw [h,decide_eq_true h1];simp
theorem SG{x:Bool×List Int}{l:List Int}(h:x.1=true)(h1:(l.length:Int)=x.2.length)(h2:0<Ue l x.2):Fl x l=true:=by
 unfold Fl;rw [h,decide_eq_true h1,decide_eq_true h2];simp
theorem pow_16:∀{n:Nat},n<=4->(1:Int)<=(2:Int) ^ n/\(2:Int) ^ n<=16
 | 0,_=>aC
 | 1,_=>aC
 | 2,_=>aC
 | 3,_=>aC
 | 4,_=>aC
theorem Pb:∀q,(CC ws js ns q).2.length<=ns.length
 | 0=>Nat.zero_le _
 | q+1=>by
  have e:=Pb q;unfold CC;split
  ·exact e
  ·split
   ·exact R2 _ _
   ·exact e
def Gy(bag kinds:Int)(ps:List ByteArray)(ws:List AA)(js:List AK)(ns:List AJ):List Int:=
 if¬A4 bag kinds ps ws js ns=0 then [] else if (0:Int)<(AB ws js ns).length then [] else (CC ws js ns (2 ^ ns.length)).2
end
section
variable {bag kinds:Int} {ps:List ByteArray} {ws:List AA} {js:List AK} {ns:List AJ} {q:Nat}
theorem Ux(h:¬A4 bag kinds ps ws js ns=0):Gy bag kinds ps ws js ns=[]:=if_pos h
theorem Tm(h:(0:Int)<(AB ws js ns).length):Gy bag kinds ps ws js ns=[]:=by
 unfold Gy;rw [if_pos h];exact ite_self _
theorem Uy(h:A4 bag kinds ps ws js ns=0)(h1:¬(0:Int)<(AB ws js ns).length)(hq:¬(q:Int)<(2:Int) ^ ((ns.length:Int)).toNat)(hq2:(q:Int)<=(2:Int) ^ ((ns.length:Int)).toNat):Gy bag kinds ps ws js ns=(CC ws js ns q).2:=by
 have e:((2 ^ ns.length:Nat):Int)=(2:Int) ^ ((ns.length:Int)).toNat:=by rw [Int.toNat_natCast,Int.natCast_pow];rfl
 rw [<-e] at hq hq2
 have:2 ^ ns.length=q:=aA
 unfold Gy;rw [if_neg (λx=>x h),if_neg h1,this]
end
section
variable (ws:List AA) (js:List AK) (ns:List AJ)
abbrev Ke(pq:List AF)(i:Nat):Nat->Int:=λk=>(pq.getD k AF.zero).ways i
def Uz(pq:List AF)(i:Nat):Int:=Ko (Ke pq i) pq.length
def Ha(pq:List AF)(k:Nat):Int×Int:=askTo (Uz pq) (pq.length:Int) k
theorem SH{pq:List AF}{k:Nat}(h:Uz pq k<(Ha pq k).2):Ha pq (k+1)=((k:Int),Uz pq k):=if_pos h
theorem SI{pq:List AF}{k:Nat}(h:¬Uz pq k<(Ha pq k).2):Ha pq (k+1)=Ha pq k:=if_neg h
def Tn(bag kinds:Int)(ps:List ByteArray)(ws:List AA)(js:List AK)(ns:List AJ):Int:=if¬AV bag kinds ps ws js ns 0=0 then 0 else (Ha (AB ws js ns) ws.length).1
def OR(bag kinds:Int)(ps:List ByteArray)(ws:List AA)(js:List AK)(ns:List AJ):Int:=if¬AV bag kinds ps ws js ns 0=0 then 0 else (Ha (AB ws js ns) ws.length).2
end
end Go.Ns
namespace Go.Ns
open Go.Conc
def Kf(hs:GH)(k0 ln:Nat)(c:Array Value)(t:TypeId)(k:Nat)(v:Value)(h:GH):Prop:=k=k0->∃r,v=.slice (some ⟨r,0,none⟩) ln ln/\hs r=none/\h r=some (true,.cells c t (0,0))
theorem Kf.mono(hs:GH)(k0 ln:Nat)(c:Array Value)(t:TypeId):∀k v h1 h2,GH.Le h1 h2->Kf hs k0 ln c t k v h1->Kf hs k0 ln c t k v h2:=λ_ _ _ _ l x e=>by
 obtain ⟨r,q1,q2,q3⟩:=x e;exact ⟨r,q1,q2,l.keep q3 rfl⟩
theorem Im{P:Program}{E:GV P}{O:Nat->Value}{ds:List Deferred}{hs hx:GH}{dst:Option Nat}{ty:TypeId}{pos:String}{af:Array Edge}{gd:Option (Nat×Bool)}{t:TypeId}{len n k0 k:Nat}{z cells:Array Value}{e:TypeId}{parts:Array (Nat×Operand)}
  (h0:DQ P t=some (n,z,e)) (hl:len*n<=2 ^ 24) (hn:(len*n=0)=False) (hf:Instr.fill (λi=>some (i*n,n)) ((Array.range (len*n)).map (z[·%z.size]!)) (parts.map λ(i,x)=>(i,AO O x)).toList=some cells) (l:hs.Le hx) :
  BU E ⟨dst,.buildSlice t len parts,ty,pos,af,gd⟩ O ds hx λσ' ds' h'=>ds'=ds/\∃v,σ'=putS O dst v/\hx.Le h'/\Kf hs k0 len cells e k v h':=
 AX h0 hl hn hf λr h' hr le bx _=>⟨rfl,_,rfl,le,λ_=>⟨r,rfl,GH.Le.nothing l hr,bx⟩⟩
def LfW(hs:GH)(k0 ln:Nat)(c:Array Value)(t:TypeId)(n:Nat)(Fr:GH->Prop)(k:Nat)(v:Value)(h:GH):Prop:=Kf hs k0 ln c t k v h/\(k=n->Fr h)
theorem LfW.mono(hs:GH)(k0 ln:Nat)(c:Array Value)(t:TypeId)(n:Nat){Fr:GH->Prop}(m:∀h1 h2,GH.Le h1 h2->Fr h1->Fr h2):∀k v h1 h2,GH.Le h1 h2->LfW hs k0 ln c t n Fr k v h1->LfW hs k0 ln c t n Fr k v h2:=λ_ _ _ _ l x=>⟨Kf.mono _ _ _ _ _ _ _ _ _ l x.1,λe=>m _ _ l (x.2 e)⟩
theorem Wc{P:Program}{E:GV P}{O:Nat->Value}{ds:List Deferred}{hs hx:GH}{dst:Option Nat}{ty:TypeId}{pos:String}{af:Array Edge}{gd:Option (Nat×Bool)}{t:TypeId}{len n k0 N:Nat}{z cells:Array Value}{e:TypeId}{parts:Array (Nat×Operand)}{Fr:GH->Prop}(hk:k0≠N)
  (h0:DQ P t=some (n,z,e)) (hl:len*n<=2 ^ 24) (hn:(len*n=0)=False) (hf:Instr.fill (λi=>some (i*n,n)) ((Array.range (len*n)).map (z[·%z.size]!)) (parts.map λ(i,x)=>(i,AO O x)).toList=some cells) (l:hs.Le hx) :
  BU E ⟨dst,.buildSlice t len parts,ty,pos,af,gd⟩ O ds hx λσ' ds' h'=>ds'=ds/\∃v,σ'=putS O dst v/\hx.Le h'/\LfW hs k0 len cells e N Fr k0 v h':=
 AX h0 hl hn hf λr h' hr le bx _=>⟨rfl,_,rfl,le,λ_=>⟨r,rfl,GH.Le.nothing l hr,bx⟩,λe=>absurd e hk⟩
theorem tFg{P:Program}{E:GV P}{l:List Oper}{n:Nat}{fl:Bool}{hs:GH}{ds:List Deferred}{Lw:Nat->Value->GH->Prop}{F:(Nat->Value)->GH->Prop}{π:List Nat}{O:Nat->Value}{h:GH}{m k g d:Nat}{dst:Option Nat}{op:Op}{ty:TypeId}{pos:String}{af:Array Edge}{v:Value}{w:Bool}{og:Oper}
  (hk:KZ m=(.p,k)) (ho:l[k]? =some ⟨dst,op,ty,pos,af,some (g,w)⟩) (h1:l[g]? =some og) (h2:og.dst=some d) (h3:O d=.bool w) (x:∀hx,Lw n undef hx->TO E ⟨dst,op,ty,pos,af,some (g,w)⟩ O ds hx v)
  (y:TD E l n fl hs ds Lw F (dK π) (putS O dst v) h):TD E l n fl hs ds Lw F (dK (m ::π)) O h:=by
 unfold dK;rw [hk];exact ⟨_,true,ho,HX h1 h2 h3,λe=>(by cases e),λ_=>⟨v,x,y⟩⟩
theorem tWLg{P:Program}{E:GV P}{l:List Oper}{n:Nat}{hs:GH}{ds:List Deferred}{Lw:Nat->Value->GH->Prop}{F:(Nat->Value)->GH->Prop}{π:List Nat}{O:Nat->Value}{h:GH}{m k g d:Nat}{dst:Option Nat}{op:Op}{ty:TypeId}{pos:String}{af:Array Edge}{w:Bool}{og:Oper}(hk:KZ m=(.w,k))(ho:l[k]? =some ⟨dst,op,ty,pos,af,some (g,w)⟩)(h1:l[g]? =some og)(h2:og.dst=some d)(h3:O d=.bool w)
  (x:BU E ⟨dst,op,ty,pos,af,some (g,w)⟩ O ds h λσ' ds' h'=>ds'=ds/\∃v,σ'=putS O dst v/\Lw n undef h'/\TD E l n false hs ds Lw F (dK π) (putS O dst v) h'):TD E l n false hs ds Lw F (dK (m ::π)) O h:=by
 unfold dK;rw [hk];exact ⟨_,true,ho,HX h1 h2 h3,λe=>(by cases e),λ_ hx hg=>by rw [hg.2 rfl];exact x⟩
def Ty(h:GH)(t:TypeId)(v:Value):Prop:=∀b,CU v=some b->∃p c f,h b=some (p,.cells c t f)
def CF(h:GH)(t:TypeId)(v:Value)(xs:List Int):Prop:=AH h v 1 eI xs/\Ty h t v
theorem CF.le{h h':GH}{t:TypeId}{v:Value}{xs:List Int}(x:CF h t v xs)(l:h.Le h'):CF h' t v xs:=⟨x.1.le l,λb hb=>by
 obtain ⟨p,c,f,q⟩:=x.2 b hb;exact ⟨p,c,f,l.keep q rfl⟩⟩
theorem CF.nil(h:GH)(t:TypeId):CF h t (.slice none 0 0) []:=⟨AH.nil _ _ _,λb hb=>by cases hb⟩
theorem CF.own{h0 h:GH}{t:TypeId}{v:Value}{xs:List Int}(o:AN h0 h v t 1 eI xs):CF h t v xs:=⟨o.sl,λb hb=>by
 rcases o with ⟨rfl,_⟩ | ⟨b1,cap,c,rfl,_,h2,_⟩
 ·cases hb
 ·simp only [CU,Option.some.injEq] at hb;subst hb;exact ⟨_,_,_,h2⟩⟩
theorem CF.same{h h':GH}{t:TypeId}{w:Value}{xs:List Int}(x:CF h t w xs)(key:∀b,CU w=some b->h' b=h b):CF h' t w xs:=by
 refine ⟨?_,λb hb=>by rw [key b hb];exact x.2 b hb⟩;obtain ⟨a,cap,hv,hc,hm,he⟩:=x.1;refine ⟨a,cap,hv,hc,hm,λi hi=>?_⟩;obtain ⟨b,off,h1,h2⟩:=he i hi;exact ⟨b,off,h1,h2.same (key b (by rw [hv,h1];rfl))⟩
theorem CF.grown{V:Type}{h h' h0:GH}{v v':Value}{t t':TypeId}{n:Nat}{enc:V->Array Value}{ys:List V}(g:GW h h' v v')(o:AN h0 h v t' n enc ys)(ne:t'≠t){w:Value}{xs:List Int}(x:CF h t w xs):CF h' t w xs:=
 x.same λb hb=>by
  obtain ⟨p,c,f,q⟩:=x.2 b hb;rw [q];refine g.1 b _ q λe=>?_;rcases o with ⟨rfl,_⟩ | ⟨b1,cap,c1,rfl,_,h2,_⟩
  ·cases e
  ·simp only [CU,Option.some.injEq] at e;subst e;rw [q] at h2;cases h2;exact ne rfl
theorem CF.keepX{X:Nat->Prop}{h h':GH}{t:TypeId}{w:Value}{xs:List Int}(x:CF h t w xs)(k:By X h h')(n:∀b,CU w=some b->¬X b):CF h' t w xs:=
 x.same λb hb=>by
  obtain ⟨p,c,f,q⟩:=x.2 b hb;rw [q];exact k.box q (n b hb) rfl
theorem CF.store{h h':GH}{t t':TypeId}{w:Value}{xs:List Int}{r:Nat}{p:Bool}{c:Array Value}{f:Nat×Nat}(x:CF h t w xs)(hr:h r=some (p,.cells c t' f))(ne:t'≠t)(ho:∀b,b≠r->h' b=h b):CF h' t w xs:=
 x.same λb hb=>ho b λe=>by
  obtain ⟨p2,c2,f2,q⟩:=x.2 b hb;rw [e,hr] at q;cases q;exact ne rfl
def B2(h:GH)(t:TypeId)(l:List Sl):Prop:=∀k,CF h t (l.getD k Sl.z).1 (l.getD k Sl.z).2
theorem B2.le{h h':GH}{t:TypeId}{l:List Sl}(x:B2 h t l)(e:h.Le h'):B2 h' t l:=λk=>(x k).le e
theorem B2.nil(h:GH)(t:TypeId):B2 h t []:=λk=>by
 rw [Bt aD];exact CF.nil _ _
theorem Lu{V:Type}(z:V)(a b:List V)(k:Nat):(a++b).getD k z=if k<a.length then a.getD k z else b.getD (k-a.length) z:=by
 simp only [List.getD_eq_getElem?_getD,List.getElem?_append];split <;> rfl
theorem B2.app{h:GH}{t:TypeId}{l l':List Sl}(a:B2 h t l)(b:B2 h t l'):B2 h t (l++l'):=λk=>by
 rw [Lu];split
 ·exact a k
 ·exact b _
theorem B2.one{h:GH}{t:TypeId}{x:Sl}(a:CF h t x.1 x.2):B2 h t [x]:=λk=>by
 cases k with
 | zero=>exact a
 | succ k=>rw [Bt aD];exact CF.nil _ _
theorem B2.fine{h:GH}{t:TypeId}{l:List Sl}(a:B2 h t l):∀y ∈ l,(Je y).toList.all (·.oneCell')=true:=λy hy=>by
 obtain ⟨i,hi,e⟩:=List.mem_iff_getElem.1 hy;have z:=a i;rw [List.getD_eq_getElem?_getD,List.getElem?_eq_getElem hi] at z;have z2:CF h t l[i].1 l[i].2:=z;rw [<-e];show ((l[i].1.oneCell') && true)=true;rw [(AH.one z2.1).2];rfl
theorem Ml(a b:List Sl):Ay (a++b)=Ay a++Ay b:=by simp [Ay]
section
variable {V:Type} {hB:GH} {I:List V->(Nat->Prop)->GH->Prop} {S:GH->Prop} {X0 X X1:Nat->Prop} {h hc h':GH} {pre l:List V} {v v':Value}
def JH(hB:GH)(X0 X:Nat->Prop)(h:GH)(v:Value):Prop:=∀b,CU v=some b->¬X b/\(X0 b\/h b=none)/\hB b=none
theorem EV.old(y:EV hB I X0 h pre X hc){b:Nat}(e:hc b=none):X0 b\/h b=none:=by
 by_cases q:X0 b
 ·exact .inl q
 ·refine .inr ?_;cases hb:h b with
  | none=>rfl
  | some x=>
   obtain ⟨o',h1,_⟩:=y.keep b x.1 x.2 hb q;rw [e] at h1;cases h1
theorem EV.fresh(P:GS hB I)(y:EV hB I X0 h pre X hc)(o:∀b,CU v=some b->hc b=none):JH hB X0 X h v:=λb hb=>⟨P.off y.inv (o b hb),y.old (o b hb),y.base.nothing (o b hb)⟩
theorem JH.grown(f:JH hB X0 X h v)(P:GS hB I)(y:EV hB I X0 h pre X hc)(g:GW hc h' v v'):JH hB X0 X h v':=λb hb=>by
 rcases g.2 with e | ⟨⟨r,e1,e2⟩,_⟩
 ·exact f b (e▸hb)
 ·rw [e1] at hb;cases hb;exact ⟨P.off y.inv e2,y.old e2,y.base.nothing e2⟩
theorem EV.app(P:GS hB I)(y:EV hB I X0 h pre X hc)(g:GW hc h' v v')(f:JH hB X0 X h v):EV hB I X0 h pre X h':=by
 have lB:hB.Le h':=λb p o hb=>by
  obtain ⟨o1,h1,h2⟩:=y.base b p o hb;exact ⟨o1,g.1 b _ h1 λe=>(by rw [(f b e).2.2] at hb;cases hb),h2⟩
 refine ⟨P.stable _ _ hc h' y.inv (λb hb=>?_) lB,y.sub,λb p o hb hn=>?_,lB⟩
 ·obtain ⟨p,o,h1,_⟩:=P.dom _ _ _ b y.inv hb;rw [h1];exact g.1 b _ h1 λe=>(f b e).1 hb
 ·obtain ⟨o1,h1,h2⟩:=y.keep b p o hb hn;exact ⟨o1,g.1 b _ h1 λe=>(f b e).2.1.elim hn λq=>(by rw [q] at hb;cases hb),h2⟩
theorem EV.callL(y:EV hB I X0 h pre X hc)(f:JH hB X0 X h v){u:Value}(r:Ef hB I S pre (λb=>X b\/CU v=some b) hc l u h') :
  ∃ok X',u=.bool ok/\(∀b,X' b->(X b\/CU v=some b)\/hc b=none)/\By (λb=>X b\/CU v=some b) hc h'/\(ok=true->EV hB I X0 h (pre++l) X' h')/\(ok=false->∀l',Ef hB I S pre X0 h l' (.bool false) h'):=by
 obtain ⟨ok,X',hv,hs,hk,hl,h1,h2⟩:=r;have s:∀b,(X b\/CU v=some b)->X0 b\/h b=none:=λb q=>q.elim (y.sub b) λe=>(f b e).2.1;have kk:By X0 h h':=y.keep.trans s hk;have ss:=subX s y.keep hs;exact ⟨ok,X',hv,hs,hk,λe=>⟨h1 e,ss,kk,hl⟩,λe l'=>⟨false,X',rfl,ss,kk,hl,(λx=>by cases x),λ_=>h2 e⟩⟩
end
structure Pc{P:Program}(W:Wk P)(hB:GH)(yv:Value)(t:TypeId)(I:List (List Int)->(Nat->Prop)->GH->Prop)(S:GH->Prop)(all:List (List Int)):Prop where
 prom:GS hB I
 one:yv.cells=#[yv]
 call:∀pre p post X h v,all=pre++p ::post->I pre X h->hB.Le h->CF h t v p->(∀b,CU v=some b->¬X b/\hB b=none)->Bu W yv #[v] h (Ef hB I S pre (λb=>X b\/CU v=some b) h [p])
section
variable {P:Program} {E:GV P} {O:Nat->Value} {ds:List Deferred}
theorem SJ{t0:TypeId}{all:List (List Int)}{hB hc:GH}{J:List (List Int)->(Nat->Prop)->GH->Prop}{Stop:Code->GH->Prop}{Y0:Nat->Prop}{par:Tmp}{f:Operand}{assign body:Code}{Q:Post}
  (hrd:E.rd=none) (hpar:Nat.blt par E.N=true) (hJ:GS hB J) (hB0:hB.Le hc) (j0:J [] Y0 hc)
  (hS:∀c (h h':GH) l lo,Stop c h->h l=some (true,.loop lo)->(∀b,b≠l->h' b=h b)->Stop c h')
  (src:∀(yv:Value)(I:List (List Int)->(Nat->Prop)->GH->Prop)(Sp:GH->Prop)(X:Nat->Prop)(h:GH),Pc E.wk hB yv t0 I Sp all->hB.Le h->I [] X h->Bu E.wk (AO O f) #[yv] h λ_ h'=>YEnd hB I Sp all X h h')
  (round:∀(l d:Nat)(lo:Loop)(pre:List (List Int))(p:List Int)(post:List (List Int))(Y:Nat->Prop)(h:GH)(v:Value),all=pre++p ::post->J pre Y h->hB.Le h->hB l=none->¬Y l->h l=some (true,.loop lo)->CF h t0 v p->(∀b,CU v=some b->¬Y b/\hB b=none)->
   Tr ⟨E.wk,E.fn,some l,E.N⟩ assign (upd O par v) [] h λe σ' ds' h1=>e=.normal/\h1 l=some (true,.loop lo)/\∀h2,h2 l=some (true,.loop { lo with state:=.busy })->(∀b,b≠l->h2 b=h1 b)->
    Tr ⟨E.wk,E.fn,some l,E.N⟩ body σ' ds' h2 (Ud hB J Stop (pre++[p]) (λb=>Y b\/CU v=some b) h l lo))
  (fin:∀(d l:Nat)(h':GH),hB.Le h'->hB d=none->hB l=none->hc d=none->h' d=some (true,.deferred (some []))->
   (∀Y,J all Y h'->(∀b,Y b->b≠d)->Q .normal O ({ target:=.collected d,args:=#[] } ::ds) h')/\
   (∀c,Stop c h'->match c with
    | .exit id=>Q (.exit id) O ({ target:=.collected d,args:=#[] } ::ds) h'
    | .ret=>Q .ret O ({ target:=.collected d,args:=#[] } ::ds) h'
    | _=>False)):Tr E (.rangeFunc f #[par] assign body) O ds hc Q:=by
 refine Lb hrd λt d l hs hd hl hne=>?_;have hl':hB l=none:=hB0.nothing hl;have hd':hB d=none:=hB0.nothing hd;let lo:Loop:={ state:=.ready,pending:=none,fn:=E.fn,tmps:=t,params:=#[par],assign,body,defers:=d };have nYl:¬Y0 l:=hJ.off j0 hl;have nYd:¬Y0 d:=hJ.off j0 hd;have hL1:((hc.set d true (.deferred (some []))).set l true (.loop lo)) l=some (true,.loop lo):=GH.set_same _ _ _ _;have hL2:((hc.set d true (.deferred (some []))).set l true (.loop lo)) d=some (true,.deferred (some [])):=by rw [GH.set_ne _ _ _ (Ne.symm hne)];exact GH.set_same _ _ _ _
 have hL3:∀b,b≠l->b≠d->((hc.set d true (.deferred (some []))).set l true (.loop lo)) b=hc b:=λb h1 h2=>by rw [GH.set_ne _ _ _ h1,GH.set_ne _ _ _ h2]
 have hLB:hB.Le ((hc.set d true (.deferred (some []))).set l true (.loop lo)):=(hB0.trans (GH.Le.new hd _ _)).trans (GH.Le.new (by rw [GH.set_ne _ _ _ hne];exact hl) _ _);have hI0:NZ J l d lo [] (λb=>Y0 b\/b=l\/b=d) ((hc.set d true (.deferred (some []))).set l true (.loop lo)):=by
  refine ⟨Y0,hJ.stable _ _ hc _ j0 (λb hb=>hL3 b (λe=>nYl (e▸hb)) (λe=>nYd (e▸hb))) hLB,λb=>Iff.rfl,nYl,nYd,hL1,hL2⟩
 have prom:GS hB (NZ J l d lo):=by
  refine ⟨?_,?_⟩
  ·rintro pre X h b ⟨Y,j,hX,_,_,h1,h2⟩ hb;rcases (hX b).1 hb with h3 | rfl | rfl
   ·exact hJ.dom _ _ _ _ j h3
   ·exact ⟨_,_,h1,rfl⟩
   ·exact ⟨_,_,h2,rfl⟩
  ·rintro pre X h h' ⟨Y,j,hX,n1,n2,h1,h2⟩ same lB;refine ⟨Y,hJ.stable _ _ h h' j (λb hb=>same b ((hX b).2 (.inl hb))) lB,hX,n1,n2,?_,?_⟩
   ·rw [same l ((hX l).2 (.inr (.inl rfl)))];exact h1
   ·rw [same d ((hX d).2 (.inr (.inr rfl)))];exact h2
 have yk:Pc E.wk hB (.func (.yield l) #[] #[]) t0 (NZ J l d lo) (R0 Stop l d lo) all:=by
  refine ⟨prom,rfl,?_⟩;rintro pre p post X h v hall ⟨Y,j,hX,n1,n2,h1,h2⟩ lB hsv hvX;have nvl:CU v≠some l:=λe=>by obtain ⟨_,_,_,q⟩:=hsv.2 l e;rw [h1] at q;cases q
  have nvd:CU v≠some d:=λe=>by obtain ⟨_,_,_,q⟩:=hsv.2 d e;rw [h2] at q;cases q
  refine Oq h1 rfl ?_;have ef:(lo.params.zip #[v]).foldl (λtmps x=>tmps.setIfInBounds x.1 x.2) lo.tmps=t.setIfInBounds par v:=by simp [lo]
  rw [ef];show BT E.wk l E.fn (t.setIfInBounds par v) assign body h _;have hs':=hs.put hpar v;refine NU (N:=E.N) hs'.1 ?_;have e0:(λi=>(t.setIfInBounds par v).getD i undef)=upd O par v:=funext hs'.2;rw [e0];refine KH ?_ (round l d lo pre p post Y h v hall j lB hl' n1 h1 hsv λb hb=>⟨λq=>(hvX b hb).1 ((hX b).2 (.inl q)),(hvX b hb).2⟩);rintro e σ' ds' ha ⟨rfl,ha1,hb⟩;refine ⟨rfl,lo,ha1,rfl,?_⟩;refine KH ?_ (hb _ (GH.set_same _ _ _ _) λb hb=>GH.set_ne _ _ _ hb);rintro e σ2 ds2 h3 ⟨g1,Y',g2,g3,g4,g5⟩;have hd3:h3 d=some (true,.deferred (some [])):=g3.box h2 (λq=>q.elim (λq=>q.elim n2 nvd) (λe=>hne e.symm)) rfl;have nl:¬Y' l:=λq=>(g2 l q).elim (λq=>q.elim n1 nvl) λe=>by rw [h1] at e;cases e
  have nd:¬Y' d:=λq=>(g2 d q).elim (λq=>q.elim n2 nvd) λe=>by rw [h2] at e;cases e
  have key:∀(lo2:Loop)(ok:Bool),(if ok then J (pre++[p]) Y' (h3.set l true (.loop lo2))/\lo2=lo else R0 Stop l d lo (h3.set l true (.loop lo2)))->Ef hB (NZ J l d lo) (R0 Stop l d lo) pre (λb=>X b\/CU v=some b) h [p] (.bool ok) (h3.set l true (.loop lo2)):=by
   intro lo2 ok hok;refine ⟨ok,λb=>Y' b\/b=l\/b=d,rfl,?_,?_,?_,?_,?_⟩
   ·rintro b (hb | rfl | rfl)
    ·exact (g2 b hb).imp (λq=>q.imp (λq=>(hX b).2 (.inl q)) id) id
    ·exact .inl (.inl ((hX _).2 (.inr (.inl rfl))))
    ·exact .inl (.inl ((hX _).2 (.inr (.inr rfl))))
   ·intro b q o hb hn;have nb:b≠l:=λe=>hn (.inl ((hX b).2 (.inr (.inl e))));rw [GH.set_ne _ _ _ nb];exact g3 b q o hb λq=>q.elim (λz=>z.elim (λz=>hn (.inl ((hX b).2 (.inl z)))) λz=>hn (.inr z)) nb
   ·exact g4.upd hl' λb hb=>GH.set_ne _ _ _ hb
   ·rintro rfl;simp only [if_true] at hok;obtain ⟨hj,rfl⟩:=hok;exact ⟨Y',hj,λb=>Iff.rfl,nl,nd,GH.set_same _ _ _ _,by rw [GH.set_ne _ _ _ (Ne.symm hne)];exact hd3⟩
   ·rintro rfl;simpa using hok
  have js:∀(lo2:Loop),J (pre++[p]) Y' h3->J (pre++[p]) Y' (h3.set l true (.loop lo2)):=λlo2 hj=>hJ.store hj nl (λb hb=>GH.set_ne _ _ _ hb) (g4.upd hl' λb hb=>GH.set_ne _ _ _ hb);have ss:∀c (lo2:Loop),Stop c h3->Stop c (h3.set l true (.loop lo2)):=λc lo2 hc=>hS c h3 _ l _ hc g1 λb hb=>GH.set_ne _ _ _ hb;refine ⟨_,g1,?_⟩;cases e with
  | normal=>exact key _ true (by simp only [if_true];exact ⟨js _ g5,rfl⟩)
  | exit id=>exact key _ false (by simp only [Bool.false_eq_true,if_false];exact ⟨_,ss _ _ g5,GH.set_same _ _ _ _,by rw [GH.set_ne _ _ _ (Ne.symm hne)];exact hd3⟩)
  | ret=>exact key _ false (by simp only [Bool.false_eq_true,if_false];exact ⟨_,ss _ _ g5,GH.set_same _ _ _ _,by rw [GH.set_ne _ _ _ (Ne.symm hne)];exact hd3⟩)
  | goto _=>exact g5.elim
  | panic _=>exact g5.elim
  | outgrown=>exact g5.elim
 refine (src _ _ _ _ _ yk hLB hI0).mono ?_;rintro v h' ⟨X',hs',hk,hl2,hor⟩;rcases hor with ⟨Y,j,hX,n1,n2,h1,h2⟩ | ⟨c,hst,h1,h2⟩
 ·refine ⟨lo,h1,rfl,?_⟩;show Q .normal O _ _;have hB':=hl2.upd hl' (λb hb=>GH.set_ne h' true (.loop { lo with state:=.exhausted }) hb);refine (fin d l _ hB' hd' hl' hd (by rw [GH.set_ne _ _ _ (Ne.symm hne)];exact h2)).1 Y (hJ.store j n1 (λb hb=>GH.set_ne _ _ _ hb) hB') λb hb e=>n2 (e▸hb)
 ·refine ⟨_,h1,rfl,?_⟩;have hB':=hl2.upd hl' (λb hb=>GH.set_ne h' true (.loop { { lo with state:=.done,pending:=some c } with state:=.exhausted }) hb)
  have:=(fin d l _ hB' hd' hl' hd (by rw [GH.set_ne _ _ _ (Ne.symm hne)];exact h2)).2 c (hS c h' _ l _ hst h1 λb hb=>GH.set_ne _ _ _ hb)
  cases c with
  | exit id=>exact this
  | ret=>exact this
  | _=>exact this.elim
end
def Hb(l:List Int)(k:Int):Bool:=l.any (λx=>decide (k=x))
def BI(jobs:List Int):Nat->List Int->List (List Int)
 | 0,l=>[l]
 | f+1,l=>l ::jobs.flatMap λk=>if Hb l k=true then [] else BI jobs f (l++[k])
def CJ(jobs:List Int):Nat->List Int->Int->List (List Int)
 | 0,_,_=>[]
 | f+1,l,k=>if Hb l k=true then [] else BI jobs f (l++[k])
theorem FX(jobs:List Int)(f:Nat)(l:List Int):BI jobs f l=l ::jobs.flatMap (CJ jobs f l):=by
 cases f with
 | zero=>simp [BI,CJ]
 | succ f=>rfl
def DA(jobs:List Int):List (List Int):=BI jobs jobs.length []
def LC(jobs l:List Int):Nat:=(jobs.filter λk=> !Hb l k).length
theorem hasI_app(l:List Int)(k j:Int):Hb (l++[k]) j=(Hb l j || decide (j=k)):=by simp [Hb]
theorem Nt{jobs l:List Int}{k:Int}(hk:k ∈ jobs)(h:Hb l k=false):LC jobs (l++[k])<LC jobs l:=by
 unfold LC;have key:∀js:List Int,(js.filter λj=> !Hb (l++[k]) j).length<=(js.filter λj=> !Hb l j).length/\(k ∈ js->(js.filter λj=> !Hb (l++[k]) j).length<(js.filter λj=> !Hb l j).length):=by
  intro js
  induction js with
  | nil=>exact ⟨Nat.le_refl _,λe=>by cases e⟩
  | cons j js ih=>
   obtain ⟨ih1,ih2⟩:=ih;rw [List.filter_cons,List.filter_cons,hasI_app];by_cases e:j=k
   ·subst e;simp only [h,Bool.false_or,decide_true,Bool.not_true,Bool.false_eq_true,if_false,Bool.not_false,if_true,List.length_cons];exact ⟨aA,λ_=>aA⟩
   ·rw [decide_eq_false e,Bool.or_false];split
    ·simp only [List.length_cons];exact ⟨aA,λq=>by have:=ih2 ((List.mem_cons.1 q).resolve_left λz=>e z.symm);omega⟩
    ·exact ⟨ih1,λq=>ih2 ((List.mem_cons.1 q).resolve_left λz=>e z.symm)⟩
 exact (key jobs).2 hk
theorem Wd{jobs:List Int}{i:Nat}{F:Int->List (List Int)}(hi:i<jobs.length):(jobs.take (i+1)).flatMap F=(jobs.take i).flatMap F++F (jobs.getD i 0):=by
 rw [EF 0 hi,List.flatMap_append];simp
theorem CQ.job{all pre:List (List Int)}{jobs:List Int}{f i:Nat}{l:List Int}(w:CQ all pre (BI jobs f l))(hi:i<jobs.length):CQ all (pre++[l]++(jobs.take i).flatMap (CJ jobs f l)) (CJ jobs f l (jobs.getD i 0)):=by
 rw [FX] at w;have w2:CQ all pre ([l]++((jobs.take i).flatMap (CJ jobs f l)++(CJ jobs f l (jobs.getD i 0)++(jobs.drop (i+1)).flatMap (CJ jobs f l)))):=by
  rw [<-List.append_assoc (List.flatMap _ _),<-Wd hi,<-List.flatMap_append,List.take_append_drop];exact w
 exact (w2.right.right).left
theorem CQ.head{all pre:List (List Int)}{jobs:List Int}{f:Nat}{l:List Int}(w:CQ all pre (BI jobs f l)):CQ all pre [l]:=by
 rw [FX] at w;exact CQ.left (a:=[l]) w
section
variable {jobs l:List Int} {f f' i:Nat} {k:Int} {all pre:List (List Int)}
theorem We(hk:k ∈ jobs)(h:Hb l k=false)(hu:LC jobs l<=f):∃f',f=f'+1:=⟨f-1,by have:=Nt hk h;omega⟩
theorem Lx(hf:f=f'+1)(h:Hb l k=false):CJ jobs f l k=BI jobs f' (l++[k]):=by
 subst hf;exact if_neg (by rw [h];simp)
theorem RU(h:Hb l k=true):CJ jobs f l k=[]:=by
 cases f with
 | zero=>rfl
 | succ f=>exact if_pos h
theorem RV(hi:i<jobs.length)(h:Hb l (jobs.getD i 0)=true):pre++[l]++(jobs.take (i+1)).flatMap (CJ jobs f l)=pre++[l]++(jobs.take i).flatMap (CJ jobs f l):=by
 rw [Wd hi,RU h,List.append_nil]
theorem To(hi:i<jobs.length)(hf:f=f'+1)(h:Hb l (jobs.getD i 0)=false):pre++[l]++(jobs.take (i+1)).flatMap (CJ jobs f l)=(pre++[l]++(jobs.take i).flatMap (CJ jobs f l))++BI jobs f' (l++[jobs.getD i 0]):=by
 rw [Wd hi,Lx hf h,<-List.append_assoc]
theorem ZU(hi:jobs.length<=i):pre++BI jobs f l=pre++[l]++(jobs.take i).flatMap (CJ jobs f l):=by
 rw [List.take_of_length_le hi,FX];simp
theorem CQ.go(w:CQ all pre (BI jobs f l))(hi:i<jobs.length)(hf:f=f'+1)(h:Hb l (jobs.getD i 0)=false):CQ all (pre++[l]++(jobs.take i).flatMap (CJ jobs f l)) (BI jobs f' (l++[jobs.getD i 0])):=by
 have z:=w.job hi
 rwa [Lx hf h] at z
end
end Go.Ns
namespace Go.Ns
open Go.Conc
theorem HN.mem{h:GH}{l:List Sl}(a:HN h l){x:Sl}(hx:x ∈ l):AH h x.1 1 eI x.2:=by
 obtain ⟨i,hi,e⟩:=List.mem_iff_getElem.1 hx;have z:=a i;rw [List.getD_eq_getElem?_getD,List.getElem?_eq_getElem hi] at z;have z2:AH h l[i].1 1 eI l[i].2:=z;rw [<-e];exact z2
theorem B2.all{h:GH}{t:TypeId}{l:List Sl}(a:B2 h t l):HN h l:=λk=>(a k).1
theorem B2.drop1{h:GH}{t:TypeId}{l:List Sl}(a:B2 h t l):B2 h t (l.drop 1):=λk=>by
 rw [List.getD_eq_getElem?_getD,List.getElem?_drop,<-List.getD_eq_getElem?_getD];exact a (1+k)
theorem Wf{l:List Sl}{k:Nat}(h:k<l.length-1):(l.drop 1).getD k Sl.z ∈ l:=List.mem_of_mem_drop (Bc (by rw [List.length_drop];exact h))
section
variable (G:List Int->Int) (l:List (List Int))
def Dz:Nat->List Int×Int
 | 0=>(l.getD 0 [],G (l.getD 0 []))
 | k+1=>if G ((l.drop 1).getD k [])<(Dz k).2 then ((l.drop 1).getD k [],G ((l.drop 1).getD k [])) else Dz k
def Dc:List Int:=(Dz G l (l.length-1)).1
end
section
variable {G:List Int->Int} {l:List Sl} {k:Nat}
theorem Wg(l:List Sl):(Ay l).length=l.length:=List.length_map _
theorem Nu(hk:k<l.length-1):((Ay l).drop 1).getD k []=((l.drop 1).getD k Sl.z).2:=by
 have e:(Ay l).drop 1=Ay (l.drop 1):=by unfold Ay;rw [List.map_drop]
 rw [e,Fj (by rw [List.length_drop];exact hk)]
theorem Ly(hk:k<l.length-1)(h:G ((l.drop 1).getD k Sl.z).2<(Dz G (Ay l) k).2):Dz G (Ay l) (k+1)=(((l.drop 1).getD k Sl.z).2,G ((l.drop 1).getD k Sl.z).2):=by
 rw [Dz,Nu hk,if_pos h]
theorem L0(hk:k<l.length-1)(h:¬G ((l.drop 1).getD k Sl.z).2<(Dz G (Ay l) k).2):Dz G (Ay l) (k+1)=Dz G (Ay l) k:=by
 rw [Dz,Nu hk,if_neg h]
theorem U0(hk:k=l.length-1):Dc G (Ay l)=(Dz G (Ay l) k).1:=by unfold Dc;rw [Wg,hk]
end
theorem Pd:∀(n k:Nat),k<n->(CS n).getD k 0=(k:Int)
 | 0,k,h=>absurd h (Nat.not_lt_zero _)
 | n+1,k,h=>by
  have hl:=C9 n;rw [CS,List.getD_eq_getElem?_getD];by_cases e:k<n
  ·rw [List.getElem?_append_left aA,<-List.getD_eq_getElem?_getD];exact Pd n k e
  ·have e2:k=n:=aA
   subst e2;rw [List.getElem?_append_right aA,hl,Nat.sub_self];rfl
theorem LD{n:Nat}{x:Int}(h:x ∈ CS n):0<=x/\x<n:=by
 obtain ⟨i,hi,e⟩:=List.mem_iff_getElem.1 h;have hl:=C9 n
 have:=Pd n i aA
 rw [List.getD_eq_getElem?_getD,List.getElem?_eq_getElem hi,Option.getD_some,e] at this;omega
theorem Jz{jobs:List Int}:∀(f:Nat)(l:List Int),(∀x ∈ l,x ∈ jobs)->∀r ∈ BI jobs f l,(∀x ∈ r,x ∈ jobs)/\r.length<=l.length+f
 | 0,l,h,r,hr=>by
  rw [BI,List.mem_singleton] at hr;subst hr;exact ⟨h,Nat.le_refl _⟩
 | f+1,l,h,r,hr=>by
  rw [BI,List.mem_cons] at hr;rcases hr with rfl | hr
  ·exact ⟨h,aA⟩
  ·obtain ⟨k,hk,hr⟩:=List.mem_flatMap.1 hr;split at hr
   ·cases hr
   ·have:=Jz f (l++[k]) (λx hx=>by
     rcases List.mem_append.1 hx with hx | hx
     ·exact h x hx
     ·rw [List.mem_singleton.1 hx];exact hk) r hr
    refine ⟨this.1,?_⟩;have e:=this.2;rw [List.length_append,List.length_singleton] at e;omega
theorem Tp{jobs r:List Int}(h:r ∈ DA jobs):(∀x ∈ r,x ∈ jobs)/\r.length<=jobs.length:=by
 have:=Jz jobs.length [] (λx hx=>by cases hx) r h
 simpa using this
def Tq(nj:Nat)(l:List Int):Prop:=(∀k,k<l.length->0<=l.getD k 0/\l.getD k 0<nj)/\l.length<=4
theorem J0{n:Nat}{jobs r:List Int}(hj:∀x ∈ jobs,0<=x/\x<(n:Int))(hl:jobs.length<=4)(h:r ∈ DA jobs):Tq n r:=by
 obtain ⟨h1,h2⟩:=Tp h;exact ⟨λk hk=>hj _ (h1 _ (Bc hk)),aA⟩
theorem J1{jobs:List Int}(hj:jobs.length<=4):∀(f:Nat)(l:List Int),f<=4->(BI jobs f l).length<=5 ^ f*1
 | 0,l,_=>Nat.le_refl _
 | f+1,l,hf=>by
  have key:∀js:List Int,(js.flatMap λk=>if Hb l k=true then [] else BI jobs f (l++[k])).length<=js.length*5 ^ f:=by
   intro js
   induction js with
   | nil=>simp
   | cons j js ih=>
    rw [List.flatMap_cons,List.length_append,List.length_cons,Nat.add_mul,Nat.one_mul,Nat.add_comm];refine Nat.add_le_add ih ?_;split
    ·exact Nat.zero_le _
    ·have:=J1 hj f (l++[j]) aA;omega
  rw [BI,List.length_cons];have h1:=key jobs;have h2:jobs.length*5 ^ f<=4*5 ^ f:=Nat.mul_le_mul_right _ hj;have h3:1<=5 ^ f:=Nat.one_le_pow _ _ aC;rw [Nat.pow_succ];omega
theorem Hc{jobs:List Int}(hj:jobs.length<=4):(DA jobs).length<=625:=by
 have h:=J1 hj jobs.length [] hj;have h2:5 ^ jobs.length<=5 ^ 4:=Nat.pow_le_pow_right aC hj;unfold DA;omega
end Go.Ns
namespace Go.Ns
open Go.Conc
section
variable {P:Program} {M:Type} {F:Mb P M} {i:Option (Cn M)} {O:Nat->Value} {ds:List Deferred} {h:GH} {Q:PD M}
theorem trI_td{id:Nat}{l:List Oper}(n:Nat)(fl:Bool)(π:List Nat)(hm:P.follows .mixedOrders=true)
  (ok:Oz l (l.take n) 0 [] (λcls=>O0 P F.N l n cls fl (dK π))=true) (x:TD (F.env i) l n fl h ds (λ_ _ _=>True) (λσ' h'=>GT F l.toArray (l.drop n) i σ' ds h' Q) (dK π) O h):OG F (.region id l.toArray true) i O ds h Q:=by
 obtain ⟨cls,h1⟩:=Hw ok;intro b k cs L t hb hr hl hs hq;exact YR (E:=F.env i) n cls fl (dK π) hm (λ_ _ _ _ _ y=>y) trivial h1 x hb hr hs λσ' h' f t' ht'=>f n b k cs L t' (λj=>aD) hb hr hl ht' hq
def JI(P:Program):Frame:={ (default:Frame) with fn:=P.funcs.size,defers:=[],mode:=.panicking [goexitEntry] }
theorem quit_bot:QuitsIn P 1 (G (JI P) []):=.inr ⟨rfl,{ G (JI P) [] with status:=.finished },λw=>by
 show unwind P false (JI P) [] none w=_;have hcat:(JI P).catches P=false:=by
  unfold Frame.catches
  have:P.funcs[(JI P).fn]? =none:=Array.getElem?_eq_none (Nat.le_refl _)
  rw [this];rfl
 have hd:(JI P).defers=[]:=rfl;have hmd:(JI P).mode=.panicking [goexitEntry]:=rfl;unfold unwind;simp only [hd,hmd,hcat]
 rfl,rfl⟩
theorem U1{fn:Func}{f:FuncId}{args:Array Value}{t:Array Value}{ops:Array Oper}(hf:P.funcs[f]? =some fn)(hres:fn.results=#[]):QuitsIn P 4 (G (Ci (Frame.enter P f args .deferred) t [] [.inRegion ops []]) [JI P]):=by
 refine .inr ⟨rfl,G (Ci (Frame.enter P f args .deferred) t [] []) [JI P],λw=>by rw [A1];simp [stepG.exec,Ci,G],?_⟩;refine .inr ⟨rfl,G (Ed (Frame.enter P f args .deferred) t [] []) [JI P],λw=>by rw [A1];simp [stepG.exec,Ci,Ed,G,Frame.enter],?_⟩;refine .inr ⟨rfl,G (JI P) [],λw=>?_,quit_bot⟩;show unwind P false (Ed (Frame.enter P f args .deferred) t [] []) [JI P] none w=_;have hfn:(Ed (Frame.enter P f args .deferred) t [] []).fn=f:=rfl;have hk:(Ed (Frame.enter P f args .deferred) t [] []).kind=.deferred:=rfl;have hmd:(Ed (Frame.enter P f args .deferred) t [] []).mode=.returning:=rfl;have hd:(Ed (Frame.enter P f args .deferred) t [] []).defers=[]:=rfl;have r1:∀t,(results fn t).runT P w #[]=(.ok (.tuple #[]) w,#[]):=λt=>by
  unfold results;rw [hres];simp only [Array.mapM_empty];rfl
 unfold unwind;simp only [hd,hmd,hfn,hf,r1,GStep.after,doReturn,hk,seen_none];rfl
def JJ(F:Mb P M)(R:Code)(args:Array Value)(i:Option (Cn M))(O:Nat->Value)(h:GH):Prop:=∀t,Ba t F.N O->(F.wk i).K (G (Ci (Frame.enter P F.fn args .deferred) t [] [.code R]) [JI P]) h
theorem Mm{fn:Func}{c R:Code}{s:Cn M}{ars cap args:Array Value}(hm:F.main=false)(hrd:F.rd=none)(ha:ars++cap=args)(hf:P.funcs[F.fn]? =some fn)(hc:AM fn=true)(hb:fn.body=some (.seq c R))(hN:F.N=fn.ntmps)(hsz:args.size<=fn.ntmps)(hs:¬s.isDone)
  (x:OG F c (some s) (λi=>args.getD i undef) [] h λi e O ds h=>e=.normal/\ds=[]/\JJ F R args i O h):FL P F.Rep F.W.K s false (born P { target:=.fn (.func F.fn) cap,args:=ars }) h:=by
 have hwk:∀s,(F.wk (some s)).K=EL P false (IS P F.Rep F.W.K s false):=λs=>by show EL P F.main (IS P F.Rep F.W.K s F.main)=_;rw [hm]
 rw [G4 hs];refine LT _ _ _ _ rfl λw f=>⟨G (Frame.enter P F.fn args .deferred) [JI P],w,#[],h,?_,Bj.refl f,?_⟩
 ·subst ha;have hi:(invoke (.fn (.func F.fn) cap) ars).runT P w #[]=(.ok (.enter F.fn (ars++cap)) w,#[]):=Tc hf hc w;show callDeferred P (JI P) [] none { target:=.fn (.func F.fn) cap,args:=ars } w=_;unfold callDeferred;rw [if_neg aD];simp only [hi,seen_none];rfl
 have e0:Frame.enter P F.fn args .deferred=Ci (Frame.enter P F.fn args .deferred) (args++Array.replicate (fn.ntmps-args.size) undef) [] [.code (.seq c R)]:=by simp [Frame.enter,Ci,hf,hb]
 rw [e0,<-hwk s];refine Wk.go (Ci (Frame.enter P F.fn args .deferred) (args++Array.replicate (fn.ntmps-args.size) undef) [] (.code c ::.code R ::[])) (λw=>by rw [A1];simp [stepG.exec,Ci,G]) ?_;refine x (Frame.enter P F.fn args .deferred) [.code R] [JI P] (λ_ _ _ _ _=>False) _ rfl hrd.symm (λi=>⟨λ_ _ _ q=>q.elim,λ_ _ _ _ q=>q.elim,λ_ _ _ _ _ _ q=>q.elim⟩) ⟨by rw [hN];simp;omega,λi=>?_⟩ ?_
 ·by_cases hi:i<args.size
  ·simp [Array.getD_eq_getD_getElem?,Array.getElem?_append_left hi]
  ·simp only [Array.getD_eq_getD_getElem?];rw [Array.getElem?_append_right aA,Array.getElem?_eq_none (show args.size<=i by omega),Array.getElem?_replicate];split <;> rfl
 ·rintro i e O ds h' ⟨rfl,rfl,z⟩ t' ht';exact z t' ht'
theorem ZV{fn:Func}{id:Nat}{o1 o2:Oper}{args:Array Value}{c:Nat}{m:M}{v z:Value}{hm:GH}{h1:GH}(hmn:F.main=false)(hrd:F.rd=none)(hf:P.funcs[F.fn]? =some fn)(hres:fn.results=#[])
  (hg1:o1.guard=none) (hd1:C1 o1.dst F.N=true) (hg2:o2.guard=none) (hdf1:C4 o1.op=false) (hdf:C4 o2.op=false) (hd2:C1 o2.dst F.N=true)
  (x:BU (F.env (some (.send c m .done))) o1 O [] h λσ' ds' h'=>ds'=[]/\(∀w,(execOp (AO σ') o2).runT P w #[]=(.ok (.comm #[scase c v z] true .send) w,#[]))/\GH.Split h' h1 hm/\F.Rep c m v hm) :
  JJ F (.region id [o1,o2].toArray false) args (some (.send c m .done)) O h:=by
 intro t hs;refine Wk.go (Ci (Frame.enter P F.fn args .deferred) t [] (.inRegion [o1,o2].toArray [0,1] ::[])) (λw=>by rw [A1];simp [stepG.exec,Ci,G,List.range_eq_range',Array.range];rfl) ?_;refine KI (E:=F.env (some (.send c m .done))) (o:=o1) (rest:=[1]) rfl (by simp [Region.wanted,hg1]) (.inr hdf1) hd1 hs x ?_;rintro σ' ds' h' ⟨rfl,hr,hsp,hrep⟩ t' ht';refine EL.stop ⟨_,[JI P],v,z,hm,h1,rfl,⟨λw fw=>?_,hsp,hrep,4,?_⟩⟩
 ·rw [hmn];exact Ta ht' rfl (by simp [Region.wanted,hg2]) (.inr hdf) (hr w)
 ·rw [C5 (ops:=[o1,o2].toArray) (i:=1) (o:=o2) rfl];exact U1 hf hres
theorem ZW{dst:Option Nat}{x:Operand}{tys:Array TypeId}{ty:TypeId}{pos:String}{af:Array Edge}{gd:Option (Nat×Bool)}{ch s r:Nat}{w:World}(hx:AO O x=.chan (some ch))(hw:w.heap[ch]? =some (.chan 0 #[] false s r false)) :
  (execOp (AO O) ⟨dst,.call ⟨.builtin .close,#[x],tys⟩,ty,pos,af,gd⟩).runT P w #[]=(.ok (.value (.tuple #[])) { w with heap:=w.heap.setIfInBounds ch (.chan 0 #[] true s r false) },#[⟨.obj ch,false,true⟩,⟨.obj ch,true,true⟩]):=by
 have q:execOp (AO O) ⟨dst,.call ⟨.builtin .close,#[x],tys⟩,ty,pos,af,gd⟩=builtin .close tys ty (#[x].map fun | .const _=>true | _=>false) (#[x].map (AO O)):=by
  show (resolve (AO O) _ ty).bind _=_;unfold resolve;rfl
 have e:(#[x].map (AO O))=#[Value.chan (some ch)]:=by simp [hx]
 rw [q,e];show Sem.runT P (.getObj ch λo=>_) w #[]=_;unfold Sem.runT;rw [hw];show Sem.runT P (.setObj ch (.chan 0 #[] true s r false) _) w _=_;unfold Sem.runT;rw [hw];rfl
theorem Pe{fn:Func}{id:Nat}{o1:Oper}{dst:Option Nat}{xo:Operand}{tys:Array TypeId}{ty:TypeId}{pos:String}{af:Array Edge}{args:Array Value}{c:Nat}(hmn:F.main=false)(hf:P.funcs[F.fn]? =some fn)(hres:fn.results=#[])
  (hg1:o1.guard=none) (hd1:C1 o1.dst F.N=true) (hdf1:C4 o1.op=false)
  (x:BU (F.env (some (.close c .done))) o1 O [] h λσ' ds' _=>ds'=[]/\AO σ' xo=.chan (some c)) :
  JJ F (.region id [o1,⟨dst,.call ⟨.builtin .close,#[xo],tys⟩,ty,pos,af,none⟩].toArray false) args (some (.close c .done)) O h:=by
 intro t hs;refine Wk.go (Ci (Frame.enter P F.fn args .deferred) t [] (.inRegion [o1,⟨dst,.call ⟨.builtin .close,#[xo],tys⟩,ty,pos,af,none⟩].toArray [0,1] ::[])) (λw=>by rw [A1];simp [stepG.exec,Ci,G,List.range_eq_range',Array.range];rfl) ?_;refine KI (E:=F.env (some (.close c .done))) (o:=o1) (rest:=[1]) rfl (by simp [Region.wanted,hg1]) (.inr hdf1) hd1 hs x ?_;rintro σ' ds' h' ⟨rfl,hx⟩ t' ht';refine EL.stop ⟨_,[JI P],Ci (Frame.enter P F.fn args .deferred) (V0 t' dst (.tuple #[])) [] [.inRegion [o1,⟨dst,.call ⟨.builtin .close,#[xo],tys⟩,ty,pos,af,none⟩].toArray []],[JI P],rfl,⟨λw s r fw hw=>?_,rfl,4,U1 hf hres⟩⟩;rw [hmn,PE ht' (ops:=[o1,⟨dst,.call ⟨.builtin .close,#[xo],tys⟩,ty,pos,af,none⟩].toArray) (n:=1) (o:=⟨dst,.call ⟨.builtin .close,#[xo],tys⟩,ty,pos,af,none⟩) rfl (by simp [Region.wanted]) (.inr rfl)];simp only [stepG.apply,ZW hx hw,if_true];have hk:((Ci (Frame.enter P F.fn args .deferred) t' [] [.inRegion [o1,⟨dst,.call ⟨.builtin .close,#[xo],tys⟩,ty,pos,af,none⟩].toArray [1]]).kind==CallKind.early)=false:=rfl;rw [C5 (ops:=[o1,⟨dst,.call ⟨.builtin .close,#[xo],tys⟩,ty,pos,af,none⟩].toArray) (i:=1) rfl];simp only [hk,Bool.false_eq_true,if_false];show GStep.go _ _ (seen P _ _++ #[])=_;rw [WK];rfl
end
end Go.Ns
namespace Go.Ns
open Go.Conc
theorem B2.at{h:GH}{t:TypeId}{l:List Sl}(a:B2 h t l){x:Sl}(hx:x ∈ l):CF h t x.1 x.2:=by
 obtain ⟨i,hi,e⟩:=List.mem_iff_getElem.1 hx;have z:=a i;rw [List.getD_eq_getElem?_getD,List.getElem?_eq_getElem hi] at z;have z2:CF h t l[i].1 l[i].2:=z;rw [<-e];exact z2
theorem B2.of{h:GH}{t:TypeId}{l:List Sl}(a:∀x ∈ l,CF h t x.1 x.2):B2 h t l:=λk=>by
 by_cases hk:k<l.length
 ·exact a _ (Bc hk)
 ·rw [Bt aA];exact CF.nil _ _
theorem B2.grown{V:Type}{h h' h0:GH}{v v':Value}{t t':TypeId}{n:Nat}{enc:V->Array Value}{ys:List V}(g:GW h h' v v')(o:AN h0 h v t' n enc ys)(ne:t'≠t){l:List Sl}(x:B2 h t l):B2 h' t l:=λk=>(x k).grown g o ne
theorem B2.store{h h':GH}{t t':TypeId}{l:List Sl}{r:Nat}{p:Bool}{c:Array Value}{f:Nat×Nat}(x:B2 h t l)(hr:h r=some (p,.cells c t' f))(ne:t'≠t)(ho:∀b,b≠r->h' b=h b):B2 h' t l:=λk=>(x k).store hr ne ho
theorem CF.storeL{h h':GH}{t:TypeId}{w:Value}{xs:List Int}{r:Nat}{p:Bool}{lo:Loop}(x:CF h t w xs)(hr:h r=some (p,.loop lo))(ho:∀b,b≠r->h' b=h b):CF h' t w xs:=
 x.same λb hb=>ho b λe=>by
  obtain ⟨p2,c2,f2,q⟩:=x.2 b hb;rw [e,hr] at q;cases q
def SK(hB:GH)(r:Nat)(T t t0:TypeId)(F:List Int->Bool)(pre:List (List Int))(Y:Nat->Prop)(h:GH):Prop:=
 ∃w l',h r=some (true,.cells #[w] T (0,0))/\AN hB h w t 1 Je l'/\Ar w r/\hB r=none/\Ay l'=pre.filter F/\B2 h t0 l'/\∀b,Y b↔b=r\/CU w=some b\/∃x ∈ l',CU x.1=some b
section
variable {hB h h' ha hb:GH} {r:Nat} {T t t0:TypeId} {F:List Int->Bool} {pre:List (List Int)} {p:List Int} {w w' v:Value} {Y:Nat->Prop} {l':List Sl}
theorem Pf(hB:GH)(r:Nat)(T t t0:TypeId)(F:List Int->Bool):GS hB (SK hB r T t t0 F):=by
 refine ⟨?_,?_⟩
 ·rintro pre Y h b ⟨w,l',h1,h2,h3,h0,h5,h6,h4⟩ hb;rcases (h4 b).1 hb with rfl | h7 | ⟨x,hx,h7⟩
  ·exact ⟨_,_,h1,rfl⟩
  ·obtain ⟨c,hc⟩:=h2.cellsAt b h7;exact ⟨_,_,hc,rfl⟩
  ·obtain ⟨q,c,f,hc⟩:=(h6.at hx).2 b h7;exact ⟨_,_,hc,rfl⟩
 ·rintro pre Y h h' ⟨w,l',h1,h2,h3,h0,h5,h6,h4⟩ same lB;refine ⟨w,l',by rw [same r ((h4 r).2 (.inl rfl))];exact h1,h2.keep λb o hb ho=>by rw [same b ((h4 b).2 (.inr (.inl hb)))];exact ho,h3,h0,h5,.of λx hx=>(h6.at hx).same λb hb=>same b ((h4 b).2 (.inr (.inr ⟨x,hx,hb⟩))),h4⟩
theorem Nv(x:h r=some (true,.cells #[.slice none 0 0] T (0,0)))(h0:hB r=none):SK hB r T t t0 F [] (λb=>b=r) h:=
 ⟨_,[],x,AN.nil _ _ _ _ _,Ar.nil,h0,rfl,B2.nil _ _,λ_=>⟨.inl,λq=>q.elim id λe=>e.elim (λe=>by cases e) λ⟨_,e,_⟩=>by cases e⟩⟩
theorem SL(hY:∀b,Y b↔b=r\/CU w=some b\/∃x ∈ l',CU x.1=some b)(g:GW ha hb w w')(hn:∀q,ha q=none->h q=none)(x:h' r=some (true,.cells #[w'] T (0,0)))(o:AN hB h' w' t 1 Je (l'++[(v,p)]))(f:Ar w' r)(h0:hB r=none)
  (hl:Ay l'=pre.filter F) (hp:F p=true) (ta:B2 h' t0 (l'++[(v,p)])):∃Y',(∀b,Y' b->(Y b\/CU v=some b)\/h b=none)/\SK hB r T t t0 F (pre++[p]) Y' h':=by
 refine ⟨λb=>b=r\/CU w'=some b\/∃x ∈ l'++[(v,p)],CU x.1=some b,?_,w',_,x,o,f,h0,?_,ta,λ_=>Iff.rfl⟩
 ·rintro b (rfl | hb | ⟨y,hy,hb⟩)
  ·exact .inl (.inl ((hY _).2 (.inl rfl)))
  ·rcases g.2 with e | ⟨⟨q,e1,e2⟩,_⟩
   ·exact .inl (.inl ((hY _).2 (.inr (.inl (by rw [<-e];exact hb)))))
   ·rw [e1] at hb;cases hb;exact .inr (hn _ e2)
  ·rcases List.mem_append.1 hy with hy | hy
   ·exact .inl (.inl ((hY _).2 (.inr (.inr ⟨y,hy,hb⟩))))
   ·rw [List.mem_singleton.1 hy] at hb;exact .inl (.inr hb)
 ·rw [Ml,hl,List.filter_append];simp [Ay,hp]
theorem Wh(hY:∀b,Y b↔b=r\/CU w=some b\/∃x ∈ l',CU x.1=some b)(x:h' r=some (true,.cells #[w] T (0,0)))(o:AN hB h' w t 1 Je l')(f:Ar w r)(h0:hB r=none)(hl:Ay l'=pre.filter F)(hp:F p=false)(ta:B2 h' t0 l') :
  ∃Y',(∀b,Y' b->(Y b\/CU v=some b)\/h b=none)/\SK hB r T t t0 F (pre++[p]) Y' h':=
 ⟨Y,λ_ q=>.inl (.inl q),w,l',x,o,f,h0,by rw [hl,List.filter_append];simp [hp],ta,hY⟩
end
def tVal:Dh->Value
 | .job i=>.int .i64 i
 | .res i b=>.agg #[.int .i64 i,.bool b]
 | .tick=>.bool true
def tOK(n:Nat):Dh->Prop
 | .job i=>i<n
 | .res i _=>i<n
 | .tick=>True
def OH(n:Nat):Nat->Dh->Value->GH->Prop:=λ_ m v hm=>v=tVal m/\tOK n m/\hm=λ_=>none
theorem GH.split_none(h:GH):GH.Split h h (λ_=>none) where
 left:=λb p o hb=>⟨p,hb,id⟩
 right:=λb p o hb=>by cases hb
 one:=λ_ _ _ _ hb=>by cases hb
 two:=λ_ _ _ hb _=>by cases hb
section
variable {cj co cd n k:Nat} {ok:Nat->Bool}
theorem ZX(h:k<n):some (HO cj (n-k) k)=some (.send cj (.job k) (HO cj (n-(k+1)) (k+1))):=by
 rw [show n-k=(n-(k+1))+1 by omega];rfl
theorem feed_end(h:n<=k):some (HO cj (n-k) k)=some (.close cj .done):=by rw [show n-k=0 by omega];rfl
theorem U2:∀m k,¬(HO cj m k).isDone
 | 0,_=>id
 | _+1,_=>id
theorem U3:∀m,¬(FT cj co cd ok m).isDone
 | 0=>id
 | _+1=>id
theorem ZY{m:Nat}:∀o,¬(Ul co cd ok (FT cj co cd ok m) o).isDone
 | none=>id
 | some (.job _)=>id
 | some (.res _ _)=>id
 | some .tick=>id
theorem SM:∀t,¬(EG co cd t).isDone
 | 0=>id
 | _+1=>id
theorem Wi{t:Nat}:∀o,¬(Mc (EG co cd t) o).isDone
 | none=>id
 | some (.job _)=>id
 | some (.res _ _)=>id
 | some .tick=>SM t
theorem U4:∀m R,¬(FU co ok m R).isDone
 | 0,_=>id
 | _+1,_=>id
theorem Yc{c:Prop}[Decidable c]{a b:Cn Dh}(ha:¬a.isDone)(hb:¬b.isDone):¬(if c then a else b).isDone:=by split <;> assumption
theorem ZZ{m:Nat}{R:List Nat}:∀o,¬(II ok R (FU co ok m) o).isDone
 | none=>Yc id id
 | some (.job _)=>id
 | some .tick=>id
 | some (.res _ _)=>Yc (U4 _ _) id
theorem U5:∀m,¬(H2 cj co cd n ok m).isDone
 | 0=>id
 | _+1=>id
theorem Wj(h:k<3):some (EG co cd (3-k))=some (.recv cd (Mc (EG co cd (3-(k+1))))):=by
 rw [show 3-k=(3-(k+1))+1 by omega];rfl
theorem Za(h:3<=k):some (EG co cd (3-k))=some (.close co .done):=by rw [show 3-k=0 by omega];rfl
theorem Zb(h:k<3):some (H2 cj co cd n ok (3-k))=some (.spawn (FT cj co cd ok (n+1)) (H2 cj co cd n ok (3-(k+1)))):=by
 rw [show 3-k=(3-(k+1))+1 by omega];rfl
theorem crew_end(h:3<=k):some (H2 cj co cd n ok (3-k))=some (.spawn (EG co cd 3) (FU co ok (n+1) (List.range n))):=by rw [show 3-k=0 by omega];rfl
end
def Ts(n:Nat)(ok:Nat->Bool)(R:List Nat):List Bool:=(List.range n).map λi=>if i ∈ R then false else ok i
theorem Ye(n:Nat)(ok:Nat->Bool)(R:List Nat):(Ts n ok R).length=n:=by unfold Ts;rw [List.length_map,List.length_range]
theorem Zc(n:Nat)(ok:Nat->Bool):Ts n ok (List.range n)=List.replicate n false:=by
 unfold Ts;refine List.ext_getElem aD λi h1 h2=>?_
 have:i<n:=by simpa using h1
 simp [this]
theorem isL_put{n i:Nat}{ok:Nat->Bool}{R:List Nat}(hR:R.Nodup):(Ts n ok R).set i (ok i)=Ts n ok (R.erase i):=by
 unfold Ts;refine List.ext_getElem aD λj h1 h2=>?_;rw [List.getElem_set];simp only [List.getElem_map,List.getElem_range,List.Nodup.mem_erase_iff hR];by_cases e:i=j
 ·subst e;simp
 ·rw [if_neg e]
  have:j≠i:=λq=>e q.symm
  simp [this]
theorem Yf{n:Nat}{ok:Nat->Bool}{k:Nat}(hk:k<n):(Ts n ok []).getD k false=ok k:=by
 unfold Ts;rw [List.getD_eq_getElem?_getD,List.getElem?_map,List.getElem?_range hk];simp
def JK(fl:List Sl)(ok:Nat->Bool):Nat->List Sl
 | 0=>[]
 | k+1=>if ok k=true then JK fl ok k++[fl.getD k Sl.z] else JK fl ok k
theorem selS_t{fl:List Sl}{ok:Nat->Bool}{k:Nat}(h:ok k=true):JK fl ok (k+1)=JK fl ok k++[fl.getD k Sl.z]:=if_pos h
theorem selS_f{fl:List Sl}{ok:Nat->Bool}{k:Nat}(h:ok k=false):JK fl ok (k+1)=JK fl ok k:=if_neg (by rw [h];simp)
theorem U6(fl:List Sl)(ok:Nat->Bool):∀k,(JK fl ok k).length<=k
 | 0=>Nat.le_refl _
 | k+1=>by
  have:=U6 fl ok k
  unfold JK;split
  ·rw [List.length_append,List.length_singleton];omega
  ·omega
theorem Pg{fl:List Sl}{G:List Int->Bool}:∀k,k<=fl.length->Ay (JK fl (λi=>G (fl.getD i Sl.z).2) k)=((Ay fl).take k).filter G
 | 0,_=>rfl
 | k+1,h=>by
  have ih:=Pg (fl:=fl) (G:=G) k aA;have e:(Ay fl).take (k+1)=(Ay fl).take k++[(fl.getD k Sl.z).2]:=by rw [EF [] (by rw [CD];omega),Fj (l:=fl) aA]
  unfold JK;rw [e,List.filter_append];by_cases q:G (fl.getD k Sl.z).2=true
  ·rw [if_pos q,Ml,ih,List.filter_cons_of_pos q];rfl
  ·rw [if_neg q,ih,List.filter_cons_of_neg q,List.filter_nil,List.append_nil]
end Go.Ns
namespace Go.Ns
open Go.Conc
section
variable {P:Program} {M:Type} {F:Mb P M} {i i':Option (Cn M)} {O:Nat->Value} {ds:List Deferred} {h:GH} {Q:PD M}
theorem trI_ix{c:Code}(e:i=i')(x:OG F c i' O ds h Q):OG F c i O ds h Q:=e▸x
theorem JL{ops:Array Oper}{l:List Oper}(e:i=i')(x:GT F ops l i' O ds h Q):GT F ops l i O ds h Q:=e▸x
theorem Zd{c:Code}{Q:Post}(x:OG F c none O ds h λi e O ds h=>i=none/\Q e O ds h):Tr ⟨F.W,F.fn,F.rd,F.N⟩ c O ds h Q:=by
 intro b k cs L t hb hr hl hs hc;refine x b k cs (λi=>match i with | none=>L | some _=>λ_ _ _ _=>False) t hb hr (λi=>?_) hs λi e σ' ds' h' q t' ht'=>?_
 ·cases i with
  | none=>exact hl
  | some s=>exact ⟨λ_ _ _ x=>x.elim,λ_ _ _ _ x=>x.elim,λ_ _ _ _ _ _ x=>x.elim⟩
 ·obtain ⟨rfl,q⟩:=q;exact hc e σ' ds' h' q t' ht'
theorem trI_end{c:Code}{Q:Post}(x:Tr (F.env none) c O ds h Q):OG F c none O ds h λi e O ds h=>i=none/\Q e O ds h:=
 Ik (KH (λ_ _ _ _ q=>⟨rfl,q⟩) x)
variable {dst:Option Nat} {ty:TypeId} {pos:String} {af:Array Edge} {gd:Option (Nat×Bool)}
theorem Ph{a x:Operand}{c:Nat}{v:Value}(ha:AO O a=.chan (some c))(hx:AO O x=v)(w:World):(execOp (AO O) ⟨dst,.send a x,ty,pos,af,gd⟩).runT P w #[]=(.ok (.comm #[scase c v (.tuple #[])] true .send) w,#[]):=by
 subst hx;show (Result.ok (Next.comm #[{ chan:=AO O a,send:=some (AO O x),zero:=.tuple #[] }] true .send) w,#[])=_;rw [ha];rfl
theorem run_recv{a:Operand}{c:Nat}{t e:TypeId}{d:ChanDir}{ok:Bool}{z:Value}{inf:TypeInfo}(ht:P.underlying t=some (.chan d e))(hi:P.info? e=some inf)(hz:inf.zero=some z)(ha:AO O a=.chan (some c))(w:World) :
  (execOp (AO O) ⟨dst,.recv t a ok,ty,pos,af,gd⟩).runT P w #[]=(.ok (.comm #[rcase c z] true (.recv ok)) w,#[]):=by
 have h1:(zeroValue e).run P w=.ok z w:=by
  unfold zeroValue typeInfo;simp only [Sem.run_bind,program,hi];simp [Sem.run,hi,hz]
 have h2:(underlying t).run P w=.ok (.chan d e) w:=run_underlying ht w;rw [Sem.runT_eq];unfold execOp;simp [h1,h2,ha,rcase]
theorem Mn{a:Operand}{c:Nat}{t e:TypeId}{d:ChanDir}{ok:Bool}{z:Value}(ht:P.underlying t=some (.chan d e))(hz:(P.info? e).map (·.zero)=some (some z))(ha:AO O a=.chan (some c))(w:World) :
  (execOp (AO O) ⟨dst,.recv t a ok,ty,pos,af,gd⟩).runT P w #[]=(.ok (.comm #[rcase c z] true (.recv ok)) w,#[]):=by
 obtain ⟨inf,hi,h2⟩:=Option.map_eq_some_iff.1 hz;exact run_recv ht hi h2 ha w
theorem Wl{x:Operand}{f:Fn}{cap:Array Value}{tys:Array TypeId}(hx:AO O x=.func f #[] cap)(w:World):(execOp (AO O) ⟨dst,.go ⟨.value x,#[],tys⟩,ty,pos,af,gd⟩).runT P w #[]=(.ok (.spawn { target:=.fn f cap,args:=#[] }) w,#[]):=by
 have e:resolve (AO O) ⟨.value x,#[],tys⟩ ty=(pure { target:=.fn f cap,args:=#[] }:Sem Deferred):=by
  unfold resolve;simp only [hx,Deferred.ofValue];simp
 unfold execOp;simp only [e];rfl
variable {E:GV P} {T:(Nat->Value)->List Deferred->GH->Prop}
theorem J2{t e:TypeId}{d:ChanDir}{n:Operand}(ht:P.underlying t=some (.chan d e))(hi0:(P.info? e).isSome=true)(hn:AO O n=.int .i64 0)
  (k:∀r h',h r=none->h.Le h'->h' r=some (true,.chan 0 #[] false 0 0 false)->(∀b,b≠r->h' b=h b)->T (putS O dst (.chan (some r))) ds h'):BU E ⟨dst,.makeChan t n,ty,pos,af,gd⟩ O ds h T:=by
 unfold BU execOp;refine F5 ?_;unfold Instr.makeChan;rw [hn];refine AG _ _ (At ?_);refine AG _ _ (Am ht ?_);simp only [];obtain ⟨inf,hi⟩:=Option.isSome_iff_exists.1 hi0;refine AG _ _ (Ck hi ?_);rw [if_neg (by simp [IntKind.max];decide)];refine AG _ _ ?_;exact λr hr=>k r _ hr (GH.Le.new hr _ _) (GH.set_same _ _ _ _) λb hb=>GH.set_ne _ _ _ hb
end
section
variable {P:Program} {F:Mb P Dh} {i i':Option (Cn Dh)} {O:Nat->Value} {ds:List Deferred} {h:GH} {Q:PD Dh} {ops:Array Oper} {o:Oper} {l:List Oper} {n:Nat} {cj co cd c m k:Nat} {ok:Nat->Bool} {R:List Nat} {z:Value}
theorem JJ.ix{X:Code}{args:Array Value}(e:i=i')(x:JJ F X args i' O h):JJ F X args i O h:=e▸x
theorem Hd:GT F ops l (some .never) O ds h Q:=λ_ _ _ _ _ _ _ _ _ _ _ _=>EL.stop rfl
theorem GH.join_none(h:GH):h.join (λ_=>none)=h:=by
 funext b;unfold GH.join;cases h b <;> rfl
theorem U7{s:Dh}{nx:Cn Dh}(hR:F.Rep=OH n)(hg:o.guard=none)(hdf:C4 o.op=false)(hd:C1 o.dst F.N=true)(hr:∀w,(execOp (AO O) o).runT P w #[]=(.ok (.comm #[scase c (tVal s) z] true .send) w,#[]))(hs:tOK n s)(hnx:¬nx.isDone)
  (x:GT F ops l (some nx) (putS O o.dst undef) ds h Q):GT F ops (o ::l) (some (.send c s nx)) O ds h Q:=
 ZA hg hdf hd hr (GH.split_none h) (by rw [hR];exact ⟨rfl,hs,rfl⟩) hnx x
theorem Mp{f:Option Dh->Cn Dh}{r:Bool}(hR:F.Rep=OH n)(hg:o.guard=none)(hdf:C4 o.op=false)(hd:C1 o.dst F.N=true)(hr:∀w,(execOp (AO O) o).runT P w #[]=(.ok (.comm #[rcase c z] true (.recv r)) w,#[]))(hnx:∀o,¬(f o).isDone)
  (x:∀s,tOK n s->GT F ops l (some (f (some s))) (putS O o.dst (recvd r (tVal s) true)) ds h Q) (y:GT F ops l (some (f none)) (putS O o.dst (recvd r z false)) ds h Q):GT F ops (o ::l) (some (.recv c f)) O ds h Q:=
 ZB hg hdf hd hr hnx (λs v hm hrep _=>by
  rw [hR] at hrep;obtain ⟨rfl,h2,rfl⟩:=hrep;rw [GH.join_none];exact x s h2) y
theorem U8(hR:F.Rep=OH n)(hg:o.guard=none)(hdf:C4 o.op=false)(hd:C1 o.dst F.N=true)(hr:∀w,(execOp (AO O) o).runT P w #[]=(.ok (.comm #[rcase cj z] true (.recv true)) w,#[]))
  (x:∀i,i<n->GT F ops l (some (.send co (.res i (ok i)) (FT cj co cd ok m))) (putS O o.dst (.tuple #[.int .i64 i,.bool true])) ds h Q) (y:GT F ops l (some (.send cd .tick .done)) (putS O o.dst (.tuple #[z,.bool false])) ds h Q) :
  GT F ops (o ::l) (some (FT cj co cd ok (m+1))) O ds h Q:=
 Mp (f:=Ul co cd ok (FT cj co cd ok m)) hR hg hdf hd hr ZY (λs hs=>by
  cases s with
  | job i=>exact x i hs
  | res i b=>exact Hd
  | tick=>exact Hd) y
theorem U9(hR:F.Rep=OH n)(hg:o.guard=none)(hdf:C4 o.op=false)(hd:C1 o.dst F.N=true)(hr:∀w,(execOp (AO O) o).runT P w #[]=(.ok (.comm #[rcase cd z] true (.recv false)) w,#[]))(hk:k<3)
  (x:GT F ops l (some (EG co cd (3-(k+1)))) (putS O o.dst (.bool true)) ds h Q):GT F ops (o ::l) (some (EG co cd (3-k))) O ds h Q:=
 JL (Wj hk) (Mp (f:=Mc (EG co cd (3-(k+1)))) hR hg hdf hd hr Wi (λs _=>by
  cases s with
  | job i=>exact Hd
  | res i b=>exact Hd
  | tick=>exact x) Hd)
theorem Ze(hR:F.Rep=OH n)(hg:o.guard=none)(hdf:C4 o.op=false)(hd:C1 o.dst F.N=true)(hr:∀w,(execOp (AO O) o).runT P w #[]=(.ok (.comm #[rcase co z] true (.recv true)) w,#[]))
  (x:∀i,i<n->i ∈ R->GT F ops l (some (FU co ok m (R.erase i))) (putS O o.dst (.tuple #[.agg #[.int .i64 i,.bool (ok i)],.bool true])) ds h Q) (y:R=[]->GT F ops l (some .stop) (putS O o.dst (.tuple #[z,.bool false])) ds h Q) :
  GT F ops (o ::l) (some (FU co ok (m+1) R)) O ds h Q:=
 Mp (f:=II ok R (FU co ok m)) hR hg hdf hd hr ZZ (λs hs=>by
  cases s with
  | job i=>exact Hd
  | tick=>exact Hd
  | res i b=>
   by_cases e:i ∈ R/\b=ok i
   ·obtain ⟨e1,rfl⟩:=e;exact JL (show some (II ok R (FU co ok m) (some (.res i (ok i))))=some (FU co ok m (R.erase i)) by unfold II;simp [e1]) (x i hs e1)
   ·exact JL (show some (II ok R (FU co ok m) (some (.res i b)))=some .never by show some (if i ∈ R/\b=ok i then _ else _)=_;rw [if_neg e]) Hd) (by
  by_cases e:R=[]
  ·exact JL (show some (II ok R (FU co ok m) none)=some .stop by unfold II;rw [if_pos e]) (y e)
  ·exact JL (show some (II ok R (FU co ok m) none)=some .never by unfold II;rw [if_neg e]) Hd)
end
theorem Bn.flags{h h':GH}{js:List AK}(s:h.Same h')(x:Bn h js):Bn h' js:=λk=>(x k).flags s
theorem Ag.flags{h h':GH}{ns:List AJ}(s:h.Same h')(x:Ag h ns):Ag h' ns:=λk=>(x k).flags s
theorem HN.flags{h h':GH}{l:List Sl}(s:h.Same h')(a:HN h l):HN h' l:=λk=>(a k).flags s
theorem EH.flags{h h':GH}{r np:Nat}{ws:List AA}{pq:List AF}(s:h.Same h')(x:EH h r np ws pq):EH h' r np ws pq:=by
 obtain ⟨pm,M,⟨es,clk,hb,hl⟩,hM⟩:=x;obtain ⟨p',hb'⟩:=s _ _ _ hb;exact ⟨p',M,⟨es,clk,hb',hl⟩,hM⟩
theorem tr_lays5{P:Program}{E:GV P}{id:Nat}{a0 a1 a2 a3 a4:Oper}{rest:List Oper}{d0 d1 d2 d3:Nat}{O:Nat->Value}{ds:List Deferred}{h:GH}{Q:Post}(o0 o1 o2 o3:Obj)(o4:Nat->Obj)(v0 v1 v2 v3:Nat->Value)(hm:P.follows .mixedOrders=true)
  (ok:F7 E.N (a0 ::a1 ::a2 ::a3 ::a4 ::rest) 5 [[],[],[],[],[0,2,3]]=true)
  (g0:a0.guard=none) (g1:a1.guard=none) (g2:a2.guard=none) (g3:a3.guard=none) (g4:a4.guard=none) (e0:a0.dst=some d0) (e1:a1.dst=some d1) (e2:a2.dst=some d2) (e3:a3.dst=some d3)
  (l0:∀σ' h',BU E a0 σ' ds h' λσ'' ds'' h''=>ds''=ds/\∃r,σ''=putS σ' a0.dst (v0 r)/\h' r=none/\h'.Le h''/\h'' r=some (true,o0)) (l1:∀σ' h',BU E a1 σ' ds h' λσ'' ds'' h''=>ds''=ds/\∃r,σ''=putS σ' a1.dst (v1 r)/\h' r=none/\h'.Le h''/\h'' r=some (true,o1))
  (l2:∀σ' h',BU E a2 σ' ds h' λσ'' ds'' h''=>ds''=ds/\∃r,σ''=putS σ' a2.dst (v2 r)/\h' r=none/\h'.Le h''/\h'' r=some (true,o2)) (l3:∀σ' h',BU E a3 σ' ds h' λσ'' ds'' h''=>ds''=ds/\∃r,σ''=putS σ' a3.dst (v3 r)/\h' r=none/\h'.Le h''/\h'' r=some (true,o3))
  (l4:∀r0 r2 σ' h',σ' d0=v0 r0->σ' d2=v2 r2->h' r2=some (true,o2)->BU E a4 σ' ds h' λσ'' ds'' h''=>ds''=ds/\σ''=σ'/\h'' r2=some (true,o4 r0)/\∀b,b≠r2->h'' b=h' b)
  (fin:∀(r0 r1 r2 r3:Nat) σ' h',h.Le h'->(h r0=none/\h' r0=some (true,o0)/\σ' d0=v0 r0)->(h r1=none/\h' r1=some (true,o1)/\σ' d1=v1 r1)->(h r2=none/\h' r2=some (true,o4 r0)/\σ' d2=v2 r2)->(h r3=none/\h' r3=some (true,o3)/\σ' d3=v3 r3)->
   (r0≠r1/\r0≠r2/\r0≠r3/\r1≠r2/\r1≠r3/\r2≠r3)->(∀t,(DV (a0 ::a1 ::a2 ::a3 ::a4 ::rest) 5).contains t=false->σ' t=O t)->DK E (a0 ::a1 ::a2 ::a3 ::a4 ::rest).toArray rest σ' ds h' Q):Tr E (.region id (a0 ::a1 ::a2 ::a3 ::a4 ::rest).toArray true) O ds h Q:=by
 let l:=a0 ::a1 ::a2 ::a3 ::a4 ::rest;let obj:Nat->Obj:=λi=>match i with | 0=>o0 | 1=>o1 | 2=>o2 | _=>o3
 let val:Nat->Nat->Value:=λi=>match i with | 0=>v0 | 1=>v1 | 2=>v2 | _=>v3
 have lay:∀i o,i<4->l[i]? =some o->∀σ' h',BU E o σ' ds h' λσ'' ds'' h''=>ds''=ds/\∃r,σ''=putS σ' o.dst (val i r)/\h' r=none/\h'.Le h''/\h'' r=some (true,obj i):=by
  intro i o hi ho σ' h';rcases i with _ | _ | _ | _ | i
  ·cases ho;exact l0 σ' h'
  ·cases ho;exact l1 σ' h'
  ·cases ho;exact l2 σ' h'
  ·cases ho;exact l3 σ' h'
  ·omega
 have nd:(DV l 5).Nodup:=by
  have:=ok
  unfold F7 at this;simp only [Bool.and_eq_true] at this;exact of_decide_eq_true this.1.2
 refine UX 5 [[],[],[],[],[0,2,3]] (λD σ' h'=>h.Le h'/\(D 4=true->D 0=true/\D 2=true)/\∃rs:Nat->Nat,(∀i,i<4->D i=true->h (rs i)=none/\h' (rs i)=some (true,if i=2/\D 4=true then o4 (rs 0) else obj i)/\∀o d,l[i]? =some o->o.dst=some d->σ' d=val i (rs i))/\
  (∀i j,i<4->j<4->D i=true->D j=true->i≠j->rs i≠rs j)/\∀t,(DV l 5).contains t=false->σ' t=O t) hm ok ⟨GH.Le.refl _,(λe=>by cases e),λ_=>0,(λ_ _ q=>by cases q),(λ_ _ _ _ q=>by cases q),λ_ _=>rfl⟩ ?_ ?_
 ·rintro D σ' h' i o ⟨l1',hD4,rs,h1,h2,h3⟩ hi hD ho hcl _;have hgd:o.guard=none:=by
   rcases i with _ | _ | _ | _ | _ | i
   ·cases ho;exact g0
   ·cases ho;exact g1
   ·cases ho;exact g2
   ·cases ho;exact g3
   ·cases ho;exact g4
   ·omega
  refine ⟨λ_=>?_,λq=>absurd (by unfold DL;rw [hgd];trivial) q⟩;by_cases hi4:i=4
  ·subst hi4;have c0:D 0=true:=hcl 0 aD;have c2:D 2=true:=hcl 2 aD;cases ho;obtain ⟨q1,q2,q3⟩:=h1 0 aC c0;obtain ⟨p1,p2,p3⟩:=h1 2 aC c2;rw [if_neg (λe=>by rw [hD] at e;cases e.2)] at p2;refine (l4 (rs 0) (rs 2) σ' h' (q3 a0 d0 rfl e0) (p3 a2 d2 rfl e2) p2).mono λσ'' ds'' h'' q=>?_;obtain ⟨rfl,rfl,k1,k2⟩:=q;refine ⟨rfl,λb p x hb=>?_,λ_=>⟨by rw [Bh aC];exact c0,by rw [Bh aC];exact c2⟩,rs,λj hj hDj=>?_,λa b ha hb hDa hDb hab=>?_,h3⟩
   ·rw [k2 b λe=>by subst e;rw [p1] at hb;cases hb];exact l1' b p x hb
   ·rw [Bh aA] at hDj;obtain ⟨u1,u2,u3⟩:=h1 j hj hDj;refine ⟨u1,?_,u3⟩;by_cases ej:j=2
    ·subst ej;rw [if_pos ⟨rfl,if_pos rfl⟩];exact k1
    ·rw [if_neg (λe=>ej e.1),k2 _ (h2 j 2 hj aC hDj c2 ej)];rw [if_neg (λe=>ej e.1)] at u2;exact u2
   ·rw [Bh aA] at hDa hDb;exact h2 a b ha hb hDa hDb hab
  ·have hi':i<4:=aA
   refine (lay i o hi' ho σ' h').mono λσ'' ds'' h'' q=>?_;obtain ⟨rfl,r,rfl,hr,l2',hr2⟩:=q;have h4e:HH D i 4=D 4:=Bh (λe=>hi4 e.symm);have hne:∀j,j<4->D j=true->rs j≠r:=λj hj hDj e=>by
    have:=(h1 j hj hDj).2.1
    rw [e,hr] at this;cases this
   refine ⟨rfl,l1'.trans l2',λe=>?_,λj=>if j=i then r else rs j,λj hj hDj=>?_,λa b ha hb hDa hDb hab=>?_,λt ht=>?_⟩
   ·rw [h4e] at e;obtain ⟨c0,c2⟩:=hD4 e;exact ⟨by rw [Bh (λq=>by subst q;rw [hD] at c0;cases c0)];exact c0,by rw [Bh (λq=>by subst q;rw [hD] at c2;cases c2)];exact c2⟩
   ·by_cases e:j=i
    ·subst e;dsimp only;rw [if_pos rfl];refine ⟨l1'.nothing hr,?_,λo' d ho' hd=>?_⟩
     ·rw [if_neg (λe=>by have e2:=e.2;rw [h4e] at e2;have e3:=(hD4 e2).2;rw [<-e.1,hD] at e3;cases e3)];exact hr2
     ·obtain rfl:o'=o:=Option.some.inj (ho'.symm.trans ho);rw [hd];exact upd_same _ _ _
    ·dsimp only;rw [if_neg e];rw [Bh e] at hDj;obtain ⟨q1,q2,q3⟩:=h1 j hj hDj;refine ⟨q1,?_,λo' d ho' hd=>by rw [Cv λd' hd'=>D3 nd hi (aA:j<5) (λq=>e q.symm) ho ho' hd' hd];exact q3 o' d ho' hd⟩;rw [h4e];by_cases hc:j=2/\D 4=true
     ·rw [if_pos hc] at q2 ⊢;rw [if_neg (λq=>by have c0:=(hD4 hc.2).1;rw [q,hD] at c0;cases c0)];exact l2'.keep q2 rfl
     ·rw [if_neg hc] at q2 ⊢;exact l2'.keep q2 rfl
   ·show (if a=i then r else rs a)≠(if b=i then r else rs b);by_cases ea:a=i
    ·by_cases eb:b=i
     ·exact absurd (ea.trans eb.symm) hab
     ·rw [if_pos ea,if_neg eb];rw [Bh eb] at hDb;exact (hne b hb hDb).symm
    ·rw [Bh ea] at hDa;by_cases eb:b=i
     ·rw [if_neg ea,if_pos eb];exact hne a ha hDa
     ·rw [if_neg ea,if_neg eb];rw [Bh eb] at hDb;exact h2 a b ha hb hDa hDb hab
   ·rw [Cv (HV hi ho ht)];exact h3 t ht
 ·rintro D σ' h' ⟨l1',hD4,rs,h1,h2,h3⟩ hall;have A:∀i,i<5->D i=true:=hall;have f0:=h1 0 aC (A 0 aC);have f1:=h1 1 aC (A 1 aC);have f2:=h1 2 aC (A 2 aC);have f3:=h1 3 aC (A 3 aC);rw [if_neg (λe=>by have:=e.1;omega)] at f0;rw [if_neg (λe=>by have:=e.1;omega)] at f1;rw [if_pos ⟨rfl,A 4 aC⟩] at f2;rw [if_neg (λe=>by have:=e.1;omega)] at f3;have ne:=λi j (hi:i<4) (hj:j<4)=>h2 i j hi hj (A i aA) (A j aA);exact fin (rs 0) (rs 1) (rs 2) (rs 3) σ' h' l1' ⟨f0.1,f0.2.1,f0.2.2 a0 d0 rfl e0⟩ ⟨f1.1,f1.2.1,f1.2.2 a1 d1 rfl e1⟩ ⟨f2.1,f2.2.1,f2.2.2 a2 d2 rfl e2⟩ ⟨f3.1,f3.2.1,f3.2.2 a3 d3 rfl e3⟩
   ⟨ne 0 1 aC aC aC,ne 0 2 aC aC aC,ne 0 3 aC aC aC,ne 1 2 aC aC aC,ne 1 3 aC aC aC,ne 2 3 aC aC aC⟩ h3
section
variable {h h' h0:GH} {r:Nat}
theorem GH.cut_ne{b:Nat}(e:b≠r):h.cut r b=h b:=if_neg e
theorem GH.Le.cut(l:h0.Le h)(n:h0 r=none):h0.Le (h.cut r):=λb p o hb=>by
 rw [GH.cut_ne λe=>by subst e;rw [n] at hb;cases hb];exact l b p o hb
theorem AN.cut{V:Type}{v:Value}{t:TypeId}{n:Nat}{enc:V->Array Value}{xs:List V}(x:AN h0 h v t n enc xs)(f:Ar v r):AN h0 (h.cut r) v t n enc xs:=
 x.keep λb o hb ho=>by rw [GH.cut_ne λe=>by subst e;exact f hb];exact ho
theorem AN.del'{V:Type}{v:Value}{t:TypeId}{n:Nat}{enc:V->Array Value}{xs:List V}(x:AN h0 h v t n enc xs)(f:Ar v r):AN h0 (h.del r) v t n enc xs:=
 x.keep λb o hb ho=>by rw [GH.del_ne λe=>by subst e;exact f hb];exact ho
theorem CF.keep3{X:Nat->Prop}{t0 T t:TypeId}{n l:Nat}{w v:Value}{p q:Bool}{c:Array Value}{f:Nat×Nat}{lo:Loop}{ys:List Sl}{hB:GH}{ys':List Int}(x:CF h t0 v ys')(k:By X h h')(hX:∀b,X b->(b=r\/CU w=some b)\/b=l)(hr:h r=some (p,.cells c T f))(ow:AN hB h w t n Je ys)(hl:h l=some (q,.loop lo))(n1:T≠t0)(n2:t≠t0):CF h' t0 v ys':=
 x.keepX k λb hb q2=>by
  obtain ⟨p2,c2,f2,e⟩:=x.2 b hb;rcases hX b q2 with (rfl | q3) | rfl
  ·rw [hr] at e;cases e;exact n1 rfl
  ·rcases ow with ⟨rfl,_⟩ | ⟨b1,cap,c1,rfl,_,h2,_⟩
   ·cases q3
   ·simp only [CU,Option.some.injEq] at q3;subst q3;rw [h2] at e;cases e;exact n2 rfl
  ·rw [hl] at e;cases e
theorem By.mono{X Y:Nat->Prop}(k:By X h h')(s:∀b,X b->Y b):By Y h h':=λb p o hb hn=>k b p o hb λx=>hn (s b x)
end
theorem Zf{n:Nat}{fl:List Sl}(h:Ay fl=DA (CS n))(hn:n<=4)(i:Nat):Tq n (fl.getD i Sl.z).2:=by
 by_cases hi:i<fl.length
 ·refine J0 (λx hx=>LD hx) (by rw [C9];exact hn) (r:=(fl.getD i Sl.z).2) ?_;rw [<-h,<-Fj hi];exact Bc (by rw [CD];exact hi)
 ·rw [Bt aA];exact ⟨λk hk=>absurd hk (Nat.not_lt_zero _),Nat.zero_le _⟩
theorem CF.storeD{h h':GH}{t:TypeId}{v:Value}{xs:List Int}{r:Nat}{p:Bool}{q:Option (List Deferred)}(x:CF h t v xs)(hr:h r=some (p,.deferred q))(ho:∀b,b≠r->h' b=h b):CF h' t v xs:=
 x.same λb hb=>ho b λe=>by
  obtain ⟨p2,c2,f2,z⟩:=x.2 b hb;rw [e,hr] at z;cases z
theorem B2.storeD{h h':GH}{t:TypeId}{l:List Sl}{r:Nat}{p:Bool}{q:Option (List Deferred)}(x:B2 h t l)(hr:h r=some (p,.deferred q))(ho:∀b,b≠r->h' b=h b):B2 h' t l:=λk=>
 (x k).same λb hb=>ho b λe=>by
  obtain ⟨p2,c2,f2,z⟩:=(x k).2 b hb;rw [e,hr] at z;cases z
theorem selS_all{fl:List Sl}{G:List Int->Bool}{all:List (List Int)}{k:Nat}(h:Ay fl=all)(h1:k<=fl.length)(h2:fl.length<=k):Ay (JK fl (λi=>G (fl.getD i Sl.z).2) k)=all.filter G:=by
 rw [Pg k h1,List.take_of_length_le (by rw [CD];exact h2),h]
theorem B2.sel{h:GH}{t:TypeId}{fl:List Sl}{ok:Nat->Bool}{k:Nat}(a:B2 h t fl):B2 h t (JK fl ok k):=by
 induction k with
 | zero=>exact B2.nil h t
 | succ k ih=>
  unfold JK;split
  ·exact B2.app ih (B2.one (a k))
  ·exact ih
end Go.Ns
namespace Go.Ns
theorem Tt{P:Program}{O:Nat->Value}{h:GH}{fn:Func}{R:Value->GH->Prop}{a u s:Tmp}{t:TypeId}{b off:Nat}{v v' v2:Value}(hr:fn.results=#[.tmp u,.cell a t,.tmp s])(hv:O u=v)(ha:O a=.pointer (some ⟨b,off,none⟩))(hv':Rd P h t b off v')(hv2:O s=v2)(x:R (.tuple #[v,v',v2]) h):GY P fn O R [] h:=by
 unfold GY;rw [hr];subst hv;subst hv2;exact ⟨b,off,v',ha,hv',x⟩
section
variable (np:Nat) (ws:List AA) (js:List AK) (pq:List AF) (bag kinds:Int)
def Gl:List (List Int):=(DA (CS js.length)).filter (λq=>B7 np ws js pq q bag kinds)
end
def OS(g:List (List Int))(x:List Int):List (List Int):=if 0<g.length/\(g.getD 0 []).length<x.length then [] else g
def OT(g:List (List Int))(x:List Int):List (List Int):=if g.length=0\/x.length=(g.getD 0 []).length then g++[x] else g
def VA(g:List (List Int))(x:List Int):List (List Int):=OT (OS g x) x
def Tu(l:List (List Int)):Nat->List (List Int)
 | 0=>[]
 | k+1=>VA (Tu l k) (l.getD k [])
def HB(g:List Sl)(x:Sl):List Sl:=if 0<g.length/\(g.getD 0 Sl.z).2.length<x.2.length then [] else g
def H4(g:List Sl)(x:Sl):List Sl:=if g.length=0\/x.2.length=(g.getD 0 Sl.z).2.length then g++[x] else g
def DD(g:List Sl)(x:Sl):List Sl:=H4 (HB g x) x
def A9(l:List Sl):Nat->List Sl
 | 0=>[]
 | k+1=>DD (A9 l k) (l.getD k Sl.z)
section
variable {l g:List Sl} {x:Sl} {k:Nat}
theorem Pi(h0:0<g.length)(h1:(g.getD 0 Sl.z).2.length<x.2.length):DD g x=[x]:=by
 unfold DD HB;rw [if_pos ⟨h0,h1⟩];rfl
theorem Pj(h0:0<g.length)(h1:x.2.length=(g.getD 0 Sl.z).2.length):DD g x=g++[x]:=by
 unfold DD HB;rw [if_neg (λe=>by have:=e.2;omega)];unfold H4;rw [if_pos (.inr h1)]
theorem Pm(h0:0<g.length)(h1:x.2.length<(g.getD 0 Sl.z).2.length):DD g x=g:=by
 unfold DD HB;rw [if_neg (λe=>by have:=e.2;omega)];unfold H4;rw [if_neg];rintro (e | e) <;> omega
theorem Pn(h0:g.length=0):DD g x=g++[x]:=by
 unfold DD HB;rw [if_neg (λe=>by have:=e.1;omega)];unfold H4;rw [if_pos (.inl h0)]
theorem goodS_a(h0:0<(A9 l k).length)(h1:((A9 l k).getD 0 Sl.z).2.length<(l.getD k Sl.z).2.length):A9 l (k+1)=[l.getD k Sl.z]:=Pi h0 h1
theorem goodS_b(h0:0<(A9 l k).length)(h1:(l.getD k Sl.z).2.length=((A9 l k).getD 0 Sl.z).2.length):A9 l (k+1)=A9 l k++[l.getD k Sl.z]:=Pj h0 h1
theorem goodS_c(h0:0<(A9 l k).length)(h1:¬((A9 l k).getD 0 Sl.z).2.length<(l.getD k Sl.z).2.length)(h2:¬(l.getD k Sl.z).2.length=((A9 l k).getD 0 Sl.z).2.length):A9 l (k+1)=A9 l k:=Pm h0 aA
theorem goodS_d(h0:(A9 l k).length=0):A9 l (k+1)=A9 l k++[l.getD k Sl.z]:=Pn h0
theorem goodS_t(h1:¬(0<(A9 l k).length/\((A9 l k).getD 0 Sl.z).2.length<(l.getD k Sl.z).2.length))(h2:(A9 l k).length=0\/(l.getD k Sl.z).2.length=((A9 l k).getD 0 Sl.z).2.length):A9 l (k+1)=A9 l k++[l.getD k Sl.z]:=by
 by_cases h0:(A9 l k).length=0
 ·exact goodS_d h0
 ·exact goodS_b aA aA
theorem goodS_f(h1:¬(0<(A9 l k).length/\((A9 l k).getD 0 Sl.z).2.length<(l.getD k Sl.z).2.length))(h2:¬((A9 l k).length=0\/(l.getD k Sl.z).2.length=((A9 l k).getD 0 Sl.z).2.length)):A9 l (k+1)=A9 l k:=goodS_c aA aA aA
theorem H5(g:List Sl)(x:Sl):DD g x=[x]\/DD g x=g++[x]\/(DD g x=g/\0<g.length):=by
 by_cases h0:g.length=0
 ·exact .inr (.inl (Pn h0))
 ·by_cases h1:(g.getD 0 Sl.z).2.length<x.2.length
  ·exact .inl (Pi aA h1)
  ·by_cases h2:x.2.length=(g.getD 0 Sl.z).2.length
   ·exact .inr (.inl (Pj aA h2))
   ·exact .inr (.inr ⟨Pm aA aA,aA⟩)
theorem Zg:∀k,0<k->0<(A9 l k).length
 | k+1,_=>by
  show 0<(DD (A9 l k) (l.getD k Sl.z)).length;rcases H5 (A9 l k) (l.getD k Sl.z) with e | e | ⟨e,h⟩ <;> rw [e]
  ·exact Nat.zero_lt_one
  ·rw [List.length_append];exact Nat.succ_pos _
  ·exact h
theorem SN:∀k,(A9 l k).length<=k
 | 0=>Nat.le_refl _
 | k+1=>by
  have ih:=SN k;show (DD (A9 l k) (l.getD k Sl.z)).length<=_;rcases H5 (A9 l k) (l.getD k Sl.z) with e | e | ⟨e,_⟩ <;> rw [e]
  ·simp
  ·rw [List.length_append,List.length_singleton];omega
  ·omega
theorem Mq:∀k,k<=l.length->∀y ∈ A9 l k,y ∈ l
 | 0,_,y,hy=>by cases hy
 | k+1,hk,y,hy=>by
  have ih:=Mq k aA;have hx:l.getD k Sl.z ∈ l:=Bc aA;change y ∈ DD (A9 l k) (l.getD k Sl.z) at hy;rcases H5 (A9 l k) (l.getD k Sl.z) with e | e | ⟨e,_⟩ <;> rw [e] at hy
  ·rw [List.mem_singleton.1 hy];exact hx
  ·rcases List.mem_append.1 hy with hy | hy
   ·exact ih y hy
   ·rw [List.mem_singleton.1 hy];exact hx
  ·exact ih y hy
theorem Nw:∀k,k<=l.length->Ay (A9 l k)=Tu (Ay l) k
 | 0,_=>rfl
 | k+1,hk=>by
  have ih:=Nw k aA;have hg:∀g:List Sl,(g.getD 0 Sl.z).2=(Ay g).getD 0 []:=λg=>by cases g <;> rfl
  show Ay (DD (A9 l k) (l.getD k Sl.z))=VA (Tu (Ay l) k) ((Ay l).getD k []);rw [<-ih,Fj aA];have hc:Ay (HB (A9 l k) (l.getD k Sl.z))=OS (Ay (A9 l k)) (l.getD k Sl.z).2:=by
   unfold HB OS;rw [hg,CD];split <;> rfl
  have ha:∀g:List Sl,Ay (H4 g (l.getD k Sl.z))=OT (Ay g) (l.getD k Sl.z).2:=λg=>by
   unfold H4 OT;rw [hg,CD];split
   ·rw [Ml];rfl
   ·rfl
  show Ay (H4 (HB (A9 l k) (l.getD k Sl.z)) (l.getD k Sl.z))=OT (OS (Ay (A9 l k)) _) _;rw [ha,hc]
end
theorem B2.good{h:GH}{t:TypeId}{l:List Sl}{k:Nat}(a:B2 h t l)(hk:k<=l.length):B2 h t (A9 l k):=.of λx hx=>a.at (Mq k hk x hx)
section
variable {np:Nat} {ws:List AA} {js:List AK} {pq:List AF} {bag kinds:Int} {fs:List Sl}
theorem Yg(h:Ay fs=Gl np ws js pq bag kinds)(hn:js.length<=4):∀x ∈ fs,Tq js.length x.2:=λx hx=>by
 have:x.2 ∈ Ay fs:=List.mem_map_of_mem hx
 rw [h] at this;exact J0 (λy hy=>LD hy) (by rw [C9];exact hn) (List.mem_filter.1 this).1
theorem VB(h:Ay fs=Gl np ws js pq bag kinds)(hn:js.length<=4)(i:Nat):Tq js.length (fs.getD i Sl.z).2:=by
 by_cases hi:i<fs.length
 ·exact Yg h hn _ (Bc hi)
 ·rw [Bt aA];exact ⟨λk hk=>absurd hk (Nat.not_lt_zero _),Nat.zero_le _⟩
theorem safe_nil(hb:0<=bag):B7 np ws js pq [] bag kinds=true:=by
 unfold B7;have e:(DH kinds js []).sum=0:=by
  show (List.replicate kinds.toNat (0:Int)).sum=0;generalize kinds.toNat=n
  induction n with
  | zero=>rfl
  | succ n ih=>rw [List.replicate_succ,List.sum_cons,ih];rfl
 rw [e,decide_eq_true hb];rfl
theorem Wm(hb:0<=bag):0<(Gl np ws js pq bag kinds).length:=by
 refine List.length_pos_of_mem (a:=[]) (List.mem_filter.2 ⟨?_,safe_nil hb⟩);unfold DA;rw [FX];exact List.mem_cons_self
theorem Po(hn:js.length<=4):(Gl np ws js pq bag kinds).length<=625:=
 Nat.le_trans (List.length_filter_le _ _) (Hc (by rw [C9];exact hn))
theorem SO{G:List Int->Int}:∀(l:List (List Int)),0<l.length->∀k,k<=l.length-1->(Dz G l k).1 ∈ l
 | l,h,0,_=>Bc h
 | l,h,k+1,hk=>by
  unfold Dz;split
  ·exact List.mem_of_mem_drop (Bc (by rw [List.length_drop];omega))
  ·exact SO l h k aA
theorem L1{n:Nat}{G:List Int->Int}{l:List Sl}(h:∀x ∈ l,Tq n x.2)(hl:0<l.length):Tq n (Dc G (Ay l)):=by
 have:=SO (G:=G) (Ay l) (by rw [CD];exact hl) ((Ay l).length-1) (Nat.le_refl _)
 obtain ⟨x,hx,e⟩:=List.mem_map.1 this;unfold Dc;rw [<-e];exact h x hx
end
section
variable (bag kinds:Int) (ps:List ByteArray) (ws:List AA) (js:List AK) (ns:List AJ)
def Wn:List Int:=Dc (λl=>BC (λx=>Aa ps.length ws js x l) (AB ws js ns)) (Tu (Gl ps.length ws js (AB ws js ns) bag kinds) (Gl ps.length ws js (AB ws js ns) bag kinds).length)
def Kr:List Int:=if¬AV bag kinds ps ws js ns 0=0 then [] else Wn bag kinds ps ws js ns
end
section
variable {bag kinds:Int} {ps:List ByteArray} {ws:List AA} {js:List AK} {ns:List AJ} {fs:List Sl} {k:Nat}
theorem best_end(h:Ay fs=Gl ps.length ws js (AB ws js ns) bag kinds)(h1:k<=fs.length)(h2:fs.length<=k):Wn bag kinds ps ws js ns=Dc (λl=>BC (λx=>Aa ps.length ws js x l) (AB ws js ns)) (Ay (A9 fs k)):=by
 unfold Wn;rw [Nw k h1,h,<-h,CD,show fs.length=k by omega]
theorem VC(h0:¬¬AV bag kinds ps ws js ns 0=0)(h:Ay fs=Gl ps.length ws js (AB ws js ns) bag kinds)(h1:k<=fs.length)(h2:fs.length<=k):Kr bag kinds ps ws js ns=Dc (λl=>BC (λx=>Aa ps.length ws js x l) (AB ws js ns)) (Ay (A9 fs k)):=(if_neg h0).trans (best_end h h1 h2)
end
def Pp(c:GR)(l:List Int):Nat->GR
 | 0=>c
 | i+1=>(Pp c l i).set (l.getD i 0).toNat true
def Fm(ls:List (List Int)):Nat->GR
 | 0=>GR.none
 | k+1=>Pp (Fm ls k) (ls.getD k []) (ls.getD k []).length
def EI(c:GR):Nat->List Int
 | 0=>[]
 | q+1=>if c q=true then EI c q else EI c q++[(q:Int)]
theorem neverL_t{c:GR}{q:Nat}(h:c q=true):EI c (q+1)=EI c q:=if_pos h
theorem neverL_f{c:GR}{q:Nat}(h:c q=false):EI c (q+1)=EI c q++[(q:Int)]:=if_neg (by rw [h];simp)
theorem Pq(c:GR):∀q,(EI c q).length<=q
 | 0=>Nat.le_refl _
 | q+1=>by
  have:=Pq c q
  unfold EI;split
  ·omega
  ·rw [List.length_append,List.length_singleton];omega
section
variable (bag kinds:Int) (ps:List ByteArray) (ws:List AA) (js:List AK) (ns:List AJ)
def GJ:List Int:=if¬AV bag kinds ps ws js ns 0=0 then [] else EI (Fm (Gl ps.length ws js (AB ws js ns) bag kinds) (Gl ps.length ws js (AB ws js ns) bag kinds).length) js.length
end
section
variable {bag kinds:Int} {ps:List ByteArray} {ws:List AA} {js:List AK} {ns:List AJ} {fs:List Sl} {k q:Nat}
theorem Zh{i:Nat}(hk:k<fs.length)(h1:i<=(fs.getD k Sl.z).2.length)(h2:(fs.getD k Sl.z).2.length<=i):Fm (Ay fs) (k+1)=Pp (Fm (Ay fs) k) (fs.getD k Sl.z).2 i:=by
 unfold Fm;rw [Fj hk,show (fs.getD k Sl.z).2.length=i by omega];cases k <;> rfl
theorem Zi(h0:¬¬AV bag kinds ps ws js ns 0=0)(h:Ay fs=Gl ps.length ws js (AB ws js ns) bag kinds)(h1:k<=fs.length)(h2:fs.length<=k)(h3:q<=js.length)(h4:js.length<=q):GJ bag kinds ps ws js ns=EI (Fm (Ay fs) k) q:=
 (if_neg h0).trans (by rw [<-h,CD,show fs.length=k by omega,show js.length=q by omega])
end
end Go.Ns
namespace Go.Ns
theorem VD{nj:Nat}{l:List Int}(h:Ai nj l=0):l.Nodup:=by
 rw [List.nodup_iff_pairwise_ne];rw [List.pairwise_iff_getElem];intro i j hi hj hij e;have h1:=DG h j (Nat.zero_le _) aA;unfold HZ at h1;split at h1
 ·rename_i a;exact a h1
 ·split at h1
  ·cases h1
  ·rename_i a
   refine a (List.any_eq_true.2 ⟨l[i],List.mem_take_iff_getElem.2 ⟨i,aA,rfl⟩,?_⟩);rw [List.getD_eq_getElem?_getD,List.getElem?_eq_getElem hj];exact decide_eq_true e.symm
theorem Nx{jobs:List Int}(nd:jobs.Nodup):∀(rest done:List Int),jobs=done++rest->jobs ∈ BI jobs rest.length done
 | [],done,e=>by rw [e,List.append_nil];exact List.mem_singleton.2 rfl
 | k ::rest,done,e=>by
  have ih:=Nx nd rest (done++[k]) (by rw [e];simp);show jobs ∈ done ::jobs.flatMap _;refine List.mem_cons_of_mem _ (List.mem_flatMap.2 ⟨k,by rw [e];simp,?_⟩);have hn:Hb done k=false:=by
   cases hh:Hb done k with
   | false=>rfl
   | true=>
    exfalso;obtain ⟨x,hx,hk⟩:=List.any_eq_true.1 hh;have hk':k=x:=of_decide_eq_true hk;rw [e,List.nodup_append] at nd;exact nd.2.2 x hx k List.mem_cons_self hk'.symm
  rw [if_neg (by rw [hn];simp)];exact ih
def Yh(jobs:List Int)(n:Nat):List (List Int):=(DA jobs).filter λq=>decide (q.length=n)
theorem Zj{l:List Int}(nd:l.Nodup):0<(Yh (FR l) l.length).length:=by
 have hs:(FR l).Nodup:=by rw [PA];exact (List.mergeSort_perm l _).nodup_iff.2 nd
 have:=Nx hs (FR l) [] rfl
 exact List.length_pos_of_mem (List.mem_filter.2 ⟨this,decide_eq_true (EO l)⟩)
section
variable (bag kinds:Int) (ps:List ByteArray) (ws:List AA) (js:List AK) (ns:List AJ) (l:List Int)
def swiftL:List Int:=Dc (λl=>BC (λx=>Aa ps.length ws js x l) (AB ws js ns)) (Yh (FR l) l.length)
def JM:List Int:=if¬AV bag kinds ps ws js ns (Ai js.length l)=0 then [] else swiftL ps ws js ns l
end
section
variable {bag kinds:Int} {ps:List ByteArray} {ws:List AA} {js:List AK} {ns:List AJ} {l:List Int} {fl:List Sl} {nj:Nat}
theorem SP(h0:¬¬AV bag kinds ps ws js ns (Ai js.length l)=0)(h:Ay fl=Yh (FR l) l.length):JM bag kinds ps ws js ns l=Dc (λl=>BC (λx=>Aa ps.length ws js x l) (AB ws js ns)) (Ay fl):=(if_neg h0).trans (by unfold swiftL;rw [h])
theorem full_ok(h:Ay fl=Yh (FR l) l.length)(hr:∀k,k<l.length->0<=l.getD k 0/\l.getD k 0<nj)(h4:l.length<=4):∀x ∈ fl,Tq nj x.2:=λx hx=>by
 have:x.2 ∈ Ay fl:=List.mem_map_of_mem hx
 rw [h] at this;refine J0 (λy hy=>?_) (by rw [EO];exact h4) (List.mem_filter.1 this).1;rw [PA,List.mem_mergeSort] at hy;obtain ⟨i,hi,e⟩:=List.mem_iff_getElem.1 hy
 have:=hr i hi
 rw [List.getD_eq_getElem?_getD,List.getElem?_eq_getElem hi,Option.getD_some,e] at this;exact this
end
end Go.Ns
namespace Go.Ns
def PV(h:GH)(t:TypeId)(f:Nat->Value)(L:Nat->List Int)(k:Nat):Prop:=∀i,i<k->CF h t (f i) (L i)
section
variable {h h' h0:GH} {t t':TypeId} {f:Nat->Value} {L:Nat->List Int} {k r:Nat} {w v v':Value} {p:Bool} {c:Array Value} {g:Nat×Nat}
theorem PV.zero:PV h t f L 0:=λ_ hi=>absurd hi (Nat.not_lt_zero _)
theorem PV.le(x:PV h t f L k)(l:h.Le h'):PV h' t f L k:=λi hi=>(x i hi).le l
theorem PV.store(x:PV h t f L k)(hr:h r=some (p,.cells c t' g))(ne:t'≠t)(ho:∀b,b≠r->h' b=h b):PV h' t f L k:=λi hi=>(x i hi).store hr ne ho
theorem PV.next(x:PV h t f L k)(y:CF h t w (L k)):PV h t (λi=>if i=k then w else f i) L (k+1):=λi hi=>by
 show CF h t (if i=k then w else f i) (L i);by_cases e:i=k
 ·rw [if_pos e,e];exact y
 ·rw [if_neg e];exact x i aA
end
def AK.re(j:AK)(v:Value):AK:={ j with pv:=v }
def AJ.re(j:AJ)(v:Value):AJ:={ j with wv:=v }
def GU(js:List AK)(f:Nat->Value)(k:Nat):List AK:=(List.range js.length).map λi=>if i<k then (js.getD i AK.z).re (f i) else js.getD i AK.z
def HG(ns:List AJ)(f:Nat->Value)(k:Nat):List AJ:=(List.range ns.length).map λi=>if i<k then (ns.getD i AJ.z).re (f i) else ns.getD i AJ.z
section
variable {V:Type} {z:V} {l:List V} {F:Nat->V->V} {k:Nat}
def reL(z:V)(l:List V)(F:Nat->V->V)(k:Nat):List V:=(List.range l.length).map λi=>if i<k then F i (l.getD i z) else l.getD i z
theorem KP:(reL z l F k).length=l.length:=by unfold reL;rw [List.length_map,List.length_range]
theorem Gz{i:Nat}(hi:i<l.length):(reL z l F k).getD i z=if i<k then F i (l.getD i z) else l.getD i z:=by
 unfold reL;rw [List.getD_eq_getElem?_getD,List.getElem?_map,List.getElem?_range hi];rfl
theorem Tv{i:Nat}(hi:i<(reL z l F k).length):(reL z l F k)[i]=if i<k then F i (l.getD i z) else l.getD i z:=by
 have e:=Gz (z:=z) (F:=F) (k:=k) (show i<l.length by rw [<-KP (z:=z) (F:=F) (k:=k)];exact hi);rw [List.getD_eq_getElem?_getD,List.getElem?_eq_getElem hi] at e;exact e
theorem reL_0:reL z l F 0=l:=by
 refine List.ext_getElem KP λi h1 h2=>?_;rw [Tv,if_neg (Nat.not_lt_zero _),List.getD_eq_getElem?_getD,List.getElem?_eq_getElem h2];rfl
theorem Yi{G:Nat->V->V}(hk:k<l.length)(hG:∀i,i<k->∀x,G i x=F i x):(reL z l F k).set k (G k ((reL z l F k).getD k z))=reL z l G (k+1):=by
 rw [Gz hk,if_neg (Nat.lt_irrefl _)];refine List.ext_getElem (by rw [List.length_set,KP,KP]) λi h1 h2=>?_;rw [List.getElem_set,Tv];by_cases e:k=i
 ·subst e;rw [if_pos rfl,Tv,if_pos aA]
 ·rw [if_neg e,Tv];by_cases e2:i<k
  ·rw [if_pos e2,if_pos aA,hG i e2]
  ·rw [if_neg e2,if_neg aA]
end
section
variable {h:GH} {t:TypeId} {f:Nat->Value} {js:List AK} {ns:List AJ} {k:Nat} {w:Value}
theorem Mr:GU js f k=reL AK.z js (λi j=>j.re (f i)) k:=rfl
theorem Ms:HG ns f k=reL AJ.z ns (λi j=>j.re (f i)) k:=rfl
theorem Fg(js:List AK)(f:Nat->Value)(k:Nat):(GU js f k).length=js.length:=by rw [Mr];exact KP
theorem G0(ns:List AJ)(f:Nat->Value)(k:Nat):(HG ns f k).length=ns.length:=by rw [Ms];exact KP
theorem reJ_0:GU js f 0=js:=by rw [Mr];exact reL_0
theorem reN_0:HG ns f 0=ns:=by rw [Ms];exact reL_0
theorem reJ_put(hk:k<js.length):(GU js f k).set k (((GU js f k).getD k AK.z).re w)=GU js (λi=>if i=k then w else f i) (k+1):=by
 have:=Yi (z:=AK.z) (l:=js) (F:=λi j=>j.re (f i)) (G:=λi j=>j.re (if i=k then w else f i)) hk (λi hi x=>by rw [if_neg aA])
 rw [if_pos rfl] at this;exact this
theorem reN_put(hk:k<ns.length):(HG ns f k).set k (((HG ns f k).getD k AJ.z).re w)=HG ns (λi=>if i=k then w else f i) (k+1):=by
 have:=Yi (z:=AJ.z) (l:=ns) (F:=λi j=>j.re (f i)) (G:=λi j=>j.re (if i=k then w else f i)) hk (λi hi x=>by rw [if_neg aA])
 rw [if_pos rfl] at this;exact this
theorem SQ(js:List AK)(f:Nat->Value)(k i:Nat):((GU js f k).getD i AK.z).parts=(js.getD i AK.z).parts:=by
 by_cases hi:i<js.length
 ·rw [Mr,Gz hi];split <;> rfl
 ·rw [Bt (by rw [Fg];omega),Bt aA]
theorem VE(ns:List AJ)(f:Nat->Value)(k i:Nat):((HG ns f k).getD i AJ.z).ways=(ns.getD i AJ.z).ways:=by
 by_cases hi:i<ns.length
 ·rw [Ms,Gz hi];split <;> rfl
 ·rw [Bt (by rw [G0];omega),Bt aA]
theorem Bn.re(x:Bn h js)(y:PV h t f (λi=>(js.getD i AK.z).parts) k):Bn h (GU js f k):=λi=>by
 by_cases hi:i<js.length
 ·rw [Mr,Gz hi];by_cases e:i<k
  ·rw [if_pos e];exact (y i e).1
  ·rw [if_neg e];exact x i
 ·rw [Bt (by rw [Fg];omega)];exact AH.nil _ _ _
theorem Ag.re(x:Ag h ns)(y:PV h t f (λi=>(ns.getD i AJ.z).ways) k):Ag h (HG ns f k):=λi=>by
 by_cases hi:i<ns.length
 ·rw [Ms,Gz hi];by_cases e:i<k
  ·rw [if_pos e];exact (y i e).1
  ·rw [if_neg e];exact x i
 ·rw [Bt (by rw [G0];omega)];exact AH.nil _ _ _
def BV(h:GH)(t:TypeId)(js:List AK):Prop:=∀k,CF h t (js.getD k AK.z).pv (js.getD k AK.z).parts
def BY(h:GH)(t:TypeId)(ns:List AJ):Prop:=∀k,CF h t (ns.getD k AJ.z).wv (ns.getD k AJ.z).ways
theorem BV.jobs(x:BV h t js):Bn h js:=λk=>(x k).1
theorem BY.notes(x:BY h t ns):Ag h ns:=λk=>(x k).1
theorem BV.le{h':GH}(x:BV h t js)(l:h.Le h'):BV h' t js:=λk=>(x k).le l
theorem BY.le{h':GH}(x:BY h t ns)(l:h.Le h'):BY h' t ns:=λk=>(x k).le l
theorem BV.store{h':GH}{t':TypeId}{r:Nat}{p:Bool}{c:Array Value}{g:Nat×Nat}(x:BV h t js)(hr:h r=some (p,.cells c t' g))(ne:t'≠t)(ho:∀b,b≠r->h' b=h b):BV h' t js:=λk=>(x k).store hr ne ho
theorem BY.store{h':GH}{t':TypeId}{r:Nat}{p:Bool}{c:Array Value}{g:Nat×Nat}(x:BY h t ns)(hr:h r=some (p,.cells c t' g))(ne:t'≠t)(ho:∀b,b≠r->h' b=h b):BY h' t ns:=λk=>(x k).store hr ne ho
theorem BV.of(y:PV h t f (λi=>(js.getD i AK.z).parts) k)(hk:js.length<=k):BV h t (GU js f k):=λi=>by
 by_cases hi:i<js.length
 ·rw [Mr,Gz hi,if_pos aA];exact y i aA
 ·rw [Bt (by rw [Fg];omega)];exact CF.nil _ _
theorem BY.of(y:PV h t f (λi=>(ns.getD i AJ.z).ways) k)(hk:ns.length<=k):BY h t (HG ns f k):=λi=>by
 by_cases hi:i<ns.length
 ·rw [Ms,Gz hi,if_pos aA];exact y i aA
 ·rw [Bt (by rw [G0];omega)];exact CF.nil _ _
theorem Bn.fine1(x:Bn h js)(k:Nat):(Cq (js.getD k AK.z)).toList.all (·.oneCell')=true:=by
 show (true && (true && (true && (true && (((js.getD k AK.z).pv.oneCell') && true)))))=true;rw [(AH.one (x k)).2];rfl
theorem Bn.fine(x:Bn h js):∀y ∈ js,(Cq y).toList.all (·.oneCell')=true:=λy hy=>by
 obtain ⟨i,hi,e⟩:=List.mem_iff_getElem.1 hy
 have:=x.fine1 i
 rw [List.getD_eq_getElem?_getD,List.getElem?_eq_getElem hi] at this;rw [<-e];exact this
theorem Ag.snoc{x:AJ}(a:Ag h ns)(b:AH h x.wv 1 eI x.ways):Ag h (ns++[x]):=λk=>by
 rw [Lu];split
 ·exact a k
 ·cases hk:k-ns.length with
  | zero=>exact b
  | succ n=>rw [Bt aD];exact AH.nil _ _ _
end
theorem BO.copy{bag kinds:Int}{ps:List ByteArray}{ws:List AA}{js:List AK}{ns:List AJ}(b:BO bag kinds ps ws js ns):(∀i,(js.getD i AK.z).parts.length<=1000)/\∀i,(ns.getD i AJ.z).ways.length<=1000:=by
 refine ⟨λi=>?_,λi=>Nat.le_trans (PQ b.note i).1 aC⟩;by_cases hi:i<js.length
 ·have:=(PM (b.job i hi)).len
  have:=b.hkin
  omega
 ·rw [Bt aA];exact Nat.zero_le _
end Go.Ns
namespace Go.Ns
section
variable {P:Program} {E:GV P} {O:Nat->Value} {ds:List Deferred} {h:GH} {T:(Nat->Value)->List Deferred->GH->Prop} {dst:Option Nat} {ty:TypeId} {pos:String} {af:Array Edge} {gd:Option (Nat×Bool)}
theorem Wo{s:ByteArray}{i:Nat}(h:i<s.size):((s[i]'h).toNat:Int)=(bytesOf s).getD i 0:=by
 have h2:i<(bytesOf s).length:=by rw [C6];exact h
 rw [Cy 0 h2];exact (List.getElem_map (l:=s.data.toList) (f:=λb=>(b.toNat:Int)) (h:=h2)).symm
theorem Pr{t:TypeId}{x ix:Operand}{s:ByteArray}{kd:IntKind}{i:Int}(ht:Oe P t=true)(hx:AO O x=.string s)(hi:AO O ix=.int kd i)(h0:0<=i)(h1:i<s.size)(k:T (putS O dst (.int .u8 ((bytesOf s).getD i.toNat 0))) ds h) :
  BU E ⟨dst,.index t x ix,ty,pos,af,gd⟩ O ds h T:=Rs ht hx hi h0 h1 (by rw [Wo];exact k)
end
theorem VF{s:ByteArray}(h:¬(1<=(s.size:Int)/\(s.size:Int)<=10)):Es s=false:=by unfold Es;rw [decide_eq_false h,Bool.and_false]
theorem VG{a b:List UInt8}{v:Bool}(h:(a==b)=v):(b==a)=v:=by rw [<-h];exact BEq.comm
def HK(l:List Int)(k:Nat)(p q:Int):List Int:=if p=l.getD k 0/\¬q ∈ l then l++[q] else l
def Co(l:List Int)(k:Nat)(x:AA):List Int:=HK (HK l k x.a x.b) k x.b x.a
def Af(ws:List AA)(l:List Int)(k:Nat):Nat->List Int
 | 0=>l
 | j+1=>Co (Af ws l k j) k (ws.getD j AA.z)
def Aq(ws:List AA):Nat->List Int
 | 0=>[0]
 | k+1=>if k<(Aq ws k).length then Af ws (Aq ws k) k ws.length else Aq ws k
def C0(ws:List AA):List Int:=Aq ws 4
def HC(np:Nat)(l:List Int):Prop:=l.Nodup/\(∀x ∈ l,0<=x/\x<np)/\0<l.length
def LE(np:Nat)(ws:List AA):Prop:=∀k,k<ws.length->(0<=(ws.getD k AA.z).a/\(ws.getD k AA.z).a<np)/\0<=(ws.getD k AA.z).b/\(ws.getD k AA.z).b<np
section
variable {np:Nat} {l:List Int} {ws:List AA} {k j:Nat} {x:Int} {w:AA}
theorem HC.len(h:HC np l):l.length<=np:=by
 refine Tk np l.length (λk=>(l.getD k 0).toNat) (λi hi=>?_) λi j hij hj=>?_
 ·have:=h.2.1 _ (Bc (d:=(0:Int)) hi)
  show (l.getD i 0).toNat<np;omega
 ·have h1:=h.2.1 _ (Bc (d:=(0:Int)) hj);have h2:=h.2.1 _ (Bc (d:=(0:Int)) (show i<l.length by omega));show (l.getD i 0).toNat≠(l.getD j 0).toNat;intro e;have e2:l.getD i 0=l.getD j 0:=aA
  rw [List.getD_eq_getElem?_getD,List.getD_eq_getElem?_getD,List.getElem?_eq_getElem aA,List.getElem?_eq_getElem hj,Option.getD_some,Option.getD_some] at e2
  have:=(List.pairwise_iff_getElem.1 (List.nodup_iff_pairwise_ne.1 h.1)) i j aA hj hij
  exact this e2
theorem HC.snoc(h:HC np l)(hx:0<=x/\x<np)(n:¬x ∈ l):HC np (l++[x]):=
 ⟨List.nodup_append.2 ⟨h.1,aD,λa ha b hb e=>by rw [List.mem_singleton.1 hb] at e;exact n (e▸ha)⟩,λy hy=>by
  rcases List.mem_append.1 hy with hy | hy
  ·exact h.2.1 y hy
  ·rw [List.mem_singleton.1 hy];exact hx,aD⟩
theorem L2{p q:Int}(h1:p=l.getD k 0)(h2:¬q ∈ l):HK l k p q=l++[q]:=if_pos ⟨h1,h2⟩
theorem L3{p q:Int}(h:¬(p=l.getD k 0/\¬q ∈ l)):HK l k p q=l:=if_neg h
theorem rs_tt(h1:w.a=l.getD k 0/\¬w.b ∈ l)(h2:w.b=(l++[w.b]).getD k 0/\¬w.a ∈ l++[w.b]):Co l k w=l++[w.b]++[w.a]:=by unfold Co;rw [L2 h1.1 h1.2,L2 h2.1 h2.2]
theorem rs_tf(h1:w.a=l.getD k 0/\¬w.b ∈ l)(h2:¬(w.b=(l++[w.b]).getD k 0/\¬w.a ∈ l++[w.b])):Co l k w=l++[w.b]:=by unfold Co;rw [L2 h1.1 h1.2,L3 h2]
theorem rs_ft(h1:¬(w.a=l.getD k 0/\¬w.b ∈ l))(h2:w.b=l.getD k 0/\¬w.a ∈ l):Co l k w=l++[w.a]:=by unfold Co;rw [L3 h1,L2 h2.1 h2.2]
theorem rs_ff(h1:¬(w.a=l.getD k 0/\¬w.b ∈ l))(h2:¬(w.b=l.getD k 0/\¬w.a ∈ l)):Co l k w=l:=by unfold Co;rw [L3 h1,L3 h2]
theorem SR{p q:Int}(h:HC np l)(hq:0<=q/\q<np):HC np (HK l k p q):=by
 unfold HK;split
 ·rename_i c;exact h.snoc hq c.2
 ·exact h
theorem H6(l:List Int)(k:Nat)(p q:Int):l<+:HK l k p q:=by
 unfold HK;split
 ·exact List.prefix_append _ _
 ·exact List.prefix_refl _
theorem Tw(h:HC np l)(ha:0<=w.a/\w.a<np)(hb:0<=w.b/\w.b<np):HC np (Co l k w):=SR (SR h hb) ha
theorem Id(l:List Int)(k:Nat)(w:AA):l<+:Co l k w:=(H6 _ _ _ _).trans (H6 _ _ _ _)
theorem Ps{a b:List Int}(h:a<+:b)(hk:k<a.length):b.getD k 0=a.getD k 0:=by
 obtain ⟨t,rfl⟩:=h;rw [Lu,if_pos hk]
theorem JN(h:HC np l)(hw:LE np ws):∀j,j<=ws.length->HC np (Af ws l k j)
 | 0,_=>h
 | j+1,hj=>Tw (JN h hw j aA) (hw j aA).1 (hw j aA).2
theorem FY:∀j,l<+:Af ws l k j
 | 0=>List.prefix_refl _
 | j+1=>(FY j).trans (Id _ _ _)
theorem In(hn:0<np)(hw:LE np ws):∀k,HC np (Aq ws k)
 | 0=>⟨by simp [Aq],λx hx=>by rw [List.mem_singleton.1 hx];omega,Nat.zero_lt_one⟩
 | k+1=>by
  unfold Aq;split
  ·exact JN (In hn hw k) hw _ (Nat.le_refl _)
  ·exact In hn hw k
theorem J3(hk:k<(Aq ws k).length):Aq ws (k+1)=Af ws (Aq ws k) k ws.length:=if_pos hk
theorem Ny(hk:(Aq ws k).length<=k):∀m,k<=m->Aq ws m=Aq ws k
 | 0,h=>by rw [show k=0 by omega]
 | m+1,h=>by
  by_cases e:m+1=k
  ·rw [e]
  ·have ih:=Ny hk m aA
   have:Aq ws (m+1)=Aq ws m:=by
    conv=>lhs;unfold Aq
    rw [if_neg (by rw [ih];omega)]
   rw [this,ih]
theorem SS(hk:(Aq ws k).length<=k)(hk4:k<=4):C0 ws=Aq ws k:=Ny hk 4 hk4
end
def Ey(np:Nat)(ws:List AA):Int:=if (5:Int)<ws.length then 2 else if¬Cw (C8 np ws) 0 ws.length=0 then Cw (C8 np ws) 0 ws.length else if (C0 ws).length<np then 8 else 0
def DP(bag kinds:Int)(ps:List ByteArray)(ws:List AA)(js:List AK)(ns:List AJ):Int:=
 if¬GC bag kinds=0 then GC bag kinds else if¬BH ps=0 then BH ps else if¬Ey ps.length ws=0 then Ey ps.length ws else if¬B6 ps.length kinds js=0 then B6 ps.length kinds js else Cf ws.length ns
section
variable {V:Type} {p:V->Bool} {l:List V} {d:V} {k j:Nat}
theorem Mt(hk:k<l.length)(e:p (l.getD k d)=true):l.any p=true:=List.any_eq_true.2 ⟨_,Bc hk,e⟩
theorem KQ(h:(l.take k).any p=false)(hk:l.length<=k):l.any p=false:=by rwa [List.take_of_length_le hk] at h
theorem any_take(hj:j<k)(hk:k<=l.length)(e:p (l.getD j d)=true):(l.take k).any p=true:=by
 refine Mt (k:=j) (d:=d) (by rw [List.length_take];omega) ?_;rw [List.getD_eq_getElem?_getD,List.getElem?_take,if_pos hj,<-List.getD_eq_getElem?_getD];exact e
end
section
variable {np nw:Nat} {ws:List AA} {js:List AK} {ns:List AJ} {k:Nat} {kinds:Int}
theorem L4{a b:Int}(ha:0<=a/\a<=(np:Int)-1)(hb:0<=b/\b<=(np:Int)-1):B0 np [a,b]=0:=by
 have h0:Eh np [a,b] 0=0:=if_neg (λe=>e ha);have h1:Eh np [a,b] 1=0:=if_neg (λe=>e hb);show Cw (Eh np [a,b]) 0 2=0;simp [Cw,h0,h1]
theorem miss_no{a b:Int}(h:¬(0<=a/\a<=(np:Int)-1)\/¬(0<=b/\b<=(np:Int)-1)):B0 np [a,b]=6:=by
 show Cw (Eh np [a,b]) 0 2=6;by_cases ha:0<=a/\a<=(np:Int)-1
 ·have h0:Eh np [a,b] 0=0:=if_neg (λe=>e ha);have h1:Eh np [a,b] 1=6:=if_pos (h.resolve_left λe=>e ha);simp [Cw,h0,h1]
 ·have h0:Eh np [a,b] 0=6:=if_pos ha;simp [Cw,h0]
theorem Pu{a:Int}(ha:0<=a/\a<=(np:Int)-1):B0 np [a]=0:=by
 have h0:Eh np [a] 0=0:=if_neg (λe=>e ha);show Cw (Eh np [a]) 0 1=0;simp [Cw,h0]
theorem miss_no1{a:Int}(ha:¬(0<=a/\a<=(np:Int)-1)):B0 np [a]=6:=by
 have h0:Eh np [a] 0=6:=if_pos ha;show Cw (Eh np [a]) 0 1=6;simp [Cw,h0]
variable (ws k) in
def waP(np:Nat):Prop:=(0<=(ws.getD k AA.z).a/\(ws.getD k AA.z).a<=(np:Int)-1)/\(0<=(ws.getD k AA.z).b/\(ws.getD k AA.z).b<=(np:Int)-1)
theorem wy6(h:¬(0<=(ws.getD k AA.z).a/\(ws.getD k AA.z).a<=(np:Int)-1)\/¬(0<=(ws.getD k AA.z).b/\(ws.getD k AA.z).b<=(np:Int)-1)):C8 np ws k=6:=by
 unfold C8;rw [miss_no h,if_pos aC]
theorem wyP(h:¬(¬(0<=(ws.getD k AA.z).a/\(ws.getD k AA.z).a<=(np:Int)-1)\/¬(0<=(ws.getD k AA.z).b/\(ws.getD k AA.z).b<=(np:Int)-1))):waP ws k np:=⟨Decidable.byContradiction λe=>h (.inl e),Decidable.byContradiction λe=>h (.inr e)⟩
theorem wy7(h:waP ws k np)(h2:(ws.getD k AA.z).b<=(ws.getD k AA.z).a):C8 np ws k=7:=by
 unfold C8;rw [L4 h.1 h.2,if_neg aD,if_pos h2]
theorem wy5(h:waP ws k np)(h2:¬(ws.getD k AA.z).b<=(ws.getD k AA.z).a)(h3:(ws.take k).any (λy=>decide (y.a=(ws.getD k AA.z).a/\y.b=(ws.getD k AA.z).b))=true):C8 np ws k=5:=by
 unfold C8;rw [L4 h.1 h.2,if_neg aD,if_neg h2,if_pos h3]
theorem wy1(h:waP ws k np)(h2:¬(ws.getD k AA.z).b<=(ws.getD k AA.z).a)(h3:(ws.take k).any (λy=>decide (y.a=(ws.getD k AA.z).a/\y.b=(ws.getD k AA.z).b))=false)(h4:¬(((0<=(ws.getD k AA.z).low/\(ws.getD k AA.z).low<=(ws.getD k AA.z).high)/\(ws.getD k AA.z).high<=30)/\(ws.getD k AA.z).high-(ws.getD k AA.z).low<2)):C8 np ws k=1:=by
 unfold C8;rw [L4 h.1 h.2,if_neg aD,if_neg h2,if_neg (by rw [h3];simp)];exact if_pos h4
theorem wy0(h:waP ws k np)(h2:¬(ws.getD k AA.z).b<=(ws.getD k AA.z).a)(h3:(ws.take k).any (λy=>decide (y.a=(ws.getD k AA.z).a/\y.b=(ws.getD k AA.z).b))=false)(h4:(((0<=(ws.getD k AA.z).low/\(ws.getD k AA.z).low<=(ws.getD k AA.z).high)/\(ws.getD k AA.z).high<=30)/\(ws.getD k AA.z).high-(ws.getD k AA.z).low<2)):C8 np ws k=0:=by
 unfold C8;rw [L4 h.1 h.2,if_neg aD,if_neg h2,if_neg (by rw [h3];simp)];exact if_neg (λe=>e h4)
theorem Wp(h:∀k,k<ws.length->C8 np ws k=0):LE np ws:=λk hk=>by
 have:=h k hk
 unfold C8 at this;split at this
 ·rename_i a;exact absurd this a
 ·rename_i a
  have q:=FW (Decidable.not_not.1 a);have q1:=q _ List.mem_cons_self;have q2:=q _ (List.mem_cons_of_mem _ List.mem_cons_self);omega
theorem rw2(h:(5:Int)<ws.length):Ey np ws=2:=if_pos h
theorem Tx{c:Int}(h5:¬(5:Int)<ws.length)(hs:∀j,j<k->C8 np ws j=0)(hk:k<ws.length)(e:C8 np ws k=c)(hc:c≠0):Ey np ws=c:=by
 have h1:=BJ hs hk e hc;rw [Ey,if_neg h5,h1,if_pos hc]
theorem rw8(h5:¬(5:Int)<ws.length)(hs:∀j,j<k->C8 np ws j=0)(hk:ws.length<=k)(h:((C0 ws).length:Int)<np):Ey np ws=8:=by
 rw [Ey,if_neg h5,Bm hs hk,if_neg aD,if_pos aA]
theorem rw0(h5:¬(5:Int)<ws.length)(hs:∀j,j<k->C8 np ws j=0)(hk:ws.length<=k)(h:¬((C0 ws).length:Int)<np):Ey np ws=0:=by
 rw [Ey,if_neg h5,Bm hs hk,if_neg aD,if_neg aA]
theorem jb6(h:¬(0<=(js.getD k AK.z).place/\(js.getD k AK.z).place<=(np:Int)-1)):FV np kinds js k=6:=by
 unfold FV;rw [miss_no1 h,if_pos aC]
theorem jb1(h:0<=(js.getD k AK.z).place/\(js.getD k AK.z).place<=(np:Int)-1)(h2:¬(((0<=(js.getD k AK.z).low/\(js.getD k AK.z).low<=(js.getD k AK.z).high)/\(js.getD k AK.z).high<=30)/\(js.getD k AK.z).high-(js.getD k AK.z).low<2)\/¬(0<=(js.getD k AK.z).due/\(js.getD k AK.z).due<=200)):FV np kinds js k=1:=by
 unfold FV;rw [Pu h,if_neg aD];exact if_pos h2
theorem jb2(h:0<=(js.getD k AK.z).place/\(js.getD k AK.z).place<=(np:Int)-1)(h2:¬(¬(((0<=(js.getD k AK.z).low/\(js.getD k AK.z).low<=(js.getD k AK.z).high)/\(js.getD k AK.z).high<=30)/\(js.getD k AK.z).high-(js.getD k AK.z).low<2)\/¬(0<=(js.getD k AK.z).due/\(js.getD k AK.z).due<=200)))(h3:¬((js.getD k AK.z).parts.length:Int)=kinds):FV np kinds js k=2:=by
 unfold FV;rw [Pu h,if_neg aD];exact (if_neg h2).trans (if_pos h3)
theorem jb3(h:0<=(js.getD k AK.z).place/\(js.getD k AK.z).place<=(np:Int)-1)(h2:¬(¬(((0<=(js.getD k AK.z).low/\(js.getD k AK.z).low<=(js.getD k AK.z).high)/\(js.getD k AK.z).high<=30)/\(js.getD k AK.z).high-(js.getD k AK.z).low<2)\/¬(0<=(js.getD k AK.z).due/\(js.getD k AK.z).due<=200)))(h3:((js.getD k AK.z).parts.length:Int)=kinds):FV np kinds js k=if (js.getD k AK.z).parts.any (λn=>decide (¬(0<=n/\n<=5))) then 1 else 0:=by
 unfold FV;rw [Pu h,if_neg aD];exact (if_neg h2).trans (if_neg (λe=>e h3))
theorem nt2(h:(5:Int)<(ns.getD k AJ.z).ways.length):Dp nw ns k=2:=if_pos h
theorem nt6(h:¬(5:Int)<(ns.getD k AJ.z).ways.length)(h2:(ns.getD k AJ.z).ways.any (λn=>decide (¬(0<=n/\n<=(nw:Int)-1)))=true):Dp nw ns k=6:=by
 unfold Dp;rw [if_neg h,if_pos h2]
theorem nt1(h:¬(5:Int)<(ns.getD k AJ.z).ways.length)(h2:(ns.getD k AJ.z).ways.any (λn=>decide (¬(0<=n/\n<=(nw:Int)-1)))=false)(h3:¬((0<=(ns.getD k AJ.z).low/\(ns.getD k AJ.z).low<=(ns.getD k AJ.z).high)/\(ns.getD k AJ.z).high<=200)):Dp nw ns k=1:=by
 unfold Dp;rw [if_neg h,if_neg (by rw [h2];simp),if_pos (λe=>h3 e.1)]
theorem nt0(h:¬(5:Int)<(ns.getD k AJ.z).ways.length)(h2:(ns.getD k AJ.z).ways.any (λn=>decide (¬(0<=n/\n<=(nw:Int)-1)))=false)(h3:(0<=(ns.getD k AJ.z).low/\(ns.getD k AJ.z).low<=(ns.getD k AJ.z).high)/\(ns.getD k AJ.z).high<=200):Dp nw ns k=0:=by
 unfold Dp;rw [if_neg h,if_neg (by rw [h2];simp),if_neg (λe=>e ⟨h3,aA⟩)]
end
section
variable {ps:List ByteArray} {k:Nat} {a b:List (Int×Int)}
theorem pa4(h:Es (ps.getD k (⟨#[]⟩:ByteArray))=false):FA ps k=4:=by unfold FA;rw [if_pos h]
theorem pa5(h:Es (ps.getD k (⟨#[]⟩:ByteArray))=true)(h2:0<=idxOf (λx=>(ps.getD k (⟨#[]⟩:ByteArray)).toList==x.toList) (ps.take k)):FA ps k=5:=by
 unfold FA;rw [if_neg (by rw [h];simp),if_pos ((E8 _ _).1 h2)]
theorem pa0(h:Es (ps.getD k (⟨#[]⟩:ByteArray))=true)(h2:¬0<=idxOf (λx=>(ps.getD k (⟨#[]⟩:ByteArray)).toList==x.toList) (ps.take k)):FA ps k=0:=by
 unfold FA;rw [if_neg (by rw [h];simp),if_neg λe=>h2 ((E8 _ _).2 e)]
theorem RW(hs:a.take k=b.take k)(hk:k<=a.length)(h:¬(k:Int)<a.length)(hl:(a.length:Int)=b.length):a=b:=by
 rw [List.take_of_length_le aA,List.take_of_length_le aA] at hs;exact hs
theorem eq_getDP{k:Nat}(h:((a.getD k (0,0)).1==(b.getD k (0,0)).1 && ((a.getD k (0,0)).2==(b.getD k (0,0)).2 && true))=true):a.getD k (0,0)=b.getD k (0,0):=by
 simp only [Bool.and_true,Bool.and_eq_true,beq_iff_eq] at h;exact Prod.ext h.1 h.2
theorem ne_getDP{k:Nat}(h:(!((a.getD k (0,0)).1==(b.getD k (0,0)).1 && ((a.getD k (0,0)).2==(b.getD k (0,0)).2 && true)))=true):¬a=b:=λe=>by rw [e] at h;simp at h
end
section
variable (bag kinds:Int) (ps:List ByteArray) (ws:List AA) (js:List AK) (ns:List AJ)
def EJ:Bool:=decide ((((20:Int)<ps.length\/(20:Int)<ws.length)\/(20:Int)<js.length)\/(20:Int)<ns.length) || ps.any (λs=>decide ((100:Int)<s.size)) || js.any (λj=>decide ((20:Int)<j.parts.length)) || ns.any λn=>decide ((20:Int)<n.ways.length)
def Tz:Bool:= !EJ ps ws js ns && decide (DP bag kinds ps ws js ns=0)
end
section
variable {ps:List ByteArray} {ws:List AA} {js:List AK} {ns:List AJ} {k:Nat}
theorem L5(h:EJ ps ws js ns=false)(k:Nat):(ps.getD k (⟨#[]⟩:ByteArray)).size<=1000:=by
 unfold EJ at h;simp only [Bool.or_eq_false_iff] at h;by_cases hk:k<ps.length
 ·have:=List.any_eq_false.1 h.1.1.2 _ (Bc (d:=(⟨#[]⟩:ByteArray)) hk)
  have:=of_decide_eq_false (Bool.eq_false_iff.2 this)
  omega
 ·rw [Bt aA];decide
end
section
variable {bag kinds:Int} {ps:List ByteArray} {ws:List AA} {js:List AK} {ns:List AJ}
theorem H7(h:BH ps=0):0<ps.length/\ps.length<=4:=by
 unfold BH at h;split at h
 ·cases h
 ·omega
theorem rc1(h:¬(0<=bag/\bag<=9)\/¬(0<=kinds/\kinds<=3)):DP bag kinds ps ws js ns=1:=by
 have e:GC bag kinds=1:=if_pos h;unfold DP;rw [e,if_pos aC]
theorem tb0(h:¬(¬(0<=bag/\bag<=9)\/¬(0<=kinds/\kinds<=3))):GC bag kinds=0:=if_neg h
theorem rc2(h0:¬(¬(0<=bag/\bag<=9)\/¬(0<=kinds/\kinds<=3)))(h:¬BH ps=0):DP bag kinds ps ws js ns=BH ps:=by unfold DP;rw [tb0 h0,if_neg aD,if_pos h]
theorem rc3(h0:¬(¬(0<=bag/\bag<=9)\/¬(0<=kinds/\kinds<=3)))(h1:¬¬BH ps=0)(h:¬Ey ps.length ws=0):DP bag kinds ps ws js ns=Ey ps.length ws:=by unfold DP;rw [tb0 h0,if_neg aD,if_neg h1,if_pos h]
theorem rc4(h0:¬(¬(0<=bag/\bag<=9)\/¬(0<=kinds/\kinds<=3)))(h1:¬¬BH ps=0)(h2:¬¬Ey ps.length ws=0)(h:¬B6 ps.length kinds js=0):DP bag kinds ps ws js ns=B6 ps.length kinds js:=by unfold DP;rw [tb0 h0,if_neg aD,if_neg h1,if_neg h2,if_pos h]
theorem rc5(h0:¬(¬(0<=bag/\bag<=9)\/¬(0<=kinds/\kinds<=3)))(h1:¬¬BH ps=0)(h2:¬¬Ey ps.length ws=0)(h:¬¬B6 ps.length kinds js=0):DP bag kinds ps ws js ns=Cf ws.length ns:=by unfold DP;rw [tb0 h0,if_neg aD,if_neg h1,if_neg h2,if_neg h]
theorem gr_len(h:(((20:Int)<ps.length\/(20:Int)<ws.length)\/(20:Int)<js.length)\/(20:Int)<ns.length):EJ ps ws js ns=true:=by unfold EJ;rw [decide_eq_true h];rfl
theorem gr_p(h:ps.any (λs=>decide ((100:Int)<s.size))=true):EJ ps ws js ns=true:=by unfold EJ;rw [h];simp
theorem gr_j(h:js.any (λj=>decide ((20:Int)<j.parts.length))=true):EJ ps ws js ns=true:=by unfold EJ;rw [h];simp
theorem gr_n(h:ns.any (λn=>decide ((20:Int)<n.ways.length))=true):EJ ps ws js ns=true:=by unfold EJ;rw [h];simp
theorem gr_0(h:¬((((20:Int)<ps.length\/(20:Int)<ws.length)\/(20:Int)<js.length)\/(20:Int)<ns.length))(h1:ps.any (λs=>decide ((100:Int)<s.size))=false)(h2:js.any (λj=>decide ((20:Int)<j.parts.length))=false)(h3:ns.any (λn=>decide ((20:Int)<n.ways.length))=false):EJ ps ws js ns=false:=by
 unfold EJ;rw [decide_eq_false h,h1,h2,h3];rfl
end
end Go.Ns
namespace Go.Ns
def C2:List ByteArray:=[⟨#[119,111,114,107,115]⟩,⟨#[97,121,114]⟩,⟨#[98,117,116,101]⟩]
theorem DE:∀k,(C2.getD k (⟨#[]⟩:ByteArray)).size<=1000
 | 0=>aC
 | 1=>aC
 | 2=>aC
 | k+3=>by rw [Bt (by simp [C2])];decide
def Cx:List AA:=[⟨0,1,2,3⟩,⟨1,2,4,4⟩,⟨0,2,5,5⟩]
def CT(a b c:Value):List AK:=[⟨1,1,1,5,a,[2]⟩,⟨2,1,2,12,b,[1]⟩,⟨0,1,1,20,c,[1]⟩]
theorem BV.ex{h:GH}{t:TypeId}{a b c:Value}(x:CF h t a [2])(y:CF h t b [1])(z:CF h t c [1]):BV h t (CT a b c):=λk=>by
 match k with
 | 0=>exact x
 | 1=>exact y
 | 2=>exact z
 | k+3=>rw [Bt (by show 3<=_;omega)];exact CF.nil _ _
theorem AH.isSl{V:Type}{h:GH}{v:Value}{n:Nat}{enc:V->Array Value}{xs:List V}(x:AH h v n enc xs):∀k i,v≠.int k i:=by
 obtain ⟨a,cap,rfl,_⟩:=x;intro k i e;cases e
theorem AH.across9{h h':GH}{v:Value}{xs:List Int}{r:Nat}{a b c d:Value}{T:TypeId}(x:AH h v 1 eI xs)(hb:h r=some (true,.cells #[.int .i64 3,.int .i64 1,a,b,c,d] T (0,0)))(ho:∀y,y≠r->h' y=h y)
  (ha:∀k i,a≠.int k i) (hb':∀k i,b≠.int k i) (hc:∀k i,c≠.int k i) (hd:∀k i,d≠.int k i) (hx:∀o,o<6->∃i:Fin xs.length,(o+i.val=0->xs[i.val]≠3)/\(o+i.val=1->xs[i.val]≠1)):AH h' v 1 eI xs:=by
 obtain ⟨ad,cap,hv,hcap,hm,he⟩:=x;refine ⟨ad,cap,hv,hcap,hm,λi hi=>?_⟩;obtain ⟨y,off,h1,h2⟩:=he i hi;refine ⟨y,off,h1,h2.same (ho y ?_)⟩;rintro rfl;have key:∀j (hj:j<xs.length),off+j<6/\(#[Value.int .i64 3,.int .i64 1,a,b,c,d]:Array Value).extract (off+j) (off+j+1)=eI xs[j]:=λj hj=>by
  obtain ⟨y2,off2,h3,h4⟩:=he j hj;rw [h1] at h3;simp only [Option.some.injEq,Addr.mk.injEq,and_true] at h3;obtain ⟨rfl,rfl⟩:=h3;obtain ⟨p,cc,t,f,q1,q2,q3⟩:=h4;rw [hb] at q1;simp only [Option.some.injEq,Prod.mk.injEq,Obj.cells.injEq] at q1;obtain ⟨_,rfl,_⟩:=q1;rw [Nat.mul_one] at q2 q3;exact ⟨by simp at q2;omega,q3⟩
 obtain ⟨⟨j,hj⟩,e0,e1⟩:=hx off (by have:=(key i hi).1;omega);obtain ⟨k1,k2⟩:=key j hj;simp only at e0 e1;generalize off+j=o at k1 k2 e0 e1;generalize xs[j]=z at k2 e0 e1
 have:o=0\/o=1\/o=2\/o=3\/o=4\/o=5:=aA
 rcases this with rfl | rfl | rfl | rfl | rfl | rfl
 ·have k3:(#[.int .i64 3]:Array Value)=#[.int .i64 z]:=k2;simp at k3;exact e0 rfl k3.symm
 ·have k3:(#[.int .i64 1]:Array Value)=#[.int .i64 z]:=k2;simp at k3;exact e1 rfl k3.symm
 ·have k3:(#[a]:Array Value)=#[.int .i64 z]:=k2;simp at k3;exact ha _ _ k3
 ·have k3:(#[b]:Array Value)=#[.int .i64 z]:=k2;simp at k3;exact hb' _ _ k3
 ·have k3:(#[c]:Array Value)=#[.int .i64 z]:=k2;simp at k3;exact hc _ _ k3
 ·have k3:(#[d]:Array Value)=#[.int .i64 z]:=k2;simp at k3;exact hd _ _ k3
end Go.Ns
namespace Go.Ns
section
variable {m:FN} {b np i k n:Nat}
end
section
variable {p:AF} {ws:List AA} {np:Nat}
end
end Go.Ns
namespace Go.Ns
section
variable {ws:List AA} {c:GR} {x:AA} {i n k np:Nat}
theorem J4(h:c i=true):D6 c x i=true:=by
 unfold D6 GR.set;by_cases e:i=x.b.toNat
 ·rw [if_pos e];by_cases e2:x.b.toNat=x.a.toNat
  ·rw [if_pos e2];rw [e,e2] at h;rw [h];simp
  ·rw [if_neg e2,<-e,h];simp
 ·rw [if_neg e];by_cases e2:i=x.a.toNat
  ·rw [if_pos e2,<-e2,h];simp
  ·rw [if_neg e2];exact h
theorem VH(h:c x.a.toNat=true\/c x.b.toNat=true):D6 c x x.a.toNat=true/\D6 c x x.b.toNat=true:=by
 unfold D6 GR.set;rcases h with h | h
 ·constructor
  ·by_cases e:x.a.toNat=x.b.toNat
   ·rw [if_pos e];simp [h]
   ·rw [if_neg e];simp [h]
  ·rw [if_pos rfl];simp [h]
 ·constructor
  ·by_cases e:x.a.toNat=x.b.toNat
   ·rw [if_pos e];simp [h]
   ·rw [if_neg e];simp [h]
  ·rw [if_pos rfl];simp [h]
theorem He:∀(l:List AA)(c:GR),c i=true->l.foldl D6 c i=true
 | [],_,h=>h
 | x ::l,c,h=>He l _ (J4 h)
theorem JO:∀(l:List AA)(c:GR),x ∈ l->(c x.a.toNat=true\/c x.b.toNat=true)->l.foldl D6 c x.a.toNat=true/\l.foldl D6 c x.b.toNat=true
 | y ::l,c,hx,h=>by
  rcases List.mem_cons.1 hx with e | hx
  ·subst e;have b:=VH h;exact ⟨He l _ b.1,He l _ b.2⟩
  ·exact JO l _ hx (h.imp J4 J4)
theorem J5:∀n (c:GR),Di ws (n+1) c=G8 ws (Di ws n c)
 | 0,_=>rfl
 | n+1,c=>J5 n (G8 ws c)
theorem Mu{m:Nat}(h:Di ws n c i=true):∀d,m=n+d->Di ws m c i=true
 | 0,e=>by rw [e];exact h
 | d+1,e=>by
  rw [e,show n+(d+1)=(n+d)+1 by omega,J5];exact He ws _ (Mu h d rfl)
def c0:GR:=GR.none.set 0 true
def Io(ws:List AA)(l:List Int):Prop:=∀i,i<l.length->Di ws i c0 (l.getD i 0).toNat=true
theorem Io.snoc{l:List Int}{q:Int}(h:Io ws l)(hq:Di ws l.length c0 q.toNat=true):Io ws (l++[q]):=λi hi=>by
 rw [List.length_append,List.length_singleton] at hi;rw [Lu];by_cases e:i<l.length
 ·rw [if_pos e];exact h i e
 ·rw [if_neg e,show i=l.length by omega,Nat.sub_self];exact hq
theorem Io.step{l:List Int}(h:Io ws l)(hk:k<l.length)(hx:x ∈ ws):Io ws (Co l k x):=by
 have one:∀{l:List Int}{p q:Int},Io ws l->k<l.length->(x.a=p/\x.b=q\/x.b=p/\x.a=q)->Io ws (HK l k p q):=by
  intro l p q h hk hpq;unfold HK;split
  ·rename_i e
   have f:=h k hk;rw [<-e.1] at f;have g:Di ws (k+1) c0 q.toNat=true:=by
    rw [J5];rcases hpq with ⟨rfl,rfl⟩ | ⟨rfl,rfl⟩
    ·exact (JO ws _ hx (.inl f)).2
    ·exact (JO ws _ hx (.inr f)).1
   exact h.snoc (Mu g (l.length-(k+1)) aA)
  ·exact h
 have h1:=one h hk (.inl ⟨rfl,rfl⟩);have hl:=(H6 l k x.a x.b).length_le;exact one h1 aA (.inr ⟨rfl,rfl⟩)
theorem Io.ways{l:List Int}(h:Io ws l)(hk:k<l.length):∀j,j<=ws.length->Io ws (Af ws l k j)
 | 0,_=>h
 | j+1,hj=>(Io.ways h hk j aA).step (Nat.lt_of_lt_of_le hk (FY j).length_le) (Bc aA)
theorem Mw:∀k,Io ws (Aq ws k)
 | 0=>λi hi=>by
  have:i=0:=by
   have:i<1:=hi
   omega
  subst this;rfl
 | k+1=>by
  unfold Aq;split
  ·rename_i e;exact (Mw k).ways e _ (Nat.le_refl _)
  ·exact Mw k
theorem L6(hn:0<np)(hw:LE np ws)(h:¬(C0 ws).length<np):Dv np ws=0:=by
 have ok:HC np (C0 ws):=In hn hw 4;have hl:=ok.len;have all:∀y,y<np->Di ws np c0 y=true:=λy hy=>by
  have mem:(y:Int) ∈ C0 ws:=Decidable.byContradiction λe=>by
   have:=(ok.snoc (x:=(y:Int)) ⟨aA,aA⟩ e).len
   rw [List.length_append,List.length_singleton] at this;omega
  obtain ⟨i,hi,e⟩:=List.mem_iff_getElem.1 mem;have f:Di ws i c0 ((C0 ws).getD i 0).toNat=true:=Mw (ws:=ws) 4 i hi;have e2:(C0 ws).getD i 0=(y:Int):=by
   rw [List.getD_eq_getElem?_getD,List.getElem?_eq_getElem hi];exact e
  rw [e2] at f;exact Mu f (np-i) (by have hi':i<(C0 ws).length:=hi;omega)
 unfold Dv;rw [if_neg];intro e;obtain ⟨b,hb,hf⟩:=List.any_eq_true.1 e;unfold Mf at hb;obtain ⟨y,hy,rfl⟩:=List.mem_map.1 hb
 have:Di ws np (GR.none.set 0 true) y=true:=all y (List.mem_range.1 hy)
 rw [this] at hf;cases hf
end
section
variable {bag kinds:Int} {ps:List ByteArray} {ws:List AA} {js:List AK} {ns:List AJ}
theorem Wq(hn:0<ps.length)(h:Ey ps.length ws=0):Dw ps.length ws=0:=by
 unfold Ey at h;split at h
 ·cases h
 ·rename_i a
  split at h
  ·rename_i b;exact absurd h b
  ·rename_i b
   split at h
   ·cases h
   ·rename_i c
    unfold Dw;rw [if_neg a,if_neg b];have z:=DG (Decidable.not_not.1 b);exact L6 hn (Wp λk hk=>z k (Nat.zero_le _) aA) c
theorem VI(h:DP bag kinds ps ws js ns=0):A4 bag kinds ps ws js ns=0:=by
 unfold DP at h;split at h
 ·rename_i a;exact absurd h a
 ·rename_i a
  split at h
  ·rename_i b;exact absurd h b
  ·rename_i b
   split at h
   ·rename_i c;exact absurd h c
   ·rename_i c
    split at h
    ·rename_i d;exact absurd h d
    ·rename_i d
     have h1:=Decidable.not_not.1 a;have h2:=Decidable.not_not.1 b;have h3:=Wq (H7 h2).1 (Decidable.not_not.1 c);have h4:=Decidable.not_not.1 d;unfold A4;refine Bm (k:=5) (λj hj=>?_) (Nat.le_refl _)
     match j with
     | 0=>exact h1
     | 1=>exact h2
     | 2=>exact h3
     | 3=>exact h4
     | 4=>exact h
     | j+5=>omega
theorem fit9_ok(h:Tz bag kinds ps ws js ns=true):A4 bag kinds ps ws js ns=0/\∀k,(ps.getD k (⟨#[]⟩:ByteArray)).size<=1000:=by
 unfold Tz at h;rw [Bool.and_eq_true] at h;exact ⟨VI (of_decide_eq_true h.2),L5 (by simpa using h.1)⟩
end
end Go.Ns
namespace Go.Ns
open Go.Conc
section
variable {P:Program} {E:GV P} {O:Nat->Value} {ds:List Deferred} {h:GH} {T:(Nat->Value)->List Deferred->GH->Prop} {dst:Option Nat} {ty:TypeId} {pos:String} {af:Array Edge} {gd:Option (Nat×Bool)}
end
section
variable {F G:AF->Int} {l:List AF} {x:AF}
theorem Yj(h:0<l.length):∀k,k<=l.length-1->∃x ∈ l,Us F l k=F x
 | 0,_=>⟨_,Bc h,rfl⟩
 | k+1,hk=>by
  obtain ⟨x,hx,e⟩:=Yj h k aA;rcases Int.le_total (Us F l k) (F ((l.drop 1).getD k AF.zero)) with q | q
  ·exact ⟨x,hx,(Int.min_eq_left q).trans e⟩
  ·exact ⟨_,Mh aA,Int.min_eq_right q⟩
theorem Yk(h:0<l.length):∀k,k<=l.length-1->∃x ∈ l,Ut F l k=F x
 | 0,_=>⟨_,Bc h,rfl⟩
 | k+1,hk=>by
  obtain ⟨x,hx,e⟩:=Yk h k aA;rcases Int.le_total (Ut F l k) (F ((l.drop 1).getD k AF.zero)) with q | q
  ·exact ⟨_,Mh aA,Int.max_eq_right q⟩
  ·exact ⟨x,hx,(Int.max_eq_left q).trans e⟩
theorem VJ{k:Nat}:(l.drop 1).getD k AF.zero=l.getD (k+1) AF.zero:=by
 rw [List.getD_eq_getElem?_getD,List.getElem?_drop,<-List.getD_eq_getElem?_getD,Nat.add_comm]
theorem fLo_le:∀k j,j<=k->Us F l k<=F (l.getD j AF.zero)
 | 0,j,h=>by rw [show j=0 by omega];exact Int.le_refl _
 | k+1,j,h=>by
  show min (Us F l k) (F ((l.drop 1).getD k AF.zero))<=_;rcases Nat.lt_or_ge j (k+1) with q | q
  ·have:=fLo_le k j aA;omega
  ·have e:j=k+1:=aA
   subst e;rw [VJ];omega
theorem fHi_ge:∀k j,j<=k->F (l.getD j AF.zero)<=Ut F l k
 | 0,j,h=>by rw [show j=0 by omega];exact Int.le_refl _
 | k+1,j,h=>by
  show _<=max (Ut F l k) (F ((l.drop 1).getD k AF.zero));rcases Nat.lt_or_ge j (k+1) with q | q
  ·have:=fHi_ge k j aA;omega
  ·have e:j=k+1:=aA
   subst e;rw [VJ];omega
theorem Yl(hx:x ∈ l):∃j,j<=l.length-1/\x=l.getD j AF.zero:=by
 obtain ⟨j,hj,e⟩:=List.mem_iff_getElem.1 hx;exact ⟨j,aA,by rw [List.getD_eq_getElem?_getD,List.getElem?_eq_getElem hj];exact e.symm⟩
theorem fMin_le(hx:x ∈ l):Bg F l<=F x:=by obtain ⟨j,hj,rfl⟩:=Yl hx;exact fLo_le _ j hj
theorem Ym(hx:x ∈ l):F x<=BC F l:=by obtain ⟨j,hj,rfl⟩:=Yl hx;exact fHi_ge _ j hj
theorem VK(h:0<l.length):∃x ∈ l,Bg F l=F x:=Yj h _ (Nat.le_refl _)
theorem fMax_mem(h:0<l.length):∃x ∈ l,BC F l=F x:=Yk h _ (Nat.le_refl _)
end
section
variable {bag kinds:Int} {ps:List ByteArray} {ws:List AA} {js:List AK} {ns:List AJ} {a b c:Int}
theorem openB_09(bk:A4 bag kinds ps ws js ns=0):(AV bag kinds ps ws js ns 0=0/\0<(AB ws js ns).length)\/(AV bag kinds ps ws js ns 0=9/\(AB ws js ns).length=0):=by
 unfold AV;rw [if_neg (λe=>e bk),if_neg aD];by_cases e:(AB ws js ns).length=0
 ·rw [if_pos e];exact .inr ⟨rfl,e⟩
 ·rw [if_neg e];exact .inl ⟨rfl,aA⟩
end
section
variable {bag kinds:Int} {ps:List ByteArray} {ws:List AA} {js:List AK} {ns:List AJ} {a b c s:Int}
end
end Go.Ns
namespace Go.Ns
open Go.Conc
section
variable {P:Program} {Post:Value->World->Prop}
def Yn(P:Program)(Post:Value->World->Prop):Wk P:=⟨true,D2 P Post,Kg⟩
theorem T0:Js (Yn P Post):=⟨Post,rfl⟩
theorem Zk{f:FuncId}{fn:Func}{c:Code}{args:Array Value}{h:GH}{R:Value->GH->Prop}(hf:P.funcs[f]? =some fn)(hb:fn.body=some c)(hsz:args.size<=fn.ntmps)(hin:P.inits.idxOf? f=none)(hpost:∀v h',R v h'->∀w,D9 w h'->Post v w)
  (x:Tr ⟨Yn P Post,f,none,fn.ntmps⟩ c (λi=>args.getD i undef) [] h (λe O ds h'=>(e=.normal\/e=.ret)/\GY P fn O R ds h')):D2 P Post (G (Frame.enter P f args .normal) []) h:=by
 have e0:Frame.enter P f args .normal=Ci (Frame.enter P f args .normal) (args++Array.replicate (fn.ntmps-args.size) undef) [] [.code c]:=by
  simp [Frame.enter,Ci,hf,hb]
 rw [e0];let L:Lv:=λj t ds h'=>(j=none\/j=some .ret)/\∃O,Ba t fn.ntmps O/\GY P fn O R ds h';have fin:∀O ds h' t k,Ba t fn.ntmps O->GY P fn O R ds h'->(Yn P Post).K (G (Ed (Frame.enter P f args .normal) t ds k) []) h':=by
  intro O ds h' t k hs ho;refine NO (W:=Yn P Post) (R:=R) hf (b:=Frame.enter P f args .normal) rfl (λt k v h h' hr hrun=>?_) ds h' t k hs ho;refine V1 rfl λw fw=>?_;obtain ⟨w',es,r1,r2⟩:=hrun w fw;refine ⟨v,w',seen P f es++ #[],h',?_,r2.sub (es':=seen P f es++ #[]) λe he=>?_,hpost v h' hr w' r2.fits⟩
  ·rw [Kv];unfold unwind;have hfn:(Ed (Frame.enter P f args .normal) t [] k).fn=f:=rfl;have hk:(Ed (Frame.enter P f args .normal) t [] k).kind=.normal:=rfl;have hm:(Ed (Frame.enter P f args .normal) t [] k).mode=.returning:=rfl;have hd:(Ed (Frame.enter P f args .normal) t [] k).defers=[]:=rfl;have ht:(Ed (Frame.enter P f args .normal) t [] k).tmps=t:=rfl;simp only [hd,hm,hfn,hf,ht,r1,GStep.after,doReturn,hk,hin];rfl
  ·rw [Array.append_empty] at he;exact mem_seen he
 refine x (Frame.enter P f args .normal) [] [] L _ rfl rfl ⟨?_,?_,?_⟩ ⟨by simp;omega,λi=>?_⟩ ?_
 ·rintro t ds h' ⟨_,O,hs,ho⟩;exact Wk.go (Ed (Frame.enter P f args .normal) t ds []) (λw=>by rw [A1];simp [stepG.exec,Ci,Ed,G,Frame.enter]) (fin O ds h' t [] hs ho)
 ·rintro t ds h' k ⟨_,O,hs,ho⟩;exact Wk.go (Ed (Frame.enter P f args .normal) t ds (.code .ret ::k)) (λw=>by rw [A1];simp [stepG.exec,Ci,Ed,G,Frame.enter]) (fin O ds h' t _ hs ho)
 ·rintro id t ds h' k _ ⟨h1 | h1,_⟩ <;> cases h1
 ·by_cases hi:i<args.size
  ·simp [Array.getD_eq_getD_getElem?,Array.getElem?_append_left hi]
  ·simp only [Array.getD_eq_getD_getElem?];rw [Array.getElem?_append_right aA,Array.getElem?_eq_none (show args.size<=i by omega),Array.getElem?_replicate];split <;> rfl
 ·rintro e O ds h' ⟨he,ho⟩ t' ht';rcases he with rfl | rfl
  ·exact Wk.go (Ed (Frame.enter P f args .normal) t' ds []) (λw=>by rw [A1];simp [stepG.exec,Ci,Ed,G,Frame.enter]) (fin O ds h' t' [] ht' ho)
  ·exact ⟨.inr rfl,O,ht',ho⟩
def GH.of(W:World):GH:=λb=>(W.heap[b]?).map λo=>(false,o)
theorem GH.of_some{W:World}{b:Nat}{o:Obj}(h:W.heap[b]? =some o):GH.of W b=some (false,o):=by unfold GH.of;rw [h];rfl
theorem fits_of(W:World):D9 W (GH.of W):=λb p o h=>by
 unfold GH.of at h;cases e:W.heap[b]? with
 | none=>rw [e] at h;cases h
 | some x=>rw [e] at h;cases h;rfl
theorem kept_of{W w:World}{h:GH}(l:(GH.of W).Le h)(f:D9 w h){b:Nat}{o:Obj}(hb:W.heap[b]? =some o):w.heap[b]? =some o:=f b _ _ (l.keep (GH.of_some hb) rfl)
theorem Wr{g:Goroutine}{W:World}(hg:D2 P Post g (GH.of W)):Bs P (Iy Post W.os W.output) (solo g W) #[]:=by
 have hno:∀k a,touchAt (#[]:Trace) k=some a->False:=λk a h=>by
  obtain ⟨op,h1,_⟩:=touch_of h;simp at h1
 refine hg #[g] W none (λ_=>0) #[] ⟨rfl,?_,fits_of W,?_,?_,λk a b hk=>(hno k a hk).elim,?_,λk a hk=>(hno k a hk).elim,λb p o k a _ _ hk=>(hno k a hk).elim⟩
 ·intro j x hj hx;rw [Array.getElem?_eq_none (by simp;omega)] at hx;cases hx
 ·intro op hop;simp at hop
 ·rintro said ⟨i,j,hij,⟨a,b,ha,_⟩,_⟩;exact hno i a ha
 ·intro op hop;simp at hop
end
end Go.Ns
namespace Go.Ns
open Go.Conc Go.ChangeShapes Go.WideShapes Go.ChangeAt Go.RowKit
section
variable {P:Program} {W:World}
theorem Ws{b off n:Nat}{cs:List Value}(h:W.cells? 0 ⟨b,off,none⟩ n=some cs)(hn:0<n):AZ (GH.of W) b off n cs.toArray:=by
 obtain ⟨_,hl,hc⟩:=World.cells?_some h;have hcell:∀i,i<n->W.cell? ⟨b,off+i,none⟩=cs[i]? :=λi hi=>by
  have:=hc i hi
  unfold Addr.add at this;split at this
  ·rename_i e;subst e;exact this
  ·exact this
 have h0:=hcell 0 hn;unfold World.cell? at h0;cases hb:W.heap[b]? with
 | none=>simp [hb,List.getElem?_eq_getElem (show 0<cs.length by omega)] at h0
 | some o=>
  cases o with
  | cells c t f=>
   have hall:∀i,i<n->c[off+i]? =cs[i]? :=λi hi=>by
    have:=hcell i hi
    unfold World.cell? at this;simpa [hb] using this
   have hlast:=hall (n-1) aA;rw [List.getElem?_eq_getElem (show n-1<cs.length by omega)] at hlast;have hsz:=(Array.getElem?_eq_some_iff.1 hlast).1;refine ⟨false,c,t,f,GH.of_some hb,aA,?_⟩;apply Array.ext
   ·simp;omega
   ·intro i h1 h2;have hi:i<n:=by simp at h2;omega
    have:=hall i hi
    rw [Array.getElem?_eq_getElem aA,List.getElem?_eq_getElem aA] at this;simpa using this
  | _=>simp [hb,List.getElem?_eq_getElem (show 0<cs.length by omega)] at h0
def Opens(P:Program)(e:TypeId){V:Type}(enc:V->Array Value)(good:V->Prop):Prop:=
 ∀{H:Type}(en:TypeId×Value->H)(W:World)(base:Nat)(sp:Nat->Bool)(held:Bool)(fuel:Nat)(cs:List Value)(x:DataW H×List MemPlace),DataW.trod en P W base sp held fuel e cs=some x->∃a:V,cs=(enc a).toList/\good a
def LF(P:Program)(W:World)(e:TypeId){V:Type}(enc:V->Array Value)(good:V->Prop):Prop:=
 ∀{H:Type}(en:TypeId×Value->H)(sp:Nat->Bool)(held:Bool)(fuel:Nat)(cs:List Value)(x:DataW H×List MemPlace),DataW.trod en P W 0 sp held fuel e cs=some x->(∀y ∈ x.1.weights P e,y<=reachBytes)->∃a:V,cs=(enc a).toList/\good a
theorem J6{H:Type}{e:TypeId}{d:DataW H}{y:Nat}:∀{l:List (DataW H)},d ∈ l->y ∈ d.weights P e->y ∈ DataW.weightsAll P e l
 | c ::l,hd,hy=>by
  unfold DataW.weightsAll;rcases List.mem_cons.1 hd with rfl | hd
  ·exact List.mem_append_left _ hy
  ·exact List.mem_append_right _ (J6 hd hy)
theorem Ip{H:Type}{en:TypeId×Value->H}{sp:Nat->Bool}{held:Bool}{fuel:Nat}{t e:TypeId}{n:Nat}{V:Type}{enc:V->Array Value}{good:V->Prop}{v:Value}{d:DataW H}{ps:List MemPlace}(ht:P.underlying t=some (.slice e))(hc:P.cellsOf e=n)(hn:0<n)
  (hb:1<=P.bytesOf e) (ho:LF P W e enc good) (h:DataW.trod en P W 0 sp held fuel t [v]=some (d,ps)) (hw:∀y ∈ d.weights P t,y<=reachBytes):∃xs:List V,AH (GH.of W) v n enc xs/\∀x ∈ xs,good x:=by
 rcases DataW.trod_slice ht h with ⟨h1,_⟩ | ⟨a,len,cap,elems,rest,m,rfl,h1,h2,_,hl,_,hlen,hel,_,_⟩
 ·simp at h1;subst h1;exact ⟨[],AH.nil _ _ _,λx hx=>by cases hx⟩
 ·simp only [List.cons.injEq,and_true] at h1;subst h1;simp only [Prod.mk.injEq] at h2;have hd:d=.slice (elems.map (·.1)) (rest.map (·.1)):=h2.1;have hlim:len<=140737488355328:=by
   have:=hw ((elems.map (·.1)).length+(rest.map (·.1)).length |>.mul (P.bytesOf e)) (by rw [hd];unfold DataW.weights;rw [ht];exact List.mem_cons_self ..)
   have h3:(elems.map (·.1)).length+(rest.map (·.1)).length<=((elems.map (·.1)).length+(rest.map (·.1)).length)*P.bytesOf e:=Nat.le_mul_of_pos_right _ hb;have h4:((elems.map (·.1)).length+(rest.map (·.1)).length)*P.bytesOf e<=reachBytes:=this;rw [List.length_map] at h3 h4;unfold reachBytes at h4;omega
  have each:∀i,i<len->∃x:V,∃b off,a=⟨b,off,none⟩/\AZ (GH.of W) b (off+i*n) n (enc x)/\good x:=λi hi=>by
   have:=hel i hi
   rw [List.getElem?_eq_getElem aA,hc] at this;simp only [Option.bind_eq_some_iff] at this;obtain ⟨cs,hcs,hx⟩:=this;obtain ⟨x,e1,e2⟩:=ho _ _ _ _ _ _ hx λy hy=>hw y (by rw [hd];unfold DataW.weights;rw [ht];exact List.mem_cons_of_mem _ (List.mem_append_left _ (J6 (List.mem_map.2 ⟨_,List.getElem_mem (show i<elems.length by omega),rfl⟩) hy)));have hc0:=(World.cells?_some hcs).2.2 0 hn;have hlen2:=(World.cells?_some hcs).2.1;rw [List.getElem?_eq_getElem (show 0<cs.length by omega)] at hc0;have hsp:=World.cell?_spot hc0;obtain ⟨b,off,spot⟩:=a;have hspot:spot=none\/i≠0:=by
    by_cases e0:i=0
    ·subst e0;left;simpa [Addr.add] using hsp
    ·exact .inr e0
   have hfirst:spot=none:=by
    rcases hspot with e | e
    ·exact e
    ·have h00:=hel 0 aA;rw [List.getElem?_eq_getElem aA,hc] at h00;simp only [Option.bind_eq_some_iff] at h00;obtain ⟨c0,hc00,_⟩:=h00;have z:=(World.cells?_some hc00).2.2 0 hn;have zl:=(World.cells?_some hc00).2.1;rw [List.getElem?_eq_getElem (show 0<c0.length by omega)] at z
     have:=World.cell?_spot z
     simpa [Addr.add] using this
   subst hfirst;refine ⟨x,b,off,rfl,?_,e2⟩;have ea:(Addr.add ⟨b,off,none⟩ (i*n))=⟨b,off+i*n,none⟩:=by
    unfold Addr.add;split
    ·rename_i e;rw [e];rfl
    ·rfl
   rw [ea] at hcs
   have:=Ws hcs hn
   rw [e1] at this;simpa using this
  by_cases hz:len=0
  ·subst hz;exact ⟨[],⟨some a,cap,rfl,Nat.zero_le _,Nat.zero_le _,λi hi=>by simp at hi⟩,λx hx=>by cases hx⟩
  ·have hch:∀i:Fin len,∃x:V,∃b off,a=⟨b,off,none⟩/\AZ (GH.of W) b (off+i.val*n) n (enc x)/\good x:=λi=>each i.val i.isLt;refine ⟨List.ofFn λi=>Classical.choose (hch i),⟨some a,cap,by rw [List.length_ofFn],by rw [List.length_ofFn];exact hl,by rw [List.length_ofFn];exact hlim,λi hi=>?_⟩,λx hx=>?_⟩
   ·rw [List.length_ofFn] at hi;obtain ⟨b,off,e1,e2,_⟩:=Classical.choose_spec (hch ⟨i,hi⟩);refine ⟨b,off,by rw [e1],?_⟩;rw [List.getElem_ofFn];exact e2
   ·obtain ⟨i,rfl⟩:=List.mem_ofFn.1 hx;obtain ⟨_,_,_,_,e3⟩:=Classical.choose_spec (hch i);exact e3
theorem Iq{H:Type}{en:TypeId×Value->H}{t:TypeId}(hl:laidOutB P=true)(hr:P.readableRec t=true)(hrow:t<P.types.size){W':World}{v:Value}{d:DataW H}{ps:List MemPlace}(h:DataW.Trod en P W 0 (λ_=>true) true t v d ps)
  (hk:∀(b:Nat)(o:Obj),W.heap[b]? =some o->W'.heap[b]? =some o) (hlt:∀x ∈ ps,x.block<W.heap.size):DataW.Trod en P W' 0 (λb=>decide (b<W.heap.size)) true t v d ps:=by
 let W2:World:={ W' with os:=W.os,tape:=W.tape,output:=W.output };have hsz:W.heap.size<=W'.heap.size:=by
  rcases Nat.lt_or_ge W'.heap.size W.heap.size with x | x
  ·have:=hk W'.heap.size _ (Array.getElem?_eq_getElem x)
   rw [Array.getElem?_eq_none (Nat.le_refl _)] at this;cases this
  ·exact x
 have hb:Below W.heap.size W W2:=⟨rfl,rfl,rfl,hsz,λk hk'=>by
  show W'.heap[k]? =_;rw [Array.getElem?_eq_getElem hk'];exact hk k _ (Array.getElem?_eq_getElem hk')⟩
 exact DataW.Trod.of_heap (w:=W2) (w':=W') rfl (Below.trod hl hr hrow h hb hlt)
theorem kept_but{W':World}(hk:∀(b:Nat)(o:Obj),W.heap[b]? =some o->W'.heap[b]? =some o)(ho:W'.os=W.os)(hp:W'.output=W.output)(may:MemPlace->Prop):W.keptBut W' may:=by
 refine ⟨ho,hp,λi hi=>?_⟩;rw [hk i _ (Array.getElem?_eq_getElem hi),Array.getElem?_eq_getElem hi];split <;> simp_all
end
end Go.Ns
namespace Go.Ns
open Go.Conc
theorem JP{P:Program}{E:GV P}{O:Nat->Value}{ds:List Deferred}{h:GH}{T:(Nat->Value)->List Deferred->GH->Prop}{dst:Option Nat}{ty:TypeId}{pos:String}{af:Array Edge}{gd:Option (Nat×Bool)}{V:Type}
  {s x:TypeId} {o1 o2:Operand} {h0:GH} {w:Value} {r e n bytes:Nat} {enc:V->Array Value} {ys:List V} (ht:Ih P s x=some (e,n,bytes)) (h1:AO O o1=.slice (some ⟨r,0,none⟩) 0 0) (h2:AO O o2=w)
  (hv:AN h0 h (.slice (some ⟨r,0,none⟩) 0 0) e n enc ([]:List V)) (hw:AH h w n enc ys) (l0:∀q,h q=none->h0 q=none) (hb:(2*(([]:List V).length+ys.length)+512)*bytes<=2 ^ 48) (hfine:∀y ∈ ys,(enc y).toList.all (·.oneCell')=true)
  (k:∀v' h',AN h0 h' v' e n enc ys->GW h h' (.slice (some ⟨r,0,none⟩) 0 0) v'->h.Le h'->T (putS O dst v') ds h'):BU E ⟨dst,.call ⟨.builtin .append,#[o1,o2],#[s,x]⟩,ty,pos,af,gd⟩ O ds h T:=
 Ok ht h1 h2 hv hw l0 hb hfine λv' h' o g1 g2 g3=>k v' h' o ⟨g1,g2⟩ (.of λb y hb=>by
  by_cases e:b=r
  ·subst e;rcases hv with ⟨q,_⟩ | ⟨b1,cap,c,q,_,q2,q3,_⟩
   ·cases q
   ·simp only [Value.slice.injEq,Option.some.injEq,Addr.mk.injEq,and_true] at q;obtain ⟨rfl,_,rfl⟩:=q;obtain ⟨c',q5,q6⟩:=g3 b c rfl q2;rw [q2] at hb;cases hb;rw [q5,Array.eq_empty_of_size_eq_zero (show c.size=0 by omega),Array.eq_empty_of_size_eq_zero (show c'.size=0 by omega)]
  ·exact g1 b y hb λq=>e (by simpa [CU] using q.symm))
def Jh(n:Nat)(l:List Int):Prop:=l.Nodup/\∀x ∈ l,0<=x/\x<n
section
variable {n i:Nat} {l kn rest:List Int}
theorem Jh.at(h:Jh n l)(k:Nat)(hk:k<l.length):0<=l.getD k 0/\l.getD k 0<n:=h.2 _ (Bc hk)
theorem Jh.bell(h:Jh n l):Ai n l=0:=Bm (k:=l.length) (λj hj=>by
 have r:=h.at j hj;have e:FD n (l.getD j 0)=0:=by unfold FD;rw [if_neg aA]
 unfold HZ;rw [if_neg (λq=>q e),if_neg];intro q;obtain ⟨x,hx,e2⟩:=List.any_eq_true.1 q;have e3:l.getD j 0=x:=of_decide_eq_true e2;obtain ⟨t,ht,e4⟩:=List.mem_iff_getElem.1 hx;rw [List.length_take] at ht;rw [List.getElem_take] at e4
 have:=(List.pairwise_iff_getElem.1 (List.nodup_iff_pairwise_ne.1 h.1)) t j aA hj aA
 rw [Cy 0 hj] at e3;exact this (e4.trans e3.symm)) (Nat.le_refl _)
theorem Jh.len(h:Jh n l):l.length<=n:=Hm h.bell
theorem Jh.left(h:Jh n (kn++rest)):Jh n kn:=⟨(List.nodup_append.1 h.1).1,λx hx=>h.2 x (List.mem_append_left _ hx)⟩
theorem perm_out{l:List Int}:∀{i:Nat}(hi:i<l.length),([l[i]]++l.eraseIdx i).Perm l:=by
 induction l with
 | nil=>intro i hi;cases hi
 | cons x l ih=>
  intro i hi;cases i with
  | zero=>exact List.Perm.refl _
  | succ i=>exact (List.Perm.swap _ _ _).trans ((ih (Nat.lt_of_succ_lt_succ hi)).cons x)
theorem Jh.next(h:Jh n (kn++rest))(hi:i<rest.length):Jh n (kn++[rest.getD i 0]++rest.eraseIdx i):=by
 have p:(kn++[rest.getD i 0]++rest.eraseIdx i).Perm (kn++rest):=by
  rw [List.append_assoc];refine List.Perm.append_left kn ?_;rw [Cy 0 hi];exact perm_out hi
 exact ⟨p.nodup_iff.2 h.1,λx hx=>h.2 x (p.mem_iff.1 hx)⟩
theorem Jh.first(n:Nat):Jh n (CS n):=by
 induction n with
 | zero=>exact ⟨List.nodup_nil,λx hx=>by cases hx⟩
 | succ n ih=>
  have m:∀x ∈ CS n,0<=x/\x<(n:Int):=ih.2;refine ⟨List.nodup_append.2 ⟨ih.1,aD,λa ha b hb e=>?_⟩,λx hx=>?_⟩
  ·rw [List.mem_singleton.1 hb] at e
   have:=m a ha
   omega
  ·rcases List.mem_append.1 hx with hx | hx
   ·have:=m x hx
    omega
   ·rw [List.mem_singleton.1 hx];omega
end
def FF:Nat->Nat
 | 0=>1
 | n+1=>1+(n+1)*FF n
theorem Pv:∀n,n<=4->FF n<=65
 | 0,_=>aC
 | 1,_=>aC
 | 2,_=>aC
 | 3,_=>aC
 | 4,_=>aC
 | n+5,h=>aA
theorem Wt{n i:Nat}(hn:n<=4)(hi:i<=n):1+i*FF (n-1)<=65:=by
 rcases Nat.eq_zero_or_pos n with e | e
 ·subst e
  have:i=0:=aA
  subst this;decide
 ·have h:=Pv n hn;have e2:FF n=1+n*FF (n-1):=by
   cases n with
   | zero=>omega
   | succ n=>rfl
  have:=Nat.mul_le_mul_right (FF (n-1)) hi
  omega
theorem VL{n i:Nat}(hi:i=n){m:Nat}(h:m<=1+i*FF (n-1)):m<=FF n:=by
 subst hi;cases i with
 | zero=>simp at h;exact h
 | succ i=>exact h
def HQ(n:Nat)(xl:List Sl):Prop:=∀x ∈ xl,Jh n x.2
section
variable {n:Nat} {a b:List Sl}
theorem HQ.app(ha:HQ n a)(hb:HQ n b):HQ n (a++b):=λx hx=>(List.mem_append.1 hx).elim (ha x) (hb x)
theorem HQ.one{v:Value}{l:List Int}(h:Jh n l):HQ n [(v,l)]:=λx hx=>by rw [List.mem_singleton.1 hx];exact h
theorem HQ.at(h:HQ n a){k:Nat}(hk:k<a.length):Jh n (a.getD k Sl.z).2:=h _ (Bc hk)
end
section
variable {l:List Int} {i q:Nat}
end
section
variable {bag kinds:Int} {ps:List ByteArray} {ws:List AA} {js:List AK} {ns:List AJ} {l:List Int} {p:AF} {i:Nat}
end
section
variable {F G:AF->Int} {l:List AF}
end
section
variable {bag kinds:Int} {ps:List ByteArray} {ws:List AA} {js:List AK} {ns:List AJ} {l:List Int} {i k:Nat}
end
end Go.Ns
namespace Go.Ns
section
variable {bag kinds:Int} {ps:List ByteArray} {ws:List AA} {js:List AK} {ns:List AJ} {r l:List Int} {i k:Nat} {s:Int}
end
end Go.Ns
namespace Go.Ns
section
variable {a b c:List Int} {x y:Int}
end
section
variable {jobs l r:List Int} {f n:Nat}
theorem VM{l:List Int}{k:Int}:Hb l k=true↔k ∈ l:=by
 unfold Hb;rw [List.any_eq_true];exact ⟨λ⟨x,hx,e⟩=>by rw [of_decide_eq_true e];exact hx,λh=>⟨k,h,decide_eq_true rfl⟩⟩
theorem Pw(hj:∀x ∈ jobs,0<=x/\x<(n:Int)):∀(f:Nat)(l:List Int),Jh n l->∀r ∈ BI jobs f l,Jh n r
 | 0,l,hl,r,h=>by rw [List.mem_singleton.1 h];exact hl
 | f+1,l,hl,r,h=>by
  rcases List.mem_cons.1 h with e | h
  ·rw [e];exact hl
  ·obtain ⟨k,hk,h⟩:=List.mem_flatMap.1 h;split at h
   ·cases h
   ·rename_i c
    refine Pw hj f (l++[k]) ⟨List.nodup_append.2 ⟨hl.1,aD,λa ha b hb e=>?_⟩,λx hx=>?_⟩ r h
    ·rw [List.mem_singleton.1 hb] at e;exact c (VM.2 (e▸ha))
    ·rcases List.mem_append.1 hx with hx | hx
     ·exact hl.2 x hx
     ·rw [List.mem_singleton.1 hx];exact hj k hk
theorem Px(hj:∀x:Int,0<=x->x<(n:Int)->x ∈ jobs):∀(s l:List Int)(f:Nat),s.length<=f->Jh n (l++s)->l++s ∈ BI jobs f l
 | [],l,f,_,_=>by rw [List.append_nil,FX];exact List.mem_cons_self
 | k ::s,l,0,h,_=>absurd h aD
 | k ::s,l,f+1,h,hv=>by
  have e:l++k ::s=(l++[k])++s:=aD
  have hk:=hv.2 k aD;refine List.mem_cons_of_mem _ (List.mem_flatMap.2 ⟨k,hj k hk.1 hk.2,?_⟩);have hn:¬Hb l k=true:=λq=>by
   have d:=List.nodup_append.1 hv.1;exact d.2.2 k (VM.1 q) k List.mem_cons_self rfl
  rw [if_neg hn,e];exact Px hj s (l++[k]) f (by simp at h;omega) (by rw [<-e];exact hv)
theorem P0:∀(n:Nat)(x:Int),0<=x->x<(n:Int)->x ∈ CS n
 | 0,x,h0,h1=>aA
 | n+1,x,h0,h1=>by
  by_cases e:x<(n:Int)
  ·exact List.mem_append_left _ (P0 n x h0 e)
  ·exact List.mem_append_right _ (List.mem_singleton.2 aA)
theorem Wu(h:Jh n r):r ∈ DA (CS n):=by
 have:=Px (P0 n) r [] (CS n).length (by rw [C9];exact h.len) h
 exact this
theorem all_val(h:r ∈ DA (CS n)):Jh n r:=Pw (λ_ hx=>LD hx) _ [] ⟨List.nodup_nil,λx hx=>by cases hx⟩ r h
end
section
variable {g pre:List (List Int)} {x:List Int}
end
section
variable {G:List Int->Int} {l:List (List Int)}
end
end Go.Ns
namespace Go.Ns
section
variable {c:GR} {q i:Nat} {x:Int}
theorem LG:∀{q:Nat}{x:Int},x ∈ EI c q↔∃i:Nat,i<q/\x=(i:Int)/\c i=false
 | 0,x=>⟨λh=>(by cases h),λ⟨i,h,_⟩=>absurd h (Nat.not_lt_zero _)⟩
 | q+1,x=>by
  unfold EI;split
  ·rename_i e
   rw [LG (q:=q)];exact ⟨λ⟨i,h,r⟩=>⟨i,aA,r⟩,λ⟨i,h,r⟩=>by
    rcases Nat.lt_or_ge i q with z | z
    ·exact ⟨i,z,r⟩
    ·rw [show i=q by omega,e] at r;exact absurd r.2 aD⟩
  ·rename_i e
   rw [List.mem_append,LG (q:=q),List.mem_singleton];refine ⟨λh=>?_,λ⟨i,h,r⟩=>?_⟩
   ·rcases h with ⟨i,h,r⟩ | h
    ·exact ⟨i,aA,r⟩
    ·exact ⟨q,Nat.lt_succ_self _,h,by simpa using e⟩
   ·rcases Nat.lt_or_ge i q with z | z
    ·exact .inl ⟨i,z,r⟩
    ·exact .inr (by rw [r.1,show i=q by omega])
theorem VN{l:List Int}:∀k,k<=l.length->(Pp c l k i=true↔c i=true\/∃j,j<k/\(l.getD j 0).toNat=i)
 | 0,_=>⟨.inl,λh=>h.elim id λ⟨j,h,_⟩=>absurd h (Nat.not_lt_zero _)⟩
 | k+1,h=>by
  have ih:=VN (l:=l) k aA;unfold Pp GR.set;by_cases e:i=(l.getD k 0).toNat
  ·rw [if_pos e];exact ⟨λ_=>.inr ⟨k,Nat.lt_succ_self _,e.symm⟩,λ_=>rfl⟩
  ·rw [if_neg e,ih];refine ⟨λh=>h.imp id λ⟨j,h,r⟩=>⟨j,aA,r⟩,λh=>h.imp id λ⟨j,h,r⟩=>⟨j,?_,r⟩⟩;rcases Nat.lt_or_ge j k with z | z
   ·exact z
   ·rw [show j=k by omega] at r;exact absurd r.symm e
theorem VO{ls:List (List Int)}:∀k,k<=ls.length->(Fm ls k i=true↔∃l ∈ ls.take k,∃j,j<l.length/\(l.getD j 0).toNat=i)
 | 0,_=>⟨λh=>(by cases h),λ⟨l,h,_⟩=>(by cases h)⟩
 | k+1,h=>by
  have ih:=VO (ls:=ls) k aA;unfold Fm;rw [VN _ (Nat.le_refl _),ih,EF [] (show k<ls.length by omega)];refine ⟨λh=>?_,λ⟨l,hl,r⟩=>?_⟩
  ·rcases h with ⟨l,hl,r⟩ | r
   ·exact ⟨l,List.mem_append_left _ hl,r⟩
   ·exact ⟨_,List.mem_append_right _ (List.mem_singleton.2 rfl),r⟩
  ·rcases List.mem_append.1 hl with hl | hl
   ·exact .inl ⟨l,hl,r⟩
   ·rw [List.mem_singleton.1 hl] at r;exact .inr r
end
section
variable {bag kinds:Int} {ps:List ByteArray} {ws:List AA} {js:List AK} {ns:List AJ} {r:List Int} {k:Nat} {x:Int}
def IK(bag kinds:Int)(ps:List ByteArray)(ws:List AA)(js:List AK)(ns:List AJ):List (List Int):=Gl ps.length ws js (AB ws js ns) bag kinds
theorem J7:r ∈ IK bag kinds ps ws js ns↔Jh js.length r/\B7 ps.length ws js (AB ws js ns) r bag kinds=true:=by
 unfold IK Gl;rw [List.mem_filter];exact ⟨λh=>⟨all_val h.1,h.2⟩,λh=>⟨Wu h.1,h.2⟩⟩
theorem VP(h0:AV bag kinds ps ws js ns 0=0)(hr:Jh js.length r):safeR bag kinds ps ws js ns r=B7 ps.length ws js (AB ws js ns) r bag kinds:=by
 unfold safeR;rw [hr.bell];exact if_neg (λe=>e h0)
theorem Zl(h0:AV bag kinds ps ws js ns 0=0):GJ bag kinds ps ws js ns=EI (Fm (IK bag kinds ps ws js ns) (IK bag kinds ps ws js ns).length) js.length:=if_neg (λe=>e h0)
theorem ST(h0:AV bag kinds ps ws js ns 0=0):x ∈ GJ bag kinds ps ws js ns↔(0<=x/\x<js.length)/\∀l ∈ IK bag kinds ps ws js ns,¬x ∈ l:=by
 have key:∀i:Nat,Fm (IK bag kinds ps ws js ns) (IK bag kinds ps ws js ns).length i=true↔∃l ∈ IK bag kinds ps ws js ns,(i:Int) ∈ l:=λi=>by
  rw [VO _ (Nat.le_refl _),List.take_length];refine ⟨λ⟨l,hl,j,hj,e⟩=>⟨l,hl,?_⟩,λ⟨l,hl,hm⟩=>?_⟩
  ·have q:=(J7.1 hl).1.at j hj;rw [show (i:Int)=l.getD j 0 by omega];exact Bc hj
  ·obtain ⟨j,hj,e⟩:=List.mem_iff_getElem.1 hm;exact ⟨l,hl,j,hj,by rw [Cy 0 hj,e];exact Int.toNat_natCast i⟩
 rw [Zl h0,LG];refine ⟨λ⟨i,h1,h2,h3⟩=>⟨aA,λl hl hm=>?_⟩,λ⟨h1,h2⟩=>⟨x.toNat,aA,aA,?_⟩⟩
 ·rw [h2] at hm
  have:=(key i).2 ⟨l,hl,hm⟩
  rw [h3] at this;cases this
 ·refine Bool.eq_false_iff.2 λe=>?_;obtain ⟨l,hl,hm⟩:=(key _).1 e;rw [Int.toNat_of_nonneg h1.1] at hm;exact h2 l hl hm
end
end Go.Ns
namespace Go.Ns
open Go.Conc Go Go.RowKit
section
variable {P:Program} {E:GV P} {O:Nat->Value} {ds:List Deferred} {h:GH} {T:(Nat->Value)->List Deferred->GH->Prop} {dst:Option Nat} {ty:TypeId} {pos:String} {af:Array Edge} {gd:Option (Nat×Bool)}
end
section
variable {ns:List AJ} {l:List Int} {k:Nat} {h:GH}
end
section
variable {bag kinds:Int} {ps:List ByteArray} {ws:List AA} {js:List AK} {ns:List AJ}
theorem Yo(b:BO bag kinds ps ws js ns):A4 bag kinds ps ws js ns=0:=by
 refine Bm (k:=5) (λj hj=>?_) (Nat.le_refl _)
 match j with
 | 0=>exact if_neg (by have:=b.hbag;have:=b.hkin;omega)
 | 1=>exact (if_neg (by have:=b.plen;omega)).trans (Bm b.place (Nat.le_refl _))
 | 2=>exact (Lk (by have:=b.wlen;omega) b.way (Nat.le_refl _)).trans b.led
 | 3=>exact (if_neg (by have:=b.jlen;omega)).trans (Bm b.job (Nat.le_refl _))
 | 4=>exact (if_neg (by have:=b.nlen;omega)).trans (Bm b.note (Nat.le_refl _))
 | j+5=>omega
end
end Go.Ns
namespace Go.Ns
open Go.Conc
def timed(ws:List AA)(i:Nat)(lo hi:Int):List AA:=ws.set i ⟨(ws.getD i AA.z).a,(ws.getD i AA.z).b,lo,hi⟩
def SU(x:AA):Int×Int:=(x.a,x.b)
section
variable {ws ws':List AA} {js:List AK} {ns:List AJ} {i k np:Nat} {lo hi n:Int} {p q:AF} {ag:AF->Bool}
theorem Hn:(timed ws i lo hi).length=ws.length:=List.length_set
theorem KR(k:Nat):(timed ws i lo hi).getD k AA.z=if k=i/\i<ws.length then ⟨(ws.getD i AA.z).a,(ws.getD i AA.z).b,lo,hi⟩ else ws.getD k AA.z:=by
 unfold timed;rw [List.getD_eq_getElem?_getD,List.getElem?_set];by_cases h:i=k
 ·subst h;by_cases h2:i<ws.length
  ·rw [if_pos rfl,if_pos h2,if_pos ⟨rfl,h2⟩];rfl
  ·rw [if_pos rfl,if_neg h2,if_neg (λq=>h2 q.2),Bt aA];rfl
 ·rw [if_neg h,if_neg (λq=>h q.1.symm),<-List.getD_eq_getElem?_getD]
theorem VQ:(timed ws i lo hi).map SU=ws.map SU:=by
 apply List.ext_getElem
 ·rw [List.length_map,List.length_map,Hn]
 ·intro k h1 h2;rw [List.getElem_map,List.getElem_map];have e:=KR (ws:=ws) (i:=i) (lo:=lo) (hi:=hi) k;rw [List.length_map] at h1 h2;rw [Cy AA.z h1,Cy AA.z h2] at e;rw [e];split
  ·rename_i c
   obtain ⟨rfl,c⟩:=c;rw [Cy AA.z h2];rfl
  ·rfl
theorem P1:∀{ws ws':List AA}(c:GR),ws'.map SU=ws.map SU->ws'.foldl D6 c=ws.foldl D6 c
 | [],[],c,_=>rfl
 | x ::ws,y ::ws',c,h=>by
  rw [List.map_cons,List.map_cons] at h;have h1:=(List.cons.inj h).1;have e:D6 c y=D6 c x:=by
   unfold D6;rw [show y.a=x.a from congrArg Prod.fst h1,show y.b=x.b from congrArg Prod.snd h1]
  rw [List.foldl_cons,List.foldl_cons,e];exact P1 _ (List.cons.inj h).2
 | [],_ ::_,c,h=>(by cases h)
 | _ ::_,[],c,h=>(by cases h)
theorem SV(h:ws'.map SU=ws.map SU):∀n c,Di ws' n c=Di ws n c
 | 0,c=>rfl
 | n+1,c=>by
  show Di ws' n (ws'.foldl D6 c)=Di ws n (ws.foldl D6 c);rw [P1 c h];exact SV h n _
theorem led_ab(h:ws'.map SU=ws.map SU):Dv np ws'=Dv np ws:=by
 unfold Dv;rw [SV h]
theorem any_ab{f:Int×Int->Bool}:∀{ws ws':List AA}(k:Nat),ws'.map SU=ws.map SU->(ws'.take k).any (λy=>f (SU y))=(ws.take k).any (λy=>f (SU y)):=λ{ws ws'} k h=>by
 have e:∀l:List AA,l.any (λy=>f (SU y))=(l.map SU).any f:=λl=>by rw [List.any_map];rfl
 rw [e,e,List.map_take,List.map_take,h]
theorem wayAt_ab(h:ws'.map SU=ws.map SU)(hk:k<ws.length)(h0:C8 np ws k=0)(hs:FK (ws'.getD k AA.z).low (ws'.getD k AA.z).high 30 2):C8 np ws' k=0:=by
 have hl:ws'.length=ws.length:=by have:=congrArg List.length h;simpa using this
 have e:SU (ws'.getD k AA.z)=SU (ws.getD k AA.z):=by
  have:(ws'.map SU).getD k (0,0)=(ws.map SU).getD k (0,0):=by rw [h]
  rw [Cy (0,0) (by rw [List.length_map];omega),Cy (0,0) (by rw [List.length_map];omega),List.getElem_map,List.getElem_map] at this;rw [Cy AA.z aA,Cy AA.z hk];exact this
 have ea:(ws'.getD k AA.z).a=(ws.getD k AA.z).a:=congrArg Prod.fst e;have eb:(ws'.getD k AA.z).b=(ws.getD k AA.z).b:=congrArg Prod.snd e;have f:=any_ab (f:=λz=>decide (z.1=(ws.getD k AA.z).a/\z.2=(ws.getD k AA.z).b)) k h;have f2:(ws'.take k).any (λy=>decide (y.a=(ws.getD k AA.z).a/\y.b=(ws.getD k AA.z).b))=(ws.take k).any (λy=>decide (y.a=(ws.getD k AA.z).a/\y.b=(ws.getD k AA.z).b)):=f;unfold C8 at h0 ⊢;rw [ea,eb,f2];split at h0
 ·rename_i a;exact absurd h0 a
 ·rename_i a
  rw [if_neg a];split at h0
  ·cases h0
  ·rename_i b
   rw [if_neg b];split at h0
   ·cases h0
   ·rename_i c
    rw [if_neg c,if_neg (λq=>q hs)]
theorem BO.timed{bag kinds:Int}{ps:List ByteArray}(b:BO bag kinds ps ws js ns)(hs:FK lo hi 30 2):BO bag kinds ps (timed ws i lo hi) js ns:=
 { b with
  wlen:=by rw [Hn];exact b.wlen
  way:=λk hk=>by
   rw [Hn] at hk;refine wayAt_ab VQ hk (b.way k hk) ?_;rw [KR];split
   ·exact hs
   ·have:=(Il b.way k hk).time
    unfold FK;omega
  led:=by rw [led_ab VQ];exact b.led
  note:=λk hk=>by rw [Hn];exact b.note k hk }
end
section
variable {ws:List AA} {js:List AK} {ns:List AJ} {i k:Nat} {n:Int}
end
section
variable {bag kinds:Int} {ps:List ByteArray} {ws:List AA} {js:List AK} {ns:List AJ} {i:Nat} {lo hi x:Int}
theorem Wv(hz:A4 bag kinds ps ws js ns=0)(hs:FK lo hi 30 2):A4 bag kinds ps (timed ws i lo hi) js ns=0:=Yo ((CE hz).timed hs)
end
end Go.Ns
namespace Go.Ns
open Go.Conc
structure P2(x y:AK):Prop where
 p:x.place=y.place
 lo:x.low=y.low
 hi:x.high=y.high
 du:x.due=y.due
 ps:x.parts=y.parts
structure VR(x y:AJ):Prop where
 ws:x.ways=y.ways
 lo:x.low=y.low
 hi:x.high=y.high
section
variable {ws:List AA} {js js':List AK} {ns ns':List AJ} {bag kinds:Int} {ps:List ByteArray} {i:Nat} {pq:List AF}
theorem H8(js:List AK)(f:Nat->Value)(n k:Nat):P2 ((GU js f n).getD k AK.z) (js.getD k AK.z):=by
 by_cases h:k<js.length
 ·rw [Mr,Gz h];split
  ·exact ⟨rfl,rfl,rfl,rfl,rfl⟩
  ·exact ⟨rfl,rfl,rfl,rfl,rfl⟩
 ·rw [Bt (by rw [Fg];omega),Bt aA];exact ⟨rfl,rfl,rfl,rfl,rfl⟩
theorem J8(ns:List AJ)(f:Nat->Value)(n k:Nat):VR ((HG ns f n).getD k AJ.z) (ns.getD k AJ.z):=by
 by_cases h:k<ns.length
 ·rw [Ms,Gz h];split
  ·exact ⟨rfl,rfl,rfl⟩
  ·exact ⟨rfl,rfl,rfl⟩
 ·rw [Bt (by rw [G0];omega),Bt aA];exact ⟨rfl,rfl,rfl⟩
theorem P3(hl:ns'.length=ns.length)(h:∀k,VR (ns'.getD k AJ.z) (ns.getD k AJ.z))(p:AF):Bp ns' p=Bp ns p:=by
 have e:∀l:List AJ,Bp l p=(l.map λx=>(x.ways,x.low,x.high)).all λz=>decide (z.2.1<=Ek p z.1/\Ek p z.1<=z.2.2):=λl=>by
  unfold Bp;rw [List.all_map];rfl
 rw [e,e];congr 1;apply List.ext_getElem
 ·rw [List.length_map,List.length_map,hl]
 ·intro k h1 h2;rw [List.length_map] at h1 h2;have s:=h k;rw [Cy AJ.z h1,Cy AJ.z h2] at s;rw [List.getElem_map,List.getElem_map,s.ws,s.lo,s.hi]
theorem Ks{ag ag':AF->Bool}(ha:∀p,ag' p=ag p)(h:∀k,P2 (js'.getD k AK.z) (js.getD k AK.z)):∀(f k:Nat)(p:AF),CB ag' ws js' f k p=CB ag ws js f k p
 | 0,_,_=>rfl
 | f+1,k,p=>by
  have e:CK ws js' k=CK ws js k/\Eu ws js' k=Eu ws js k:=by
   unfold CK Eu;rw [(h _).lo,(h _).hi];exact ⟨rfl,rfl⟩
  rw [DN,DN,e.1,e.2];congr 1;funext m;unfold B3;rw [ha,Ks ha h f]
theorem Ww(hj:js'.length=js.length)(h:∀k,P2 (js'.getD k AK.z) (js.getD k AK.z))(hl:ns'.length=ns.length)(h2:∀k,VR (ns'.getD k AJ.z) (ns.getD k AJ.z)):AB ws js' ns'=AB ws js ns:=by
 unfold AB;rw [P3 hl h2,hj,Ks (P3 hl h2) h]
theorem L7(f g:Nat->Value):AB ws (GU js f js.length) (HG ns g ns.length)=AB ws js ns:=Ww (Fg ..) (H8 _ _ _) (G0 ..) (J8 _ _ _)
theorem BO.same(b:BO bag kinds ps ws js ns)(hj:js'.length=js.length)(h:∀k,P2 (js'.getD k AK.z) (js.getD k AK.z))(hl:ns'.length=ns.length)(h2:∀k,VR (ns'.getD k AJ.z) (ns.getD k AJ.z)):BO bag kinds ps ws js' ns':=
 { b with
  jlen:=by rw [hj];exact b.jlen
  job:=λk hk=>by
   have:=b.job k aA
   unfold FV at this ⊢;rw [(h k).p,(h k).lo,(h k).hi,(h k).du,(h k).ps];exact this
  nlen:=by rw [hl];exact b.nlen
  note:=λk hk=>by
   have:=b.note k aA
   unfold Dp at this ⊢;rw [(h2 k).ws,(h2 k).lo,(h2 k).hi];exact this }
theorem KT(hz:A4 bag kinds ps ws js ns=0)(f g:Nat->Value):A4 bag kinds ps ws (GU js f js.length) (HG ns g ns.length)=0:=Yo ((CE hz).same (Fg ..) (H8 _ _ _) (G0 ..) (J8 _ _ _))
theorem Zm{x y:Int}(bk:BO bag kinds ps ws js ns)(hi:i<ws.length)(h:max (ws.getD i AA.z).low x<=min (ws.getD i AA.z).high y):FK (max (ws.getD i AA.z).low x) (min (ws.getD i AA.z).high y) 30 2:=by
 have:=(Il bk.way i hi).time
 unfold FK;omega
theorem Zn(hz:A4 bag kinds ps ws js ns=0)(h:¬AV bag kinds ps ws js ns 0=0):AV bag kinds ps ws js ns 0=9:=(openB_09 hz).elim (λq=>absurd q.1 h) (λq=>q.1)
end
end Go.Ns
namespace Go.Ns
section
variable {ws:List AA} {p:AF} {x y z u v k l np:Nat} {d e w:Int}
end
section
variable {bag kinds:Int} {ps:List ByteArray} {ws:List AA} {js:List AK} {ns:List AJ} {p:AF} {x y v k n:Nat} {d w:Int}
end
end Go.Ns
namespace Go.Ns
def dfs(S:Nat->Int×Int):Nat->Nat->List (List Int)
 | 0,_=>[[]]
 | f+1,i=>(Ej (S i).1 (S i).2).flatMap λn=>(dfs S f (i+1)).map λs=>n ::s
def J9(S:Nat->Int×Int):Nat->List (List Int)
 | 0=>[[]]
 | i+1=>(J9 S i).flatMap λx=>(Ej (S i).1 (S i).2).map λn=>x++[n]
section
variable {S:Nat->Int×Int}
theorem VS:∀f i,dfs S (f+1) i=(dfs S f i).flatMap λx=>(Ej (S (i+f)).1 (S (i+f)).2).map λn=>x++[n]
 | 0,i=>by
  show (Ej (S i).1 (S i).2).flatMap (λn=>[[n]])=[[]].flatMap _;rw [List.flatMap_cons,List.flatMap_nil,List.append_nil,Nat.add_zero,List.map_eq_flatMap];rfl
 | f+1,i=>by
  have ih:=VS f (i+1);show (Ej (S i).1 (S i).2).flatMap (λn=>(dfs S (f+1) (i+1)).map λs=>n ::s)=((Ej (S i).1 (S i).2).flatMap λn=>(dfs S f (i+1)).map λs=>n ::s).flatMap _;rw [List.flatMap_assoc];congr 1;funext n;rw [ih,List.map_flatMap,List.flatMap_map];congr 1;funext s;rw [List.map_map,show i+1+f=i+(f+1) by omega];rfl
theorem P4:∀m,J9 S m=dfs S m 0
 | 0=>rfl
 | m+1=>by
  rw [VS,<-P4 m,Nat.zero_add];rfl
end
def Yp(w k:List Int):AF:=⟨λi=>w.getD i 0,λi=>k.getD i 0⟩
def L8(p:AF)(i:Nat)(s:List Int):AF:={ p with ways:=λk=>if i<=k/\k<i+s.length then s.getD (k-i) 0 else p.ways k }
def L9(p:AF)(i:Nat)(s:List Int):AF:={ p with works:=λk=>if i<=k/\k<i+s.length then s.getD (k-i) 0 else p.works k }
theorem VT{f:Nat->Int}{i n:Nat}{v:Int}{s:List Int}:(λk=>if i<=k/\k<i+(v ::s).length then (v ::s).getD (k-i) 0 else f k)=λk=>if i+1<=k/\k<i+1+s.length then s.getD (k-(i+1)) 0 else if k=i then v else f k:=by
 funext k;by_cases h1:k=i
 ·subst h1;rw [if_pos aD,if_neg aA,if_pos rfl,Nat.sub_self];rfl
 ·by_cases h2:i+1<=k/\k<i+1+s.length
  ·rw [if_pos h2,if_pos (by simp only [List.length_cons];omega),show k-i=(k-(i+1))+1 by omega];rfl
  ·rw [if_neg h2,if_neg (by simp only [List.length_cons];omega),if_neg h1]
theorem P5{p:AF}{nw i:Nat}{v:Int}{s:List Int}(h:i<nw):L8 p i (v ::s)=L8 (p.put nw i v) (i+1) s:=by
 unfold L8 AF.put;rw [if_pos h,VT (n:=0)];rfl
theorem Wx{p:AF}{nw i:Nat}{v:Int}{s:List Int}(h:nw<=i):L9 p (i-nw) (v ::s)=L9 (p.put nw i v) (i+1-nw) s:=by
 unfold L9 AF.put;rw [if_neg aA,VT (n:=0),show i-nw+1=i+1-nw by omega];rfl
theorem SW(p:AF)(i:Nat):L8 p i []=p:=by
 unfold L8
 have:(λk=>if i<=k/\k<i+([]:List Int).length then ([]:List Int).getD (k-i) 0 else p.ways k)=p.ways:=funext λk=>if_neg aD
 rw [this]
theorem Zo(p:AF)(i:Nat):L9 p i []=p:=by
 unfold L9
 have:(λk=>if i<=k/\k<i+([]:List Int).length then ([]:List Int).getD (k-i) 0 else p.works k)=p.works:=funext λk=>if_neg aD
 rw [this]
def P6(ws:List AA)(k:Nat):Int×Int:=((ws.getD k AA.z).low,(ws.getD k AA.z).high)
def SX(js:List AK)(k:Nat):Int×Int:=((js.getD k AK.z).low,(js.getD k AK.z).high)
section
variable {ws:List AA} {js:List AK} {ns:List AJ} {ag:AF->Bool}
theorem SY:∀(f i:Nat)(p:AF),ws.length<=i->CB ag ws js f i p=(dfs (SX js) f (i-ws.length)).map (L9 p (i-ws.length))
 | 0,i,p,_=>by
  show [p]=[[]].map _;rw [List.map_singleton,Zo]
 | f+1,i,p,h=>by
  rw [DN];have e1:CK ws js i=(SX js (i-ws.length)).1:=if_neg aA;have e2:Eu ws js i=(SX js (i-ws.length)).2:=if_neg aA;show _=((Ej _ _).flatMap _).map _;rw [e1,e2,List.map_flatMap];congr 1;funext n;unfold B3;rw [if_neg aA,SY f (i+1) _ aA,List.map_map,show i+1-ws.length=i-ws.length+1 by omega];congr 1;funext s;show _=L9 p (i-ws.length) (n ::s);rw [Wx h,show i+1-ws.length=i-ws.length+1 by omega]
theorem Nz{V β:Type}(q:V->Bool)(F:V->List β):∀l:List V,(l.filter q).flatMap F=l.flatMap λx=>if q x=true then F x else []
 | []=>rfl
 | x ::l=>by
  rw [List.filter_cons,List.flatMap_cons,<-Nz q F l];by_cases h:q x=true
  ·rw [if_pos h,if_pos h,List.flatMap_cons]
  ·rw [if_neg h,if_neg h,List.nil_append]
theorem VU:∀(f i:Nat)(p:AF),i+(f+1)=ws.length->CB ag ws js (f+1+js.length) i p=(dfs (P6 ws) (f+1) i).flatMap λs=>if ag (L8 p i s)=true then CB ag ws js js.length ws.length (L8 p i s) else []
 | 0,i,p,h=>by
  rw [show 0+1+js.length=js.length+1 by omega,DN];have e1:CK ws js i=(P6 ws i).1:=if_pos aA;have e2:Eu ws js i=(P6 ws i).2:=if_pos aA;show _=((Ej _ _).flatMap λn=>[[n]]).flatMap _;rw [e1,e2,List.flatMap_assoc];congr 1;funext n;rw [List.flatMap_cons,List.flatMap_nil,List.append_nil,P5 (nw:=ws.length) aA,SW];unfold B3;cases hb:ag (p.put ws.length i n) with
  | false=>rw [if_pos ⟨aA,rfl⟩];rfl
  | true=>rw [if_neg (λq=>by cases q.2),if_pos rfl,show i+1=ws.length by omega]
 | f+1,i,p,h=>by
  rw [show f+1+1+js.length=(f+1+js.length)+1 by omega,DN];have e1:CK ws js i=(P6 ws i).1:=if_pos aA;have e2:Eu ws js i=(P6 ws i).2:=if_pos aA;show _=((Ej _ _).flatMap λn=>(dfs (P6 ws) (f+1) (i+1)).map λs=>n ::s).flatMap _;rw [e1,e2,List.flatMap_assoc];congr 1;funext n;unfold B3;rw [if_neg (λq=>aA),VU f (i+1) _ aA,List.flatMap_map];congr 1;funext s;rw [P5 (nw:=ws.length) aA]
def Wy(ws:List AA)(js:List AK)(ns:List AJ):List (List Int×List Int):=
 ((J9 (P6 ws) ws.length).filter λw=>Bp ns (Yp w [])).flatMap λw=>(J9 (SX js) js.length).map λk=>(w,k)
theorem SZ{w:List Int}:L8 AF.zero 0 w=Yp w []:=by
 unfold L8 Yp AF.zero;congr 1
 ·funext k;by_cases h:k<w.length
  ·rw [if_pos aA];rfl
  ·rw [if_neg aA,Bt aA]
theorem Zp{w k:List Int}:L9 (Yp w []) 0 k=Yp w k:=by
 unfold L9 Yp;congr 1;funext i;by_cases h:i<k.length
 ·rw [if_pos aA];rfl
 ·rw [if_neg aA,Bt aA];rfl
theorem N0:AB ws js ns=(Wy ws js ns).map λx=>Yp x.1 x.2:=by
 have wk:∀w:List Int,CB (Bp ns) ws js js.length ws.length (Yp w [])=(J9 (SX js) js.length).map λk=>Yp w k:=λw=>by
  rw [SY _ _ _ (Nat.le_refl _),Nat.sub_self,P4];congr 1;funext k;exact Zp
 unfold Wy;rw [Nz,List.map_flatMap];have rhs:∀w:List Int,(if Bp ns (Yp w [])=true then (J9 (SX js) js.length).map λk=>(w,k) else []).map (λx=>Yp x.1 x.2)=if Bp ns (Yp w [])=true then CB (Bp ns) ws js js.length ws.length (Yp w []) else []:=λw=>by
  split
  ·rw [wk,List.map_map];rfl
  ·rfl
 simp only [rhs];unfold AB;rcases Nat.eq_zero_or_pos ws.length with h | h
 ·rw [h,Nat.zero_add];show _=[[]].flatMap _;rw [List.flatMap_cons,List.flatMap_nil,List.append_nil];have z:(Yp [] []:AF)=AF.zero:=by rw [<-SZ,SW]
  rw [z];by_cases c:Bp ns AF.zero=true
  ·rw [if_pos (.inr c),if_pos c]
  ·rw [if_neg (λq=>q.elim aA c),if_neg c]
 ·rw [if_pos (.inl h)]
  have:=VU (ag:=Bp ns) (ws:=ws) (js:=js) (ws.length-1) 0 AF.zero aA
  rw [show ws.length-1+1=ws.length by omega] at this;rw [this,P4];congr 1;funext w;rw [SZ]
end
end Go.Ns
namespace Go.Ns
section
variable {np x i k:Nat} {o:Nat->Int} {v:Int} {ws:List AA} {p:AF}
end
section
variable {bag kinds:Int} {ps:List ByteArray} {ws:List AA} {js:List AK} {ns:List AJ} {p:AF} {x i:Nat}
end
section
variable {F:AF->Int} {pq:List AF} {hl:List (List Int×List Int)}
end
end Go.Ns
namespace Go.Ns
open Go.Conc
section
variable {S:Nat->Int×Int}
end
section
variable {bag kinds:Int} {ps:List ByteArray} {ws:List AA} {js:List AK} {ns:List AJ} {k:Nat}
section
variable {W K:List (List Int)} {i j:Nat}
end
end
section
variable {bag kinds:Int} {ps:List ByteArray} {ws:List AA} {js:List AK} {ns:List AJ} {l:List Int} {p:AF}
end
section
variable {G:AF->Int} {pq:List AF} {due:Int}
end
section
variable {bag kinds:Int} {ps:List ByteArray} {ws:List AA} {js:List AK} {ns:List AJ} {l:List Int}
theorem VV(hz:A4 bag kinds ps ws js ns=0):K9 bag kinds ps ws js ns=((AB ws js ns).length:Int):=if_pos hz
theorem lateB0{i:Int}(hr:Jh js.length l)(hi:0<=i/\i<=(l.length:Int)-1):CH js.length l i=0:=by
 unfold CH;rw [if_neg (λq=>q hr.bell),if_neg (λq=>q hi)]
end
section
variable {G:AF->Int} {pq:List AF} {due v:Int} {i:Nat}
end
end Go.Ns
namespace Go.Ns
section
variable {ws:List AA} {l:List Int} {k j np:Nat} {w:AA} {p q:Int}
theorem P7(h:p=l.getD k 0):q ∈ HK l k p q:=by
 unfold HK;split
 ·simp
 ·rename_i e;exact Decidable.byContradiction λn=>e ⟨h,n⟩
theorem T1(h:w.a=l.getD k 0):w.b ∈ Co l k w:=(H6 _ _ _ _).subset (P7 h)
theorem T3(hk:k<l.length)(h:w.b=l.getD k 0):w.a ∈ Co l k w:=P7 (h.trans (Ps (H6 _ _ _ _) hk).symm)
theorem Ie(hk:k<l.length):∀n,j<n->((ws.getD j AA.z).a=l.getD k 0->(ws.getD j AA.z).b ∈ Af ws l k n)/\((ws.getD j AA.z).b=l.getD k 0->(ws.getD j AA.z).a ∈ Af ws l k n)
 | n+1,h=>by
  by_cases e:j=n
  ·subst e;have hl:=FY (ws:=ws) (l:=l) (k:=k) j;have e2:=Ps hl hk;exact ⟨λx=>T1 (x.trans e2.symm),λx=>T3 (Nat.lt_of_lt_of_le hk hl.length_le) (x.trans e2.symm)⟩
  ·have ih:=Ie hk n aA;exact ⟨λx=>(Id _ _ _).subset (ih.1 x),λx=>(Id _ _ _).subset (ih.2 x)⟩
theorem JQ(m:Nat):∀d,Aq ws m<+:Aq ws (m+d)
 | 0=>List.prefix_refl _
 | d+1=>by
  refine (JQ m d).trans ?_;show Aq ws (m+d)<+:Aq ws (m+d+1)
  conv=>rhs;unfold Aq
  split
  ·exact FY _
  ·exact List.prefix_refl _
theorem T4(ok:HC np (C0 ws))(hnp:np<=4)(hj:j<ws.length):(ws.getD j AA.z).a ∈ C0 ws↔(ws.getD j AA.z).b ∈ C0 ws:=by
 have hl:=ok.len;have key:∀{y z:Int},((∀k l,k<l.length->y=l.getD k 0->z ∈ Af ws l k ws.length))->y ∈ C0 ws->z ∈ C0 ws:=by
  intro y z hz hy;obtain ⟨k,hk,e⟩:=List.mem_iff_getElem.1 hy;have e2:(C0 ws).getD k 0=y:=by rw [List.getD_eq_getElem?_getD,List.getElem?_eq_getElem hk];exact e
  have hkn:k<(Aq ws k).length:=Decidable.byContradiction λn=>by
   have q:=SS (ws:=ws) (k:=k) aA aA;rw [q] at hk;omega
  have p1:Aq ws k<+:C0 ws:=by
   have q:=JQ (ws:=ws) k (4-k);rw [show k+(4-k)=4 by omega] at q;exact q
  have p2:Aq ws (k+1)<+:C0 ws:=by
   have q:=JQ (ws:=ws) (k+1) (4-(k+1));rw [show k+1+(4-(k+1))=4 by omega] at q;exact q
  refine p2.subset ?_;rw [J3 hkn];exact hz k _ hkn (by rw [<-e2];exact Ps p1 hkn)
 exact ⟨key λk l hk e=>(Ie hk ws.length hj).1 e,key λk l hk e=>(Ie hk ws.length hj).2 e⟩
theorem Zq{R:List Int}{c:GR}{x:AA}(h:∀v,c v=true->(v:Int) ∈ R)(hx:((x.a.toNat:Nat):Int) ∈ R↔((x.b.toNat:Nat):Int) ∈ R):∀v,D6 c x v=true->(v:Int) ∈ R:=by
 have h1:∀v,(c.set x.a.toNat (c x.a.toNat || c x.b.toNat)) v=true->(v:Int) ∈ R:=λv hv=>by
  unfold GR.set at hv;split at hv
  ·rename_i e;subst e
   rcases Bool.or_eq_true_iff.1 hv with q | q
   ·exact h _ q
   ·exact hx.2 (h _ q)
  ·exact h _ hv
 intro v hv;unfold D6 at hv;generalize c.set x.a.toNat (c x.a.toNat || c x.b.toNat)=c' at h1 hv;unfold GR.set at hv;split at hv
 ·rename_i e;subst e
  rcases Bool.or_eq_true_iff.1 hv with q | q
  ·exact h1 _ q
  ·exact hx.1 (h1 _ q)
 ·exact h1 _ hv
theorem P8{R:List Int}:∀(m:List AA)(c:GR),(∀v,c v=true->(v:Int) ∈ R)->(∀x ∈ m,((x.a.toNat:Nat):Int) ∈ R↔((x.b.toNat:Nat):Int) ∈ R)->∀v,m.foldl D6 c v=true->(v:Int) ∈ R
 | [],_,h,_=>h
 | x ::m,c,h,hx=>P8 m _ (Zq h (hx x aD)) λy hy=>hx y (List.mem_cons_of_mem _ hy)
theorem Sa{R:List Int}(hx:∀x ∈ ws,((x.a.toNat:Nat):Int) ∈ R↔((x.b.toNat:Nat):Int) ∈ R):∀n (c:GR),(∀v,c v=true->(v:Int) ∈ R)->∀v,Di ws n c v=true->(v:Int) ∈ R
 | 0,_,h=>h
 | n+1,c,h=>Sa hx n _ (P8 ws c h hx)
theorem T5(hn:0<np)(hnp:np<=4)(hw:LE np ws)(h:Dv np ws=0):¬(C0 ws).length<np:=by
 have ok:HC np (C0 ws):=In hn hw 4;have h0:(0:Int) ∈ C0 ws:=(JQ (ws:=ws) 0 4).subset (by simp [Aq]);have hx:∀x ∈ ws,((x.a.toNat:Nat):Int) ∈ C0 ws↔((x.b.toNat:Nat):Int) ∈ C0 ws:=λx hx=>by
  obtain ⟨j,hj,e⟩:=List.mem_iff_getElem.1 hx;have e2:ws.getD j AA.z=x:=by rw [List.getD_eq_getElem?_getD,List.getElem?_eq_getElem hj];exact e
  have r:=hw j hj;rw [e2] at r;rw [Int.toNat_of_nonneg r.1.1,Int.toNat_of_nonneg r.2.1,<-e2];exact T4 ok hnp hj
 have all:∀y,y<np->(y:Int) ∈ C0 ws:=λy hy=>by
  refine Sa hx np c0 (λv hv=>?_) y (Decidable.byContradiction λn=>?_)
  ·unfold c0 GR.set GR.none at hv;split at hv
   ·rename_i e;subst e;exact h0
   ·cases hv
  ·have:(Mf (Di ws np c0) np).any (λx=>(false==x))=true:=List.any_eq_true.2 ⟨false,by
    unfold Mf;exact List.mem_map.2 ⟨y,List.mem_range.2 hy,by simpa using n⟩,rfl⟩
   unfold Dv at h;rw [show GR.none.set 0 true=c0 from rfl,if_pos this] at h;cases h
 intro hlt
 have:=Tk (C0 ws).length np (λy=>(C0 ws).idxOf (y:Int)) (λi hi=>List.idxOf_lt_length_of_mem (all i hi)) λi j hij hj e=>by
  have a:=List.getElem_idxOf (List.idxOf_lt_length_of_mem (all i aA));have b:=List.getElem_idxOf (List.idxOf_lt_length_of_mem (all j hj));have e2:(C0 ws).idxOf (i:Int)=(C0 ws).idxOf (j:Int):=e
  have:(i:Int)=(j:Int):=by rw [<-a,<-b];congr 1
  omega
 omega
theorem rWays_eq(hn:0<np)(hnp:np<=4):Ey np ws=Dw np ws:=by
 unfold Ey Dw;split
 ·rfl
 ·split
  ·rfl
  ·rename_i b
   have z:=DG (Decidable.not_not.1 b);have hw:LE np ws:=Wp λk hk=>z k (Nat.zero_le _) aA;split
   ·rename_i c
    have:¬Dv np ws=0:=λe=>T5 hn hnp hw e c
    unfold Dv at this ⊢;split
    ·rfl
    ·rename_i d;rw [if_neg d] at this;exact absurd rfl this
   ·rename_i c;exact (L6 hn hw c).symm
variable {bag kinds:Int} {ps:List ByteArray} {js:List AK} {ns:List AJ}
theorem Mx:DP bag kinds ps ws js ns=A4 bag kinds ps ws js ns:=by
 unfold DP A4;simp only [Cw,Ia];by_cases h0:GC bag kinds=0
 ·rw [if_neg (λn=>n h0),if_pos h0];by_cases h1:BH ps=0
  ·have hp:=H7 h1;rw [if_neg (λn=>n h1),if_pos h1,rWays_eq hp.1 hp.2];by_cases h2:Dw ps.length ws=0
   ·rw [if_neg (λn=>n h2),if_pos h2];by_cases h3:B6 ps.length kinds js=0
    ·rw [if_neg (λn=>n h3),if_pos h3];split
     ·rename_i e;exact e
     ·rfl
    ·rw [if_pos h3,if_neg h3]
   ·rw [if_pos h2,if_neg h2]
  ·rw [if_pos h1,if_neg h1]
 ·rw [if_pos h0,if_neg h0]
end
end Go.Ns
namespace Go.Ns
section
variable {bag kinds:Int} {ps:List ByteArray} {ws:List AA} {js js':List AK} {ns:List AJ} {l:List Int} {p:AF} {np:Nat} {pq:List AF} {f g:Nat->Value} {i:Int}
variable (hl:js'.length=js.length) (h:∀k,P2 (js'.getD k AK.z) (js.getD k AK.z))
include h
theorem Yq:∀q,GI js' l q=GI js l q
 | 0=>rfl
 | q+1=>(h _).p
theorem VW:∀q,Bf np ws js' p l q=Bf np ws js p l q
 | 0=>rfl
 | q+1=>by
  show Bf np ws js' p l q+(AW np ws p (GI js' l q).toNat (js'.getD (l.getD q 0).toNat AK.z).place.toNat+p.works (l.getD q 0).toNat)=Bf np ws js p l q+(AW np ws p (GI js l q).toNat (js.getD (l.getD q 0).toNat AK.z).place.toNat+p.works (l.getD q 0).toNat);rw [VW q,Yq h q,(h _).p]
theorem Sb:∀q,CR kinds js' l q=CR kinds js l q
 | 0=>rfl
 | q+1=>by unfold CR;rw [Sb q,(h _).ps]
include hl
end
section
variable {bag kinds:Int} {ps:List ByteArray} {ws:List AA} {js:List AK} {ns:List AJ} {l:List Int} {i:Int}
variable (hz:A4 bag kinds ps ws js ns=0) (f g:Nat->Value)
include hz
end
end Go.Ns
namespace Go.Ns
structure Ei(ws:List AA)(js:List AK)(ns:List AJ)(vs:List AA)(ks:List AK)(ms:List AJ):Prop where
 wl:vs.length=ws.length
 w:∀k,(vs.getD k AA.z).a=(ws.getD k AA.z).a/\(vs.getD k AA.z).b=(ws.getD k AA.z).b
 jl:ks.length=js.length
 j:∀k,P2 (ks.getD k AK.z) (js.getD k AK.z)
 sub:(AB vs ks ms).Sublist (AB ws js ns)
 pos:0<(AB vs ks ms).length
section
variable {F:AF->Int} {l m:List AF}
theorem P9(hs:m.Sublist l)(hm:0<m.length):Bg F l<=Bg F m:=by
 obtain ⟨x,hx,e⟩:=VK (F:=F) hm;rw [e];exact fMin_le (hs.subset hx)
theorem QA(hs:m.Sublist l)(hm:0<m.length):BC F m<=BC F l:=by
 obtain ⟨x,hx,e⟩:=fMax_mem (F:=F) hm;rw [e];exact Ym (hs.subset hx)
end
section
variable {bag kinds:Int} {ps:List ByteArray} {ws vs:List AA} {js ks:List AK} {ns ms:List AJ} {l:List Int} {p:AF} {np i:Nat} {x:Int}
theorem Wz(h1:vs.length=ws.length)(h:∀k,(vs.getD k AA.z).a=(ws.getD k AA.z).a/\(vs.getD k AA.z).b=(ws.getD k AA.z).b):AW np vs p=AW np ws p:=by
 unfold AW BS;rw [h1,show Mg p vs=Mg p ws from funext λm=>funext λk=>by unfold Mg;rw [(h k).1,(h k).2]]
theorem now_ab(h1:vs.length=ws.length)(h:∀k,(vs.getD k AA.z).a=(ws.getD k AA.z).a/\(vs.getD k AA.z).b=(ws.getD k AA.z).b):∀q,Bf np vs js p l q=Bf np ws js p l q
 | 0=>rfl
 | q+1=>by unfold Bf;rw [now_ab h1 h q,Wz h1 h]
variable (L:Ei ws js ns vs ks ms)
include L
theorem Ei.p0:0<(AB ws js ns).length:=Nat.lt_of_lt_of_le L.pos L.sub.length_le
theorem Ei.now(q:Nat):Bf np vs ks p l q=Bf np ws js p l q:=by rw [VW L.j,now_ab L.wl L.w]
theorem Ei.home:Aa np vs ks p l=Aa np ws js p l:=by
 unfold Aa;rw [L.now,Yq L.j,Wz L.wl L.w]
theorem Ei.homes:Bg (λx=>Aa np ws js x l) (AB ws js ns)<=Bg (λx=>Aa np vs ks x l) (AB vs ks ms)/\BC (λx=>Aa np vs ks x l) (AB vs ks ms)<=BC (λx=>Aa np ws js x l) (AB ws js ns):=by
 rw [show (λx=>Aa np vs ks x l)=λx=>Aa np ws js x l from funext λx=>L.home];exact ⟨P9 L.sub L.pos,QA L.sub L.pos⟩
theorem Ei.fars(a b:Nat):Bg (λx=>AW np ws x a b) (AB ws js ns)<=Bg (λx=>AW np vs x a b) (AB vs ks ms)/\BC (λx=>AW np vs x a b) (AB vs ks ms)<=BC (λx=>AW np ws x a b) (AB ws js ns):=by
 rw [show (λx=>AW np vs x a b)=λx=>AW np ws x a b from funext λx=>by rw [Wz L.wl L.w]];exact ⟨P9 L.sub L.pos,QA L.sub L.pos⟩
theorem Ei.ends(k:Nat):Kp np ws js (AB ws js ns) l k<=Kp np vs ks (AB vs ks ms) l k/\Kq np vs ks (AB vs ks ms) l k<=Kq np ws js (AB ws js ns) l k:=by
 unfold Kp Kq;rw [show (λx=>Bf np vs ks x l (k+1))=λx=>Bf np ws js x l (k+1) from funext λx=>L.now _];exact ⟨P9 L.sub L.pos,QA L.sub L.pos⟩
theorem Ei.safe(h:B7 np ws js (AB ws js ns) l bag kinds=true):B7 np vs ks (AB vs ks ms) l bag kinds=true:=by
 unfold B7 DH at h ⊢;rw [Bool.and_eq_true] at h ⊢;rw [Sb L.j];refine ⟨h.1,List.all_eq_true.2 λk hk=>?_⟩;have a:=List.all_eq_true.1 h.2 k hk;unfold Mi at a ⊢;rw [(L.j _).du]
 have:=of_decide_eq_true a
 have:=(L.ends (np:=np) (l:=l) k).2
 exact decide_eq_true aA
variable (hz:A4 bag kinds ps ws js ns=0) (hz2:A4 bag kinds ps vs ks ms=0)
include hz hz2
theorem Ei.o1:AV bag kinds ps ws js ns 0=0:=Ti (λn=>n hz) (λn=>n rfl) (by have:=L.p0;omega)
theorem Ei.o2:AV bag kinds ps vs ks ms 0=0:=Ti (λn=>n hz2) (λn=>n rfl) (by have:=L.pos;omega)
theorem Ei.rd(hr:Jh js.length l):Jh ks.length l:=by rw [L.jl];exact hr
theorem Ei.safeR(hr:Jh js.length l)(h:safeR bag kinds ps ws js ns l=true):Go.Ns.safeR bag kinds ps vs ks ms l=true:=by
 rw [VP (L.o1 hz hz2) hr] at h;rw [VP (L.o2 hz hz2) (L.rd hz hz2 hr)];exact L.safe h
theorem Ei.safe9(hr:Jh js.length l):(Go.Ns.safeR bag kinds ps ws js ns l && !Go.Ns.safeR bag kinds ps vs ks ms l)=false:=by
 cases e:Go.Ns.safeR bag kinds ps ws js ns l with
 | false=>rfl
 | true=>rw [L.safeR hz hz2 hr e];rfl
theorem Ei.never(h:x ∈ GJ bag kinds ps vs ks ms):x ∈ GJ bag kinds ps ws js ns:=by
 obtain ⟨h1,h2⟩:=(ST (L.o2 hz hz2)).1 h;rw [L.jl] at h1;refine (ST (L.o1 hz hz2)).2 ⟨h1,λr hr=>h2 r ?_⟩;obtain ⟨a,b⟩:=J7.1 hr;exact J7.2 ⟨L.rd hz hz2 a,L.safe b⟩
theorem Ei.late(hr:Jh js.length l)(hi:i<l.length)(h:¬Cs bag kinds ps ws js ns l i=0):Cs bag kinds ps ws js ns l i=Cs bag kinds ps vs ks ms l i:=by
 have b1:CH js.length l i=0:=by
  unfold CH;rw [hr.bell,if_neg aD,if_neg aA]
 have b2:CH ks.length l i=0:=by rw [L.jl];exact b1
 have e:=L.ends (np:=ps.length) (l:=l) i;have z:¬¬(0:Int)=0:=λn=>n rfl;unfold Cs at h ⊢;rw [b1,L.o1 hz hz2,if_neg z] at h;rw [b1,b2,L.o1 hz hz2,L.o2 hz hz2,if_neg z,if_neg z,(L.j _).du];rw [Int.toNat_natCast] at h ⊢;have p2:=L.pos;obtain ⟨y,hy,e1⟩:=VK (F:=λx=>Bf ps.length vs ks x l (i+1)) p2;have q:=Ym (F:=λx=>Bf ps.length vs ks x l (i+1)) hy;have e2:Kp ps.length vs ks (AB vs ks ms) l i<=Kq ps.length vs ks (AB vs ks ms) l i:=by unfold Kp Kq;rw [e1];exact q
 by_cases c1:(js.getD (l.getD i 0).toNat AK.z).due<Kp ps.length ws js (AB ws js ns) l i
 ·rw [if_pos c1,if_pos (show (js.getD (l.getD i 0).toNat AK.z).due<Kp ps.length vs ks (AB vs ks ms) l i by omega)]
 ·by_cases c2:Kq ps.length ws js (AB ws js ns) l i<=(js.getD (l.getD i 0).toNat AK.z).due
  ·rw [if_neg c1,if_pos c2,if_neg (show¬(js.getD (l.getD i 0).toNat AK.z).due<Kp ps.length vs ks (AB vs ks ms) l i by omega),if_pos (show Kq ps.length vs ks (AB vs ks ms) l i<=(js.getD (l.getD i 0).toNat AK.z).due by omega)]
  ·rw [if_neg c1,if_neg c2] at h;exact absurd rfl h
end
theorem T6:∀{a b:List Int},a.Pairwise (· < ·)->b.Pairwise (· < ·)->(∀x ∈ a,x ∈ b)->a.Sublist b
 | [],_,_,_,_=>List.nil_sublist _
 | x ::a,[],_,_,h=>absurd (h x aD) aD
 | x ::a,y ::b,ha,hb,h=>by
  obtain ⟨a1,a2⟩:=List.pairwise_cons.1 ha;obtain ⟨b1,b2⟩:=List.pairwise_cons.1 hb;by_cases e:x=y
  ·subst e;refine (T6 a2 b2 λz hz=>?_).cons_cons _
   have:=a1 z hz
   exact (List.mem_cons.1 (h z (List.mem_cons_of_mem _ hz))).elim (λq=>aA) id
  ·have hx:x ∈ b:=(List.mem_cons.1 (h x aD)).elim (λq=>absurd q e) id
   have:=b1 x hx
   refine (T6 ha b2 λz hz=>?_).cons _;refine (List.mem_cons.1 (h z hz)).elim (λq=>?_) id;rcases List.mem_cons.1 hz with q2 | q2
   ·exact absurd (q2.symm.trans q) e
   ·have:=a1 z q2;omega
theorem VX{V β:Type}{F G:V->List β}{l m:List V}(h:m.Sublist l)(hF:∀x,(G x).Sublist (F x)):(m.flatMap G).Sublist (l.flatMap F):=by
 induction h with
 | slnil=>exact List.Sublist.refl _
 | cons x _ ih=>rw [List.flatMap_cons];exact ih.trans (List.sublist_append_right _ _)
 | cons_cons x _ ih=>rw [List.flatMap_cons,List.flatMap_cons];exact (hF x).append ih
theorem W0{V:Type}{p q:V->Bool}(h:∀x,p x=true->q x=true)(l:List V):(l.filter p).Sublist (l.filter q):=by
 rw [show l.filter p=(l.filter q).filter p by
  rw [List.filter_filter];refine List.filter_congr λx _=>?_;cases hp:p x
  ·rfl
  ·rw [h x hp];rfl]
 exact List.filter_sublist
theorem Sd(lo hi:Int):(Ej lo hi).Pairwise (· < ·):=by
 unfold Ej Ce;exact List.pairwise_map.2 (List.pairwise_lt_range.imp λ{a b} h=>aA)
theorem VY{S T:Nat->Int×Int}:∀m,(∀k,k<m->(S k).1<=(T k).1/\(T k).2<=(S k).2)->(J9 T m).Sublist (J9 S m)
 | 0,_=>List.Sublist.refl _
 | m+1,h=>VX (VY m λk hk=>h k aA) λx=>by
  refine List.Sublist.map _ (T6 (Sd _ _) (Sd _ _) λn hn=>?_)
  have:=MY.1 hn
  have:=h m aA
  exact MY.2 aA
section
variable {ws vs:List AA} {js:List AK} {ns ms:List AJ} {x:AJ} {i:Nat} {lo hi:Int}
theorem Se(hl:vs.length=ws.length)(h:∀k,k<ws.length->(ws.getD k AA.z).low<=(vs.getD k AA.z).low/\(vs.getD k AA.z).high<=(ws.getD k AA.z).high)(hn:∀p,Bp ms p=true->Bp ns p=true):(AB vs js ms).Sublist (AB ws js ns):=by
 rw [N0,N0];refine List.Sublist.map _ ?_;unfold Wy;refine VX (List.Sublist.trans (List.Sublist.filter _ ?_) (W0 (λw=>hn _) _)) λw=>List.Sublist.refl _;rw [hl];exact VY _ λk hk=>h k hk
theorem W1{p:AF}(h:Bp (ns++[x]) p=true):Bp ns p=true:=by
 unfold Bp at h ⊢;rw [List.all_append,Bool.and_eq_true] at h;exact h.1
theorem VZ(f g:Nat->Value)(h:0<(AB ws js (ns++[x])).length):Ei ws js ns ws (GU js f js.length) (HG (ns++[x]) g (ns++[x]).length) where
 wl:=rfl
 w:=λ_=>⟨rfl,rfl⟩
 jl:=Fg _ _ _
 j:=H8 _ _ _
 sub:=by rw [L7];exact Se rfl (λ_ _=>⟨Int.le_refl _,Int.le_refl _⟩) λ_=>W1
 pos:=by rw [L7];exact h
theorem N1(f g:Nat->Value)(hlo:(ws.getD i AA.z).low<=lo)(hhi:hi<=(ws.getD i AA.z).high)(h:0<(AB (timed ws i lo hi) js ns).length):Ei ws js ns (timed ws i lo hi) (GU js f js.length) (HG ns g ns.length) where
 wl:=Hn
 w:=λk=>by
  rw [KR];split
  ·rename_i e;rw [e.1];exact ⟨rfl,rfl⟩
  ·exact ⟨rfl,rfl⟩
 jl:=Fg _ _ _
 j:=H8 _ _ _
 sub:=by
  rw [L7];refine Se Hn (λk _=>?_) λ_=>id;rw [KR];split
  ·rename_i e;rw [e.1];exact ⟨hlo,hhi⟩
  ·exact ⟨Int.le_refl _,Int.le_refl _⟩
 pos:=by rw [L7];exact h
end
theorem LH{bag kinds:Int}{ps:List ByteArray}{ws:List AA}{js:List AK}{ns:List AJ}{s:Int}(h:AV bag kinds ps ws js ns s=0):A4 bag kinds ps ws js ns=0:=Decidable.byContradiction λn=>n ((Th n).symm.trans h)
theorem Sf{np:Nat}(h:0<np):B0 np [0,(np:Int)-1]=0:=by
 have h1:(0:Int)<=0/\(0:Int)<=(np:Int)-1:=aA
 have h2:0<=(np:Int)-1/\(np:Int)-1<=(np:Int)-1:=aA
 refine Nf (k:=2) (λk hk=>?_) (Nat.le_refl _)
 match k with
 | 0=>exact if_neg λn=>n h1
 | 1=>exact if_neg λn=>n h2
end Go.Ns
namespace Go.Ns
open Go.Conc
universe u
theorem Z{V:Sort u}{a:V}:a=a:=rfl
theorem Lr{h:GH}:GH.Le h h:=GH.Le.refl h
theorem Ln{h h':GH}(l:h.Le h'){r:Nat}(hr:h' r=none):h r=none:=l.nothing hr
theorem B8{h:GH}{b r:Nat}{p:Bool}{o:Obj}(hb:h b=some (p,o))(hr:h r=none):b≠r:=GH.ne_of hb hr
theorem Nb{a b:Nat}(h:Nat.ble a b=true):a<=b:=Nat.le_of_ble_eq_true h
theorem Dn{p:Prop}[Decidable p](h:¬¬p):p:=Decidable.not_not.1 h
theorem Et{V:Sort u}{a b c:V}(x:a=b)(y:b=c):a=c:=x.trans y
theorem Kl{h0 h:GH}(k:KeepD (λb=>h0 b=none) h0 h):h0.Le h:=k.leOf
theorem Bx{h:GH}{b:Nat}{p:Bool}{c:Array Value}{t:TypeId}{f:Nat×Nat}(hb:h b=some (p,.cells c t f)){n:Nat}(hn:c.size=n):AZ h b 0 n c:=AZ.box hb hn
abbrev lE(v:Value):Law2:=λ_ u _=>u=v
abbrev lF(v:Value):Rq:=λu _=>u=v
abbrev zP:Array Value:=#[.int .i64 0,.int .i64 0,.slice none 0 0,.slice none 0 0,.slice none 0 0,.slice none 0 0,.map none]
section
variable {P:Program} {E:GV P} {O:Nat->Value} {ds:List Deferred} {h:GH} {Q:Post} {T:(Nat->Value)->List Deferred->GH->Prop}
variable {dst:Option Nat} {ty:TypeId} {pos:String} {af:Array Edge} {ops:Array Oper} {o:Oper} {l:List Oper}
theorem Sq{x y:Code}(a:Tr E x O ds h (λe σ' ds' h'=>match e with | .normal=>Tr E y σ' ds' h' Q | e=>Q e σ' ds' h')):Tr E (.seq x y) O ds h Q:=tr_seq a
theorem Rg{id:Nat}{l:List Oper}(a:DK E l.toArray l O ds h Q):Tr E (.region id l.toArray false) O ds h Q:=Yw a
theorem Nl(q:Q .normal O ds h):DK E ops [] O ds h Q:=trL_nil q
abbrev Rt:=@tr_ret
abbrev Bk:=@tr_block
abbrev Sk:=@tr_skip
abbrev Xt:=@tr_exit
def plainB(N:Nat)(o:Oper):Bool:=o.guard.isNone && !C4 o.op && C1 o.dst N
theorem Pl(hp:plainB E.N o=true)(x:BU E o O ds h λσ' ds' h'=>DK E ops l σ' ds' h' Q):DK E ops (o ::l) O ds h Q:=by
 simp only [plainB,Bool.and_eq_true,Option.isNone_iff_eq_none,Bool.not_eq_true'] at hp;exact GZ hp.1.1 hp.1.2 hp.2 x
theorem Mv{x:Operand}(v:Value)(hp:C1 dst E.N=true)(hx:AO O x=v)(k:DK E ops l (putS O dst v) ds h Q):DK E ops (⟨dst,.move x,ty,pos,af,none⟩ ::l) O ds h Q:=GZ rfl rfl hp (TH hx k)
theorem As{x:Operand}(v:Value)(hp:C1 dst E.N=true)(hx:AO O x=v)(k:DK E ops l (putS O dst v) ds h Q):DK E ops (⟨dst,.assign x,ty,pos,af,none⟩ ::l) O ds h Q:=GZ rfl rfl hp (MU hx k)
theorem Ld{t:TypeId}{x:Operand}{b off:Nat}(v:Value)(hp:C1 dst E.N=true)(hx:AO O x=.pointer (some ⟨b,off,none⟩))(hr:Rd P h t b off v)(k:DK E ops l (putS O dst v) ds h Q):DK E ops (⟨dst,.load t x,ty,pos,af,none⟩ ::l) O ds h Q:=
 GZ rfl rfl hp (BF hx hr k)
theorem Fa{s:TypeId}{x:Operand}{f o b off:Nat}(hf:Ds P s f=some o)(hp:C1 dst E.N=true)(hx:AO O x=.pointer (some ⟨b,off,none⟩))(k:DK E ops l (putS O dst (.pointer (some ⟨b,off+o,none⟩))) ds h Q) :
  DK E ops (⟨dst,.fieldAddr s x f,ty,pos,af,none⟩ ::l) O ds h Q:=GZ rfl rfl hp (AC hf hx k)
theorem Pk{c a b:Operand}(t:Bool)(v:Value)(hp:C1 dst E.N=true)(hc:AO O c=.bool t)(hv:(if t then AO O a else AO O b)=v)(k:DK E ops l (putS O dst v) ds h Q):DK E ops (⟨dst,.pick c a b,ty,pos,af,none⟩ ::l) O ds h Q:=
 GZ rfl rfl hp (A3 hc hv k)
theorem Ad{xt yt:TypeId}{x y:Operand}(a b:Int)(hp:C1 dst E.N=true)(hx:AO O x=.int .i64 a)(hy:AO O y=.int .i64 b)(hr: -9223372036854775808<=a+b/\a+b<=9223372036854775807)(k:DK E ops l (putS O dst (.int .i64 (a+b))) ds h Q) :
  DK E ops (⟨dst,.binOp .add xt x y yt,ty,pos,af,none⟩ ::l) O ds h Q:=GZ rfl rfl hp (Oc hx hy hr k)
def skipB(N:Nat)(ops:Array Oper)(o:Oper)(j d:Nat)(is:Bool):Bool:=(match o.guard with
 | some (i,w)=>i==j && w !=is
 | none=>false) && (match ops[j]? with
 | some oj=>(match oj.dst with
  | some e=>e==d
  | none=>false)
 | none=>false) && Nat.blt d N && C1 o.dst N
theorem Gs(j d:Nat){is:Bool}(hv:O d=.bool is)(hs:skipB E.N ops o j d is=true)(x:DK E ops l (putS O o.dst undef) ds h Q):DK E ops (o ::l) O ds h Q:=by
 simp only [skipB,Bool.and_eq_true] at hs;obtain ⟨⟨⟨h1,h2⟩,h3⟩,h4⟩:=hs;cases hg:o.guard with
 | none=>rw [hg] at h1;cases h1
 | some q=>
  obtain ⟨i,w⟩:=q;rw [hg] at h1;simp only [Bool.and_eq_true,beq_iff_eq,bne_iff_ne,ne_eq] at h1;obtain ⟨rfl,hne⟩:=h1;cases hj:ops[i]? with
  | none=>rw [hj] at h2;cases h2
  | some oj=>
   cases hd:oj.dst with
   | none=>simp [hj,hd] at h2
   | some e=>
    obtain rfl:e=d:=by simpa [hj,hd] using h2
    exact OX hg hj hd hv h3 hne h4 x
def goB(N:Nat)(ops:Array Oper)(o:Oper)(j d:Nat)(is:Bool):Bool:=(match o.guard with
 | some (i,w)=>i==j && w==is
 | none=>false) && (match ops[j]? with
 | some oj=>(match oj.dst with
  | some e=>e==d
  | none=>false)
 | none=>false) && Nat.blt d N && !C4 o.op && C1 o.dst N
theorem Gg(j d:Nat){is:Bool}(hv:O d=.bool is)(hs:goB E.N ops o j d is=true)(x:BU E o O ds h λσ' ds' h'=>DK E ops l σ' ds' h' Q):DK E ops (o ::l) O ds h Q:=by
 simp only [goB,Bool.and_eq_true,Bool.not_eq_true'] at hs;obtain ⟨⟨⟨⟨h1,h2⟩,h3⟩,h5⟩,h4⟩:=hs;cases hg:o.guard with
 | none=>rw [hg] at h1;cases h1
 | some q=>
  obtain ⟨i,w⟩:=q;rw [hg] at h1;simp only [Bool.and_eq_true,beq_iff_eq] at h1;obtain ⟨rfl,rfl⟩:=h1;cases hj:ops[i]? with
  | none=>rw [hj] at h2;cases h2
  | some oj=>
   cases hd:oj.dst with
   | none=>simp [hj,hd] at h2
   | some e=>
    obtain rfl:e=d:=by simpa [hj,hd] using h2
    exact trL_opg hg hj hd hv h3 (.inr h5) h4 x
end
section
variable {S:Nat->Prop} {Pre:Nat->GH->Prop} {Φ:List Law2} {cl:List Nat} {k d:Nat} {h h':GH} {O:Nat->Value} {ds:List Deferred} {v:Value}
theorem fL{Φ:List Rq}(p:LY Φ k v h):ds=ds/\GH.Le h h/\∃w,putS O (some d) v=putS O (some d) w/\LY Φ k w h:=⟨rfl,GH.Le.refl _,_,rfl,p⟩
theorem K1{R:GH->GH->Prop}{Φ:List Rq}{a:Value}(x:F8 R Φ):F8 R (lF a ::Φ):=⟨λ_ _ _ _ y=>y,x⟩
theorem K2{R:GH->GH->Prop}{Φ:List Rq}{a b:Value}(x:F8 R Φ):F8 R (lF a ::lF b ::Φ):=K1 (K1 x)
theorem K4{R:GH->GH->Prop}{Φ:List Rq}{a b c d:Value}(x:F8 R Φ):F8 R (lF a ::lF b ::lF c ::lF d ::Φ):=K2 (K2 x)
theorem K8{R:GH->GH->Prop}{Φ:List Rq}{a b c d a' b' c' d':Value}(x:F8 R Φ):F8 R (lF a ::lF b ::lF c ::lF d ::lF a' ::lF b' ::lF c' ::lF d' ::Φ):=K4 (K4 x)
end
end Go.Ns
namespace Go.Ns
open Go.Conc
section
variable {P:Program} {E:GV P} {O:Nat->Value} {ds:List Deferred} {h:GH} {Q:Post} {T:(Nat->Value)->List Deferred->GH->Prop}
variable {dst:Option Nat} {ty:TypeId} {pos:String} {af:Array Edge} {ops:Array Oper} {o:Oper} {l:List Oper} {gd:Option (Nat×Bool)}
theorem Mz{x:Operand}(v:Value)(e:(C1 dst E.N,AO O x)=(true,v))(k:DK E ops l (putS O dst v) ds h Q):DK E ops (⟨dst,.move x,ty,pos,af,none⟩ ::l) O ds h Q:=Mv v (congrArg Prod.fst e) (congrArg Prod.snd e) k
theorem Az{x:Operand}(v:Value)(e:(C1 dst E.N,AO O x)=(true,v))(k:DK E ops l (putS O dst v) ds h Q):DK E ops (⟨dst,.assign x,ty,pos,af,none⟩ ::l) O ds h Q:=As v (congrArg Prod.fst e) (congrArg Prod.snd e) k
theorem Lz{t:TypeId}{x:Operand}{b off:Nat}(v:Value)(e:(C1 dst E.N,AO O x)=(true,.pointer (some ⟨b,off,none⟩)))(hr:Rd P h t b off v)(k:DK E ops l (putS O dst v) ds h Q):DK E ops (⟨dst,.load t x,ty,pos,af,none⟩ ::l) O ds h Q:=
 Ld v (congrArg Prod.fst e) (congrArg Prod.snd e) hr k
theorem Fz{s:TypeId}{x:Operand}{f o b off:Nat}(hf:Ds P s f=some o)(e:(C1 dst E.N,AO O x)=(true,.pointer (some ⟨b,off,none⟩)))(k:DK E ops l (putS O dst (.pointer (some ⟨b,off+o,none⟩))) ds h Q) :
  DK E ops (⟨dst,.fieldAddr s x f,ty,pos,af,none⟩ ::l) O ds h Q:=Fa hf (congrArg Prod.fst e) (congrArg Prod.snd e) k
theorem Pz{c a b:Operand}(t:Bool)(v:Value)(e:(C1 dst E.N,AO O c,(if t then AO O a else AO O b))=(true,.bool t,v))(k:DK E ops l (putS O dst v) ds h Q):DK E ops (⟨dst,.pick c a b,ty,pos,af,none⟩ ::l) O ds h Q:=
 Pk t v (congrArg Prod.fst e) (congrArg (λq=>q.2.1) e) (congrArg (λq=>q.2.2) e) k
theorem Yd{xt yt:TypeId}{x y:Operand}{a b:Int}(e:(C1 dst E.N,AO O x,AO O y)=(true,.int .i64 a,.int .i64 b))(hr: -9223372036854775808<=a+b/\a+b<=9223372036854775807)(k:DK E ops l (putS O dst (.int .i64 (a+b))) ds h Q) :
  DK E ops (⟨dst,.binOp .add xt x y yt,ty,pos,af,none⟩ ::l) O ds h Q:=Ad a b (congrArg Prod.fst e) (congrArg (λq=>q.2.1) e) (congrArg (λq=>q.2.2) e) hr k
theorem Mo{x:Operand}(v:Value)(hx:AO O x=v)(k:T (putS O dst v) ds h):BU E ⟨dst,.move x,ty,pos,af,gd⟩ O ds h T:=TH hx k
theorem Lo{t:TypeId}{x:Operand}{b off:Nat}(v:Value)(hx:AO O x=.pointer (some ⟨b,off,none⟩))(hr:Rd P h t b off v)(k:T (putS O dst v) ds h):BU E ⟨dst,.load t x,ty,pos,af,gd⟩ O ds h T:=BF hx hr k
theorem Ex{x:Operand}{n:Nat}{vs:Array Value}(v:Value)(e:(AO O x,vs[n]?)=(.tuple vs,some v))(k:T (putS O dst v) ds h):BU E ⟨dst,.extract x n,ty,pos,af,gd⟩ O ds h T:=V7 (congrArg Prod.fst e) (congrArg Prod.snd e) k
theorem Bo{t:TypeId}{x:Operand}{v:Value}(c:Array Value)(hx:AO O x=v)(hc:v.cells=c)
  (k:∀r h',h r=none->h.Le h'->h' r=some (true,.cells c t (0,0))->(∀b,b≠r->h' b=h b)->T (putS O dst (.pointer (some ⟨r,0,none⟩))) ds h'):BU E ⟨dst,.box t x,ty,pos,af,gd⟩ O ds h T:=TJ hx hc k
theorem So{t:TypeId}{a x:Operand}{b off n:Nat}{g:Bool}{c:Array Value}{et:TypeId}(v:Value)(c':Array Value)(ht:Ch P t=some (g,n))(e:(AO O a,AO O x)=(.pointer (some ⟨b,off,none⟩),v))(hb:h b=some (true,.cells c et (0,0)))
  (e2:(v.cells.size,Value.fine v)=(n,true)) (hn:off+n<=c.size) (hc:Bl c off v.cells.toList=c') (k:∀h',h' b=some (true,.cells c' et (0,0))->(∀x,x≠b->h' x=h x)->T (putS O dst undef) ds h') :
  BU E ⟨dst,.store t a x,ty,pos,af,gd⟩ O ds h T:=AY ht (congrArg Prod.fst e) (congrArg Prod.snd e) hb (congrArg Prod.fst e2) (congrArg Prod.snd e2) hn hc k
theorem Ot{fn:Func}{R:Value->GH->Prop}{t:Tmp}(v:Value)(e:(fn.results,O t)=(#[.tmp t],v))(x:R v h):GY P fn O R [] h:=Ja (congrArg Prod.fst e) (congrArg Prod.snd e) x
theorem Ou{fn:Func}{R:Value->GH->Prop}{t u:Tmp}(v v':Value)(e:(fn.results,O t,O u)=(#[.tmp t,.tmp u],v,v'))(x:R (.tuple #[v,v']) h):GY P fn O R [] h:=outs2 (congrArg Prod.fst e) (congrArg (λq=>q.2.1) e) (congrArg (λq=>q.2.2) e) x
theorem Sr{id:Nat}{y:Code}(a:DK E l.toArray l O ds h (λe σ' ds' h'=>match e with | .normal=>Tr E y σ' ds' h' Q | e=>Q e σ' ds' h')):Tr E (.seq (.region id l.toArray false) y) O ds h Q:=Sq (Rg a)
theorem S2{id:Nat}{y z:Code}(a:DK E l.toArray l O ds h (λe σ' ds' h'=>match e with | .normal=>Tr E y σ' ds' h' (λe σ' ds' h'=>match e with | .normal=>Tr E z σ' ds' h' Q | e=>Q e σ' ds' h') | e=>(λe σ' ds' h'=>match e with | .normal=>Tr E z σ' ds' h' Q | e=>Q e σ' ds' h') e σ' ds' h')) :
  Tr E (.seq (.seq (.region id l.toArray false) y) z) O ds h Q:=Sq (Sq (Rg a))
theorem Zr{V:Type}{a b:V}:a=b\/a=a:=.inr rfl
theorem M2{x x':Operand}{dst':Option Nat}{ty':TypeId}{pos':String}{af':Array Edge}(v v':Value)(e:(C1 dst E.N,AO O x,C1 dst' E.N,AO (putS O dst v) x')=(true,v,true,v'))(k:DK E ops l (putS (putS O dst v) dst' v') ds h Q):DK E ops (⟨dst,.move x,ty,pos,af,none⟩ ::⟨dst',.move x',ty',pos',af',none⟩ ::l) O ds h Q:=
 Mv v (congrArg Prod.fst e) (congrArg (λq=>q.2.1) e) (Mv v' (congrArg (λq=>q.2.2.1) e) (congrArg (λq=>q.2.2.2) e) k)
theorem A2{x x':Operand}{dst':Option Nat}{ty':TypeId}{pos':String}{af':Array Edge}(v v':Value)(e:(C1 dst E.N,AO O x,C1 dst' E.N,AO (putS O dst v) x')=(true,v,true,v'))(k:DK E ops l (putS (putS O dst v) dst' v') ds h Q):DK E ops (⟨dst,.assign x,ty,pos,af,none⟩ ::⟨dst',.assign x',ty',pos',af',none⟩ ::l) O ds h Q:=
 As v (congrArg Prod.fst e) (congrArg (λq=>q.2.1) e) (As v' (congrArg (λq=>q.2.2.1) e) (congrArg (λq=>q.2.2.2) e) k)
theorem Ct{W:Wk P}{f:FuncId}{fn:Func}{c:Code}{args:Array Value}{R:Value->GH->Prop}(hf:P.funcs[f]? =some fn)(e:(fn.body,Nat.ble args.size fn.ntmps)=(some c,true))
  (x:Tr ⟨W,f,none,fn.ntmps⟩ c (λi=>args.getD i undef) [] h (λe O ds h'=>(e=.normal\/e=.ret)/\GY P fn O R ds h')):AT W f args h R:=V5 hf (congrArg Prod.fst e) (Nat.le_of_ble_eq_true (congrArg Prod.snd e)) x
end
section
variable {P:Program} {E:GV P} {l:List Oper} {n:Nat} {fl:Bool} {hs:GH} {ds:List Deferred} {Lw:Nat->Value->GH->Prop} {F:(Nat->Value)->GH->Prop} {π:List Nat} {O:Nat->Value} {h:GH} {m k g d:Nat} {dst:Option Nat} {op:Op} {ty:TypeId} {pos:String} {af:Array Edge} {v:Value} {w is:Bool} {og:Oper}
theorem Rz(e:(KZ m,l[k]?)=((.r,k),some ⟨dst,op,ty,pos,af,none⟩))(x:TO E ⟨dst,op,ty,pos,af,none⟩ O ds h v)(y:TD E l n fl hs ds Lw F (dK π) (putS O dst v) h):TD E l n fl hs ds Lw F (dK (m ::π)) O h:=tR (congrArg Prod.fst e) (congrArg Prod.snd e) x y
theorem Rm{x:Operand}(v:Value)(e:(KZ m,l[k]?,AO O x)=((.r,k),some ⟨dst,.move x,ty,pos,af,none⟩,v))(y:TD E l n fl hs ds Lw F (dK π) (putS O dst v) h):TD E l n fl hs ds Lw F (dK (m ::π)) O h:=
 tR (congrArg Prod.fst e) (congrArg (λq=>q.2.1) e) (TH (congrArg (λq=>q.2.2) e) vz) y
theorem Rl{t:TypeId}{x:Operand}{b off:Nat}(v:Value)(e:(KZ m,l[k]?,AO O x)=((.r,k),some ⟨dst,.load t x,ty,pos,af,none⟩,.pointer (some ⟨b,off,none⟩)))(hr:Rd P h t b off v)(y:TD E l n fl hs ds Lw F (dK π) (putS O dst v) h):TD E l n fl hs ds Lw F (dK (m ::π)) O h:=
 tR (congrArg Prod.fst e) (congrArg (λq=>q.2.1) e) (BF (congrArg (λq=>q.2.2) e) hr vz) y
theorem Py(e:(KZ m,l[k]?)=((.p,k),some ⟨dst,op,ty,pos,af,none⟩))(x:∀hx,TO E ⟨dst,op,ty,pos,af,none⟩ O ds hx v)(y:TD E l n fl hs ds Lw F (dK π) (putS O dst v) h):TD E l n fl hs ds Lw F (dK (m ::π)) O h:=tP (congrArg Prod.fst e) (congrArg Prod.snd e) x y
theorem Ry(e:(KZ m,l[k]?,l[g]?,og.dst)=((.r,k),some ⟨dst,op,ty,pos,af,some (g,w)⟩,some og,some d))(h3:O d=.bool w)(x:TO E ⟨dst,op,ty,pos,af,some (g,w)⟩ O ds h v)
  (y:TD E l n fl hs ds Lw F (dK π) (putS O dst v) h):TD E l n fl hs ds Lw F (dK (m ::π)) O h:=tRg (congrArg Prod.fst e) (congrArg (λq=>q.2.1) e) (congrArg (λq=>q.2.2.1) e) (congrArg (λq=>q.2.2.2) e) h3 x y
theorem Sz{kd:Kd}(e:(KZ m,l[k]?,l[g]?,og.dst)=((kd,k),some ⟨dst,op,ty,pos,af,some (g,w)⟩,some og,some d))(h3:O d=.bool is)(hne:(is==w)=false)
  (y:TD E l n fl hs ds Lw F (dK π) (putS O dst undef) h) (hl:(kd !=Kd.l)=true:=by rfl):TD E l n fl hs ds Lw F (dK (m ::π)) O h:=tS (congrArg Prod.fst e) (congrArg (λq=>q.2.1) e) (congrArg (λq=>q.2.2.1) e) (congrArg (λq=>q.2.2.2) e) h3 hne y hl
end
end Go.Ns
namespace Go.Ns
open Go.Conc
structure EZ(h:GH)(ps:List ByteArray)(psv:Value)(ws:List AA)(wsv:Value)(js:List AK)(jsv:Value)(ns:List AJ)(nsv:Value):Prop where
 a:AH h psv 1 D5 ps
 b:AH h wsv 4 CM ws
 c:AH h jsv 5 Cq js
 d:Bn h js
 e:AH h nsv 3 CG ns
 f:Ag h ns
theorem EZ.le{h h':GH}{ps:List ByteArray}{psv:Value}{ws:List AA}{wsv:Value}{js:List AK}{jsv:Value}{ns:List AJ}{nsv:Value}(x:EZ h ps psv ws wsv js jsv ns nsv)(l:h.Le h'):EZ h' ps psv ws wsv js jsv ns nsv:=⟨x.1.le l,x.2.le l,x.3.le l,x.4.le l,x.5.le l,x.6.le l⟩
abbrev J(x:Int):Value:=.int .i64 x
abbrev Pt(b:Nat):Value:=.pointer (some ⟨b,0,none⟩)
abbrev Sc(b:Nat)(n c:Nat):Value:=.slice (some ⟨b,0,none⟩) n c
abbrev Q0:Array Value:=#[J 0,J 0,.slice none 0 0,.slice none 0 0,.slice none 0 0,.slice none 0 0,.slice none 0 0,.map none]
abbrev Q1:Array Value:=#[J 0,J 0,.slice none 0 0,.slice none 0 0,.slice none 0 0,.slice none 0 0]
abbrev Q2(a:List AA)(b:List AK)(c:List AJ)(d:Nat):Array Value:=#[J (((AB a b c).getD (((d:Int)-1).toNat) AF.zero).ways 0),J (((AB a b c).getD (((d:Int)-1).toNat) AF.zero).ways 1),J (((AB a b c).getD (((d:Int)-1).toNat) AF.zero).ways 2),J (((AB a b c).getD (((d:Int)-1).toNat) AF.zero).ways 3),J (((AB a b c).getD (((d:Int)-1).toNat) AF.zero).ways 4)]
abbrev Q3:Value:=.slice none 0 0
abbrev Q4(a:List AA)(b:List AK)(c:List AJ)(d:Nat):Array Value:=#[J (((AB a b c).getD d AF.zero).ways 0),J (((AB a b c).getD d AF.zero).ways 1),J (((AB a b c).getD d AF.zero).ways 2),J (((AB a b c).getD d AF.zero).ways 3),J (((AB a b c).getD d AF.zero).ways 4)]
abbrev Q5(a:List AA)(b:Nat):Array Value:=#[J ((a.getD b AA.z).a),J ((a.getD b AA.z).b),J ((a.getD b AA.z).low),J ((a.getD b AA.z).high)]
abbrev Q6(a:ByteArray)(b:Nat):=decide (¬(((97<=((bytesOf a).getD b 0))/\(((bytesOf a).getD b 0)<=122))\/(((0<(b:Int))/\(48<=((bytesOf a).getD b 0)))/\(((bytesOf a).getD b 0)<=57))))
abbrev Q7(a:Int)(b:List AA):=(a%(b.length:Int)).toNat
abbrev Q8(a:List AJ)(b:Nat):Array Value:=#[(a.getD b AJ.z).wv,J ((a.getD b AJ.z).low),J ((a.getD b AJ.z).high)]
abbrev Q9(a:ByteArray)(b:Nat):=(bytesOf a).getD b 0
abbrev Qa(a:List AK)(b:Nat):=decide ((¬(((0<=((a.getD b AK.z).low)/\((a.getD b AK.z).low)<=((a.getD b AK.z).high))/\((a.getD b AK.z).high)<=30)/\((a.getD b AK.z).high)-((a.getD b AK.z).low)<2))\/(¬(0<=((a.getD b AK.z).due)/\((a.getD b AK.z).due)<=200)))
abbrev Qb(a:List AA)(b:Nat):=(a.getD b AA.z).b
abbrev Qc(a:List AA)(b:Nat):=(a.getD b AA.z).a
abbrev Qd(a:List AK)(b:Nat):Array Value:=#[J ((a.getD b AK.z).place),J ((a.getD b AK.z).low),J ((a.getD b AK.z).high),J ((a.getD b AK.z).due),(a.getD b AK.z).pv]
abbrev Qe(a:List AF)(b:Nat):=(a.drop (1)).getD b AF.zero
abbrev Qf(a:List AK)(b:Nat):=(a.getD b AK.z).high
abbrev Qg(a:List AJ)(b:Nat):=(a.getD b AJ.z).high
abbrev Qh(a:List ByteArray)(b:List AA)(c:List AK)(d:List AJ):=decide ((((20<(a.length:Int))\/(20<(b.length:Int)))\/(20<(c.length:Int)))\/(20<(d.length:Int)))
abbrev Qi(a:List AK)(b:Nat):=(a.getD b AK.z).low
abbrev Qj(a:List AA)(b:Nat)(c:List ByteArray):=decide ((¬(0<=((a.getD b AA.z).a)/\((a.getD b AA.z).a)<=(c.length:Int)-1))\/(¬(0<=((a.getD b AA.z).b)/\((a.getD b AA.z).b)<=(c.length:Int)-1)))
abbrev Qk(a:Int)(b:Int):=decide ((¬(0<=a/\a<=9))\/(¬(0<=b/\b<=3)))
abbrev Ql(a:List AA)(b:List AK)(c:List AJ)(d:Nat):Value:=.agg (Ah ((AB a b c).getD d AF.zero))
abbrev Qm(a:Int)(b:Int):Value:=.bool (decide (a<=b))
abbrev Qn(a:List AA)(b:List AK)(c:List AJ):=AB a b c
abbrev Qo(a:Int)(b:Int)(c:Int)(d:Int):=decide ((((0<=a)/\(a<=b))/\(b<=c))/\((b-a)<d))
abbrev Qp(a:List ByteArray)(b:List AA)(c:Nat):=J (B0 a.length [(b.getD c AA.z).a,(b.getD c AA.z).b])
abbrev Qq(a:List AF):=a.getD 0 AF.zero
abbrev Qr(a:List AK)(b:List Int):=Ai a.length b
abbrev Qs(a:List Int)(b:Nat):=J (a.getD b 0)
abbrev Qt(a:List ByteArray)(b:Int)(c:Int):=B0 a.length [b,c]
abbrev Qu(a:List AA)(b:Nat):=(a.getD b AA.z).high
abbrev Qv(a:List AJ)(b:Nat):=(a.getD b AJ.z).low
abbrev Qw(a:List AK)(b:Int):=FD a.length b
abbrev Qx(a:List AA)(b:Nat):=(a.getD b AA.z).low
abbrev Qy(a:List AJ)(b:Nat)(c:Nat):=((a.getD b AJ.z).ways).getD c 0
abbrev Qz(a:Int)(b:Int):=decide (((0<=a/\a<=b)/\b<=30)/\((b-a)<2))
abbrev Q10(a:List AK)(b:Nat):=(a.getD b AK.z).due
abbrev Q11(a:List AJ)(b:Nat):=(a.getD b AJ.z).wv
abbrev Q12(a:Int)(b:Int)(c:Int):=decide ((a<=b)/\(b<=c))
abbrev Q13(a:List AA)(b:List AK)(c:List AJ):=J ((AB a b c).length:Int)
abbrev Q14(a:List AJ)(b:Nat):=CG (a.getD b AJ.z)
abbrev Q15(a:Int)(b:Int)(c:Int)(d:Int):=decide (((a<=b)/\(b<=c))/\(c<=d))
abbrev UN(a:Int)(b:Int)(c:Value)(d:Value)(e:Value)(f:Value):Array Value:=#[.agg #[J a,J b,c,d,e,f]]
abbrev Q17(a:Nat)(b:Nat)(c:Array Int):=decide (((a:Int)<(b:Int))/\((c[b]!)<(c[((b:Int)-1).toNat]!)))
abbrev Q18(a:List AA)(b:Nat):=CM (a.getD b AA.z)
abbrev Q19:Value:=.func (.func 101) #[] #[]
abbrev Q1a(a:ByteArray):=decide (((a.size:Int)<1)\/(10<(a.size:Int)))
abbrev Q1b(a:List AA)(b:List AA):=decide (¬(a.length:Int)=(b.length:Int))
abbrev Q1c(a:List AK)(b:List AK):=decide (¬(a.length:Int)=(b.length:Int))
abbrev Q1d(a:Int)(b:List AA):Value:=.bool (decide (¬(0<=a/\a<=((b.length:Int)-1))))
abbrev Q1e(a:Int)(b:List AA):=J (a%(b.length:Int))
abbrev Q1f(a:Int):=decide ((97<=a)/\(a<=122))
abbrev Q1g(a:List AJ)(b:List AJ):=decide (¬(a.length:Int)=(b.length:Int))
abbrev Q1h(a:Int):=decide (¬(0<=a/\a<=3))
abbrev Q1i(a:Nat):Value:=.func (.func 139) #[] #[Pt a]
abbrev Q1j(a:List Int)(b:Nat)(c:List Int):=J (TV (a.getD b 0) (c.getD b 0))
abbrev Q1k(a:List Sl)(b:Nat):=((a.drop (1)).getD b Sl.z).1
abbrev Q1l(a:Int):=decide ((48<=a)/\(a<=57))
abbrev Q1m(a:Nat):Value:=.func (.func 77) #[] #[Pt a]
abbrev Q1n:=Ah AF.zero
abbrev Q1o(a:Nat)(b:Nat):Value:=.func (.func 68) #[] #[Pt a,Pt b]
abbrev Q1p(a:List AK)(b:List Int)(c:Nat):=J (FD a.length (b.getD c 0))
end Go.Ns
namespace Go.Ns
open Go.Conc Go.Proofs Go.Proofs.Tryz
theorem Ea:Ih prog 133 133=some (28,1,24):=aB
theorem Va:Ih prog 22 22=some (9,1,16):=aB
theorem N2:Ih prog 23 23=some (78,4,32):=aB
theorem Vb:Ih prog 24 24=some (60,5,56):=aB
theorem Fu:Ih prog 25 25=some (70,3,40):=aB
theorem CX:Ih prog 28 28=some (3,1,8):=aB
theorem Vc:Ih prog 46 46=some (36,2,16):=aB
theorem Vd:Ih prog 87 87=some (106,9,72):=aB
theorem fx_arr94:arrOf prog 94=some (5,false,1):=aB
theorem Ho:NQ prog 103=some (5,1):=aB
theorem Dq:NQ prog 104=some (4,1):=aB
theorem Eb:NQ prog 141=some (4,1):=aB
theorem FG:NQ prog 183=some (4,4):=aB
theorem fx_bt3:Lq prog 3=some 8:=aB
theorem fx_bt4:Lq prog 4=some 1:=aB
theorem My:AM Tryz.f10=true:=aB
theorem Ez:AM Tryz.f101=true:=aB
theorem QB:AM Tryz.f102=true:=aB
theorem QC:AM Tryz.f103=true:=aB
theorem QD:AM Tryz.f104=true:=aB
theorem QE:AM Tryz.f105=true:=aB
theorem W3:AM Tryz.f106=true:=aB
theorem H9:AM Tryz.f107=true:=aB
theorem QF:AM Tryz.f108=true:=aB
theorem JR:AM Tryz.f109=true:=aB
theorem W4:AM Tryz.f110=true:=aB
theorem W5:AM Tryz.f111=true:=aB
theorem W6:AM Tryz.f112=true:=aB
theorem W7:AM Tryz.f113=true:=aB
theorem W8:AM Tryz.f114=true:=aB
theorem LI:AM Tryz.f115=true:=aB
theorem JS:AM Tryz.f116=true:=aB
theorem QG:AM Tryz.f117=true:=aB
theorem Gm:AM Tryz.f118=true:=aB
theorem LJ:AM Tryz.f119=true:=aB
theorem Ec:AM Tryz.f12=true:=aB
theorem W9:AM Tryz.f120=true:=aB
theorem XA:AM Tryz.f121=true:=aB
theorem XB:AM Tryz.f127=true:=aB
theorem QH:AM Tryz.f128=true:=aB
theorem XC:AM Tryz.f129=true:=aB
theorem KU:AM Tryz.f13=true:=aB
theorem XD:AM Tryz.f132=true:=aB
theorem XE:AM Tryz.f133=true:=aB
theorem QI:AM Tryz.f134=true:=aB
theorem XF:AM Tryz.f135=true:=aB
theorem JT:AM Tryz.f136=true:=aB
theorem QJ:AM Tryz.f137=true:=aB
theorem QK:AM Tryz.f138=true:=aB
theorem QL:AM Tryz.f139=true:=aB
theorem KV:AM Tryz.f14=true:=aB
theorem XG:AM Tryz.f140=true:=aB
theorem QM:AM Tryz.f141=true:=aB
theorem QN:AM Tryz.f142=true:=aB
theorem XH:AM Tryz.f143=true:=aB
theorem XI:AM Tryz.f144=true:=aB
theorem XJ:AM Tryz.f145=true:=aB
theorem XK:AM Tryz.f146=true:=aB
theorem XL:AM Tryz.f147=true:=aB
theorem XM:AM Tryz.f148=true:=aB
theorem QO:AM Tryz.f149=true:=aB
theorem QP:AM Tryz.f150=true:=aB
theorem XN:AM Tryz.f151=true:=aB
theorem XO:AM Tryz.f152=true:=aB
theorem JU:AM Tryz.f154=true:=aB
theorem QQ:AM Tryz.f155=true:=aB
theorem XP:AM Tryz.f156=true:=aB
theorem XQ:AM Tryz.f157=true:=aB
theorem QR:AM Tryz.f158=true:=aB
theorem Zs:AM Tryz.f16=true:=aB
theorem XR:AM Tryz.f164=true:=aB
theorem XS:AM Tryz.f168=true:=aB
theorem XT:AM Tryz.f169=true:=aB
theorem LK:AM Tryz.f170=true:=aB
theorem M0:AM Tryz.f18=true:=aB
theorem Zt:AM Tryz.f19=true:=aB
theorem XU:AM Tryz.f193=true:=aB
theorem XV:AM Tryz.f194=true:=aB
theorem XW:AM Tryz.f195=true:=aB
theorem XX:AM Tryz.f196=true:=aB
theorem XY:AM Tryz.f197=true:=aB
theorem XZ:AM Tryz.f198=true:=aB
theorem Xa:AM Tryz.f199=true:=aB
theorem Xb:AM Tryz.f200=true:=aB
theorem Xc:AM Tryz.f201=true:=aB
theorem Xd:AM Tryz.f202=true:=aB
theorem QS:AM Tryz.f203=true:=aB
theorem Xe:AM Tryz.f204=true:=aB
theorem Xf:AM Tryz.f205=true:=aB
theorem Xg:AM Tryz.f206=true:=aB
theorem Xh:AM Tryz.f207=true:=aB
theorem Xi:AM Tryz.f208=true:=aB
theorem Xj:AM Tryz.f209=true:=aB
theorem Zu:AM Tryz.f21=true:=aB
theorem Xk:AM Tryz.f210=true:=aB
theorem Zv:AM Tryz.f23=true:=aB
theorem Zw:AM Tryz.f25=true:=aB
theorem M1:AM Tryz.f26=true:=aB
theorem M3:AM Tryz.f28=true:=aB
theorem M4:AM Tryz.f30=true:=aB
theorem Zx:AM Tryz.f32=true:=aB
theorem Zy:AM Tryz.f34=true:=aB
theorem M5:AM Tryz.f36=true:=aB
theorem Zz:AM Tryz.f38=true:=aB
theorem Fv:AM Tryz.f40=true:=aB
theorem Z0:AM Tryz.f42=true:=aB
theorem Fw:AM Tryz.f43=true:=aB
theorem M6:AM Tryz.f44=true:=aB
theorem Z1:AM Tryz.f45=true:=aB
theorem M7:AM Tryz.f46=true:=aB
theorem Hp:AM Tryz.f47=true:=aB
theorem Sg:AM Tryz.f48=true:=aB
theorem Sh:AM Tryz.f49=true:=aB
theorem Z2:AM Tryz.f50=true:=aB
theorem Z3:AM Tryz.f52=true:=aB
theorem Z4:AM Tryz.f57=true:=aB
theorem FH:AM Tryz.f58=true:=aB
theorem Ir:AM Tryz.f59=true:=aB
theorem Fx:AM Tryz.f60=true:=aB
theorem Is:AM Tryz.f61=true:=aB
theorem Z5:AM Tryz.f63=true:=aB
theorem Z6:AM Tryz.f64=true:=aB
theorem Z7:AM Tryz.f65=true:=aB
theorem Z8:AM Tryz.f66=true:=aB
theorem DF:AM Tryz.f67=true:=aB
theorem Si:AM Tryz.f68=true:=aB
theorem M8:AM Tryz.f69=true:=aB
theorem M9:AM Tryz.f70=true:=aB
theorem Z9:AM Tryz.f71=true:=aB
theorem NA:AM Tryz.f74=true:=aB
theorem Sj:AM Tryz.f77=true:=aB
theorem Sm:AM Tryz.f78=true:=aB
theorem Sn:AM Tryz.f79=true:=aB
theorem fx_call8:AM Tryz.f8=true:=aB
theorem AAA:AM Tryz.f80=true:=aB
theorem Ss:AM Tryz.f83=true:=aB
theorem St:AM Tryz.f84=true:=aB
theorem Su:AM Tryz.f87=true:=aB
theorem Fy:AM Tryz.f89=true:=aB
theorem GK:AM Tryz.f9=true:=aB
theorem NB:AM Tryz.f90=true:=aB
theorem Sv:AM Tryz.f93=true:=aB
theorem NC:AM Tryz.f94=true:=aB
theorem DT:AM Tryz.f95=true:=aB
theorem KW:AM Tryz.f97=true:=aB
theorem Sw:AM Tryz.f99=true:=aB
theorem Sx:prog.eqGuardType prog.depth 103=false:=aB
theorem HD:prog.eqGuardType prog.depth 36=false:=aB
theorem fx_eqg78:prog.eqGuardType prog.depth 78=false:=aB
theorem EK:En prog 133=some 1:=aB
theorem ND:En prog 175=some 1:=aB
theorem FZ:En prog 22=some 1:=aB
theorem AAB:En prog 227=some 1:=aB
theorem DB:En prog 23=some 4:=aB
theorem EW:En prog 24=some 5:=aB
theorem GL:En prog 25=some 3:=aB
theorem A8:En prog 28=some 1:=aB
theorem Ve:En prog 46=some 2:=aB
theorem GM:En prog 87=some 9:=aB
theorem MA:∀a:FC,ckP prog 4 108 (Ev a)=true:=by intros;kernel_rfl
theorem MB:∀a b:FC,Om prog 4 108 (Ev a) (Ev b)=some ((a.1.1==b.1.1 && (a.1.2.1==b.1.2.1 && (a.1.2.2.1==b.1.2.2.1 && (a.1.2.2.2.1==b.1.2.2.2.1 && (a.1.2.2.2.2==b.1.2.2.2.2 && true))))) && (a.2.1==b.2.1 && (a.2.2==b.2.2 && true))):=by intros;kernel_rfl
theorem Cl:Ds prog 106 0=some 0:=aB
theorem KA:Ds prog 106 1=some 5:=aB
theorem Vf:Ds prog 174 0=some 0:=aB
theorem Vg:Ds prog 174 1=some 1:=aB
theorem IA:Ds prog 27 0=some 0:=aB
theorem Fo:Ds prog 27 1=some 1:=aB
theorem Bw:Ds prog 27 2=some 2:=aB
theorem Ap:Ds prog 27 3=some 3:=aB
theorem BZ:Ds prog 27 4=some 4:=aB
theorem BL:Ds prog 27 5=some 5:=aB
theorem Bq:Ds prog 36 0=some 0:=aB
theorem Br:Ds prog 36 1=some 1:=aB
theorem Gn:Ds prog 60 0=some 0:=aB
theorem IB:Ds prog 60 1=some 1:=aB
theorem Gp:Ds prog 60 2=some 3:=aB
theorem Dj:Ds prog 60 3=some 4:=aB
theorem DX:Ds prog 70 0=some 0:=aB
theorem Gq:Ds prog 70 1=some 1:=aB
theorem CN:Ds prog 78 0=some 0:=aB
theorem CY:Ds prog 78 1=some 1:=aB
theorem D7:Ds prog 78 2=some 2:=aB
theorem Aw:Ds prog 89 0=some 0:=aB
theorem D8:Ds prog 98 0=some 0:=aB
theorem IC:Ds prog 98 1=some 6:=aB
theorem JV:Ds prog 98 2=some 7:=aB
theorem Xl:(prog.info? 174).isSome=true:=aB
theorem fx_infs3:(prog.info? 3).isSome=true:=aB
theorem fx_infs4:(prog.info? 4).isSome=true:=aB
theorem Xm:(prog.info? 174).map (·.zero)=some (some (.agg #[.int .i64 0,.bool false])):=aB
theorem fx_infz3:(prog.info? 3).map (·.zero)=some (some (.int .i64 0)):=aB
theorem fx_infz4:(prog.info? 4).map (·.zero)=some (some (.bool false)):=aB
theorem QT:Oh prog 167=some .u64:=aB
theorem E0:Oh prog 3=some .i64:=aB
theorem HE:Oh prog 5=some .u8:=aB
theorem NE:LZ prog 156=some (3,3):=aB
theorem MC:LZ prog 96=some (108,3):=aB
theorem NF:∀a:Int,ckP prog 3 3 (Dl a)=true:=by intros;kernel_rfl
theorem NG:∀a b:Int,Om prog 3 3 (Dl a) (Dl b)=some (a==b):=by intros;kernel_rfl
theorem A0:prog.follows .mixedOrders=true:=aB
theorem Vh:(prog.info? 3).bind (·.zero)=some (.int .i64 0):=aB
theorem T7:(prog.info? 3).bind (·.zero)=some (.int .i64 0):=aB
theorem MD:Eo prog 108=some [(0,5),(5,1),(6,1)]:=aB
theorem fx_pl174:Eo prog 174=some [(0,1),(1,1)]:=aB
theorem Hf:Eo prog 27=some [(0,1),(1,1),(2,1),(3,1),(4,1),(5,1)]:=aB
theorem G1:Eo prog 36=some [(0,1),(1,1)]:=aB
theorem T8:Eo prog 60=some [(0,1),(1,2),(3,1),(4,1)]:=aB
theorem T9:Eo prog 70=some [(0,1),(1,2)]:=aB
theorem UA:Eo prog 78=some [(0,1),(1,1),(2,2)]:=aB
theorem IL:Eo prog 89=some [(0,6)]:=aB
theorem IM:Eo prog 98=some [(0,6),(6,1),(7,1)]:=aB
theorem Vi:s2bOf prog 9 227=some 5:=aB
theorem Hq:DQ prog 133=some (1,#[.slice none 0 0],28):=aB
theorem AAC:DQ prog 175=some (1,#[.bool false],4):=aB
theorem Vj:DQ prog 22=some (1,#[.string ⟨#[]⟩],9):=aB
theorem QU:DQ prog 23=some (4,#[.int .i64 0,.int .i64 0,.int .i64 0,.int .i64 0],78):=aB
theorem Vk:DQ prog 24=some (5,#[.int .i64 0,.int .i64 0,.int .i64 0,.int .i64 0,.slice none 0 0],60):=aB
theorem ID:DQ prog 25=some (3,#[.slice none 0 0,.int .i64 0,.int .i64 0],70):=aB
theorem BP:DQ prog 28=some (1,#[.int .i64 0],3):=aB
theorem Vl:DQ prog 46=some (2,#[.int .i64 0,.int .i64 0],36):=aB
theorem fx_sel87:DQ prog 87=some (9,#[.int .i64 0,.int .i64 0,.int .i64 0,.int .i64 0,.int .i64 0,.int .i64 0,.int .i64 0,.int .i64 0,.int .i64 0],106):=aB
theorem Fb:KY prog 133=true:=aB
theorem fx_sl175:KY prog 175=true:=aB
theorem Cz:KY prog 22=true:=aB
theorem fx_sl227:KY prog 227=true:=aB
theorem Cm:KY prog 23=true:=aB
theorem ED:KY prog 24=true:=aB
theorem EP:KY prog 25=true:=aB
theorem BB:KY prog 28=true:=aB
theorem UB:KY prog 46=true:=aB
theorem GN:KY prog 87=true:=aB
theorem EQ:Oe prog 9=true:=aB
theorem HF:Ch prog 103=some (true,5):=aB
theorem CZ:Ch prog 106=some (true,9):=aB
theorem ME:Ch prog 123=some (false,1):=aB
theorem GO:Ch prog 133=some (false,1):=aB
theorem MF:Ch prog 170=some (false,1):=aB
theorem MG:Ch prog 171=some (false,1):=aB
theorem QV:Ch prog 172=some (false,1):=aB
theorem fx_ty174:Ch prog 174=some (true,2):=aB
theorem fx_ty179:Ch prog 179=some (false,1):=aB
theorem KB:Ch prog 180=some (false,1):=aB
theorem DC:Ch prog 22=some (false,1):=aB
theorem BM:Ch prog 23=some (false,1):=aB
theorem Cg:Ch prog 24=some (false,1):=aB
theorem CO:Ch prog 25=some (false,1):=aB
theorem AS:Ch prog 27=some (true,6):=aB
theorem BW:Ch prog 28=some (false,1):=aB
theorem AR:Ch prog 3=some (false,1):=aB
theorem Ak:Ch prog 36=some (true,2):=aB
theorem Gr:Ch prog 4=some (false,1):=aB
theorem fx_ty5:Ch prog 5=some (false,1):=aB
theorem G2:Ch prog 60=some (true,5):=aB
theorem Dk:Ch prog 70=some (true,3):=aB
theorem FI:Ch prog 78=some (true,4):=aB
theorem IN:Ch prog 87=some (false,1):=aB
theorem CV:Ch prog 89=some (true,6):=aB
theorem KC:Ch prog 9=some (false,1):=aB
theorem fx_ty94:Ch prog 94=some (true,5):=aB
theorem OU:Ch prog 96=some (false,1):=aB
theorem Ax:Ch prog 98=some (true,8):=aB
theorem F0:(prog.underlying 196).isSome=true:=aB
theorem Yr:(prog.underlying 3).isSome=true:=aB
theorem G3:(prog.underlying 5).isSome=true:=aB
theorem fx_und61:(prog.underlying 61).isSome=true:=aB
theorem KD:prog.underlying 170=some (.chan .both 174):=aB
theorem KE:prog.underlying 171=some (.chan .both 3):=aB
theorem KF:prog.underlying 172=some (.chan .both 4):=aB
theorem Fp:B1 prog 106=some #[.int .i64 0,.int .i64 0,.int .i64 0,.int .i64 0,.int .i64 0,.int .i64 0,.int .i64 0,.int .i64 0,.int .i64 0]:=aB
theorem JW:B1 prog 108=some #[.int .i64 0,.int .i64 0,.int .i64 0,.int .i64 0,.int .i64 0,.int .i64 0,.int .i64 0]:=aB
theorem Xn:B1 prog 123=some #[.nilFunc]:=aB
theorem QW:B1 prog 133=some #[.slice none 0 0]:=aB
theorem QX:B1 prog 141=some #[.bool false,.bool false,.bool false,.bool false]:=aB
theorem Xo:B1 prog 170=some #[.chan none]:=aB
theorem Xp:B1 prog 171=some #[.chan none]:=aB
theorem Xq:B1 prog 172=some #[.chan none]:=aB
theorem QY:B1 prog 174=some #[.int .i64 0,.bool false]:=aB
theorem Xr:B1 prog 180=some #[.nilFunc]:=aB
theorem Xs:B1 prog 183=some #[.int .i64 0,.int .i64 0,.int .i64 0,.int .i64 0,.int .i64 0,.int .i64 0,.int .i64 0,.int .i64 0,.int .i64 0,.int .i64 0,.int .i64 0,.int .i64 0,.int .i64 0,.int .i64 0,.int .i64 0,.int .i64 0]:=aB
theorem Bz:B1 prog 27=some #[.int .i64 0,.int .i64 0,.slice none 0 0,.slice none 0 0,.slice none 0 0,.slice none 0 0]:=aB
theorem fx_zero28:B1 prog 28=some #[.slice none 0 0]:=aB
theorem fx_zero3:B1 prog 3=some #[.int .i64 0]:=aB
theorem BD:B1 prog 36=some #[.int .i64 0,.int .i64 0]:=aB
theorem fx_zero4:B1 prog 4=some #[.bool false]:=aB
theorem Gt:B1 prog 60=some #[.int .i64 0,.int .i64 0,.int .i64 0,.int .i64 0,.slice none 0 0]:=aB
theorem F1:B1 prog 70=some #[.slice none 0 0,.int .i64 0,.int .i64 0]:=aB
theorem F2:B1 prog 78=some #[.int .i64 0,.int .i64 0,.int .i64 0,.int .i64 0]:=aB
theorem AAD:B1 prog 87=some #[.slice none 0 0]:=aB
theorem Dr:B1 prog 89=some #[.int .i64 0,.int .i64 0,.slice none 0 0,.slice none 0 0,.slice none 0 0,.slice none 0 0]:=aB
theorem fx_zero9:B1 prog 9=some #[.string ⟨#[]⟩]:=aB
theorem BE:B1 prog 98=some #[.int .i64 0,.int .i64 0,.slice none 0 0,.slice none 0 0,.slice none 0 0,.slice none 0 0,.slice none 0 0,.map none]:=aB
end Go.Ns
namespace Go.Ns
open Go.Conc Go.Proofs Go.Proofs.Tryz
attribute [local irreducible] BU DK Tr AT Bu BT
variable {W:Wk prog} {h:GH} {bag kinds:Int} {ps:List ByteArray} {psv:Value} {ws:List AA} {wsv:Value} {js:List AK} {jsv:Value} {ns:List AJ} {nsv:Value}
theorem If(a:List Int)(av:Value)(b:List Int)(bv:Value)(ha:AH h av 1 eI a)(hb:AH h bv 1 eI b):AT W 18 #[av,bv] h (λv h'=>v=(.bool (decide (a=b)):Value)/\h.Le h'):=by
 have ad:=ha.len;have ae:=hb.len;refine Ct func18 Z (Sr (Az (.bool false) Z (Nl (S2 (Mz av Z (Pl Z (AL BB ha Z (Mz bv Z (Pl Z (AL BB hb Z (Pl Z (Al Z Z (Nl (AU Z (λar=>?_) (λar=>?_)))))))))))))))
 ·exact Sr (Az (.bool false) Z (Nl (Rt (⟨Zr,Ot (.bool false) Z (⟨(by (rw [decide_eq_false (ne_len aA)];done)),Lr⟩)⟩))))
 ·refine Sk (S2 (Az (J 0) Z (Nl (Bk (Aj (λnn σ' ds' h'=>∃(k:Nat),nn=a.length-k/\(k<=a.length)/\(a.take k=b.take k)/\ds'=[]/\GH.Le h h'/\σ' 0=av/\σ' 1=bv/\σ' 5=J k) ⟨0,Z,aA,(by rfl),Z,Lr,Z,Z,Z⟩ (λnn _ _ _ au=>?_))))));obtain ⟨k,rfl,hk,hs,x8,x9,af,aq,ac⟩:=au;subst x8;refine S2 (Mv (J k) Z ac (Mv av Z af (Pl Z (AL BB (ha.le x9) Z (Pl Z (An Z Z (Nl (AU Z (λag=>?_) (λag=>?_)))))))))
  ·refine Sk (Sq (Bk (Sq (Cj 8 false [1,6,10,16,21,26,30,36] A0 aB (Rz Z (Mo av af vz) (Rz Z (Mo (J k) ac vz) ?_))))));have ah:(0:Int)<=(k:Int):=aA
   have ai:(k:Int)<((a.length:Nat):Int):=aA
   refine tI Z Z A8 ha Z Z ah ai λaw aa aj=>have ak:AZ _ aw aa 1 (eI (a.getD k 0)):=AZ.getD 0 aj;Rl (Qs a k) Z (BG AR (ak.le x9) Z) (Rz Z (Mo bv aq vz) (Rz Z (Mo (J k) ac vz) ?_));have al:(0:Int)<=(k:Int):=aA
   have am:(k:Int)<((b.length:Nat):Int):=aA
   refine tI Z Z A8 hb Z Z al am λax ab an=>have ao:AZ _ ax ab 1 (eI (b.getD k 0)):=AZ.getD 0 an;Rl (Qs b k) Z (BG AR (ao.le x9) Z) (tN (Pl Z (Al Z Z (Nl (AU Z (λap=>?_) (λap=>?_))))))
   ·exact Sr (Az (.bool false) Z (Nl (Rt (⟨Zr,Ot (.bool false) Z (⟨(by (rw [decide_eq_false (ne_getD (k:=k) (d:=0) ‹_›)])),x9⟩)⟩))))
   ·exact Sk (Rg (Mv (J k) Z ac (Yd Z aA (Az (J ((k:Int)+1)) Z (Nl (⟨_,aA,k+1,Z,aA,(by exact O2 0 hs aA aA aE),Z,x9,af,aq,Z⟩))))))
  ·exact Xt (Sr (Az (.bool true) Z (Nl (Rt (⟨Zr,Ot (.bool true) Z (⟨(by (rw [decide_eq_true (TT hs hk ‹_› aA)];done)),x9⟩)⟩)))))
theorem MH(a:List Int)(av:Value)(n:Int)(ha:AH h av 1 eI a):AT W 109 #[av,J n] h (λv h'=>v=(.bool (decide (n ∈ a)):Value)/\h.Le h'):=by
 have ab:=ha.len;refine Ct func109 Z (Sr (Az (.bool false) Z (Nl (S2 (Az (J 0) Z (Nl (Bk (Aj (λnn σ' ds' h'=>∃(k:Nat),nn=a.length-k/\(k<=a.length)/\(¬n ∈ a.take k)/\ds'=[]/\GH.Le h h'/\σ' 0=av/\σ' 1=J n/\σ' 5=J k) ⟨0,Z,aA,aD,Z,Lr,Z,Z,Z⟩ (λnn _ _ _ aj=>?_)))))))));obtain ⟨k,rfl,hk,hs,x6,x7,x8,x9,ac⟩:=aj;subst x6;refine S2 (Mv (J k) Z ac (Mv av Z x8 (Pl Z (AL BB (ha.le x7) Z (Pl Z (An Z Z (Nl (AU Z (λad=>?_) (λad=>?_)))))))))
 ·refine Sk (Sq (Bk (Sr (Mv av Z x8 (Mv (J k) Z ac ?_)))));have ae:(0:Int)<=(k:Int):=aA
  have af:(k:Int)<((a.length:Nat):Int):=aA
  refine Pl Z (Ab A8 ha Z Z ae af λak aa ag=>have ah:AZ _ ak aa 1 (eI (a.getD k 0)):=AZ.getD 0 ag;Lz (Qs a k) Z (BG AR (ah.le x7) Z) (Mv (J n) Z x9 (Pl Z (B5 Z Z (Nl (AU Z (λai=>?_) (λai=>?_)))))))
  ·exact Sr (Az (.bool true) Z (Nl (Rt (⟨Zr,Ot (.bool true) Z (⟨(by (rw [decide_eq_true (has_hit (k:=k) ‹_› ‹_›)];done)),x7⟩)⟩))))
  ·exact Sk (Rg (Mv (J k) Z ac (Yd Z aA (Az (J ((k:Int)+1)) Z (Nl (⟨_,aA,k+1,Z,aA,(by exact has_next ‹_› hs ‹_›),Z,x7,x8,x9,Z⟩))))))
 ·exact Xt (Sr (Az (.bool false) Z (Nl (Rt (⟨Zr,Ot (.bool false) Z (⟨(by (rw [decide_eq_false (has_end (k:=k) ‹_› hs)])),x7⟩)⟩)))))
theorem IO(n:Int)(lo:Int)(hi:Int):AT W 43 #[J n,J lo,J hi] h (λv h'=>v=(.bool (decide (lo<=n/\n<=hi)):Value)/\h=h'):=by
 refine Ct func43 Z (Sr (Az (.bool false) Z (Nl (BX (λσ' ds' h'=>ds'=[]/\h=h'/\σ' 6=.bool (Q12 lo n hi)) ?_ ?_))))
 ·refine Rg (Mz (J n) Z (Mz (J lo) Z (Pl Z (Da Z Z (Mz (Qm lo n) Z (Ao (p:=lo<=n) ?_ ?_))))))
  ·intro aa;exact Gg 3 10 (AI Z aa) Z (Mo (J n) Z (Gg 3 10 (AI Z aa) Z (Mo (J hi) Z (Gg 3 10 (AI Z aa) Z (Em Z Z (Pk true (Qm n hi) Z (AI Z aa) Z (Az (Qm n hi) Z (Nl (⟨Z,Z,Et (b:=(.bool (decide (n<=hi)):Value)) Z (congrArg Value.bool (by (simp [aa];done):decide (n<=hi)=(Q12 lo n hi)))⟩)))))))))
  ·intro aa;exact Gs 3 10 (AD Z aa) Z (Gs 3 10 (AD Z aa) Z (Gs 3 10 (AD Z aa) Z (Pk false (.bool false) Z (AD Z aa) Z (Az (.bool false) Z (Nl (⟨Z,Z,Et (b:=(.bool false:Value)) Z (congrArg Value.bool (by (simp [aa];done):false=(Q12 lo n hi)))⟩))))))
 ·rintro _ _ _ ⟨ac,ab,ad⟩;subst ac;subst ab;exact Rt (⟨Zr,Ja Z (v:=.bool (Q12 lo n hi)) ad (⟨(by rfl),Z⟩)⟩)
theorem N3(xl:Int)(xh:Int)(lo:Int)(hi:Int):AT W 128 #[.agg #[J xl,J xh],J lo,J hi] h (λv h'=>v=(.bool (decide ((lo<=xl/\xl<=xh)/\xh<=hi)):Value)/\h.Le h'):=by
 refine Ct func128 Z (Sr (Pl Z (Bo #[J xl,J xh] Z Z λ_ h2 _ ae ad _=>Az (.bool false) Z (Nl (BX (λσ' ds' h'=>ds'=[]/\h2=h'/\σ' 6=.bool (Q15 lo xl xh hi)) ?_ ?_)))))
 ·refine Rg (Fz Bq Z (Lz (J xl) Z (Rd.one AR ad Z) (Mz (J lo) Z (Pl Z (Da Z Z (Mz (Qm lo xl) Z (Ao (p:=lo<=xl) ?_ ?_)))))))
  ·intro aa;refine Gg 4 11 (AI Z aa) Z (AC Br Z (Gg 4 11 (AI Z aa) Z (Lo (J xh) Z (Rd.one AR ad Z) (Gg 4 11 (AI Z aa) Z (AC Bq Z (Gg 4 11 (AI Z aa) Z (Lo (J xl) Z (Rd.one AR ad Z) (Gg 4 11 (AI Z aa) Z (Da Z Z (Pk true (Qm xl xh) Z (AI Z aa) Z (Mz (Qm xl xh) Z (Ao (p:=xl<=xh) ?_ ?_))))))))))))
   ·intro ab;exact Gg 11 18 (AI Z ab) Z (AC Br Z (Gg 11 18 (AI Z ab) Z (Lo (J xh) Z (Rd.one AR ad Z) (Gg 11 18 (AI Z ab) Z (Mo (J hi) Z (Gg 11 18 (AI Z ab) Z (Em Z Z (Pk true (Qm xh hi) Z (AI Z ab) Z (Az (Qm xh hi) Z (Nl (⟨Z,Z,Et (b:=(.bool (decide (xh<=hi)):Value)) Z (congrArg Value.bool (by (simp [aa,ab];done):decide (xh<=hi)=(Q15 lo xl xh hi)))⟩)))))))))))
   ·intro ab;exact Gs 11 18 (AD Z ab) Z (Gs 11 18 (AD Z ab) Z (Gs 11 18 (AD Z ab) Z (Gs 11 18 (AD Z ab) Z (Pk false (.bool false) Z (AD Z ab) Z (Az (.bool false) Z (Nl (⟨Z,Z,Et (b:=(.bool false:Value)) Z (congrArg Value.bool (by (simp [aa,ab];done):false=(Q15 lo xl xh hi)))⟩)))))))
  ·intro aa;exact Gs 4 11 (AD Z aa) Z (Gs 4 11 (AD Z aa) Z (Gs 4 11 (AD Z aa) Z (Gs 4 11 (AD Z aa) Z (Gs 4 11 (AD Z aa) Z (Pk false (.bool false) Z (AD Z aa) Z (Mz (.bool false) Z (Gs 11 18 Z Z (Gs 11 18 Z Z (Gs 11 18 Z Z (Gs 11 18 Z Z (Pz false (.bool false) Z (Az (.bool false) Z (Nl (⟨Z,Z,Et (b:=(.bool false:Value)) Z (congrArg Value.bool (by (simp [aa];done):false=(Q15 lo xl xh hi)))⟩))))))))))))))
 ·rintro _ _ _ ⟨af,ac,ag⟩;subst af;subst ac;exact Rt (⟨Zr,Ja Z (v:=.bool (Q15 lo xl xh hi)) ag (⟨(by rfl),ae⟩)⟩)
theorem Vm(c:Int):AT W 156 #[.int .u8 c] h (λv h'=>v=(.bool (decide (Er c)):Value)/\h=h'):=by
 refine Ct func156 Z (Sr (Az (.bool false) Z (Nl (BX (λσ' ds' h'=>ds'=[]/\h=h'/\σ' 2=.bool (Q1f c)) ?_ ?_))))
 ·refine Rg (Mz (.int .u8 c) Z (Pl Z (Da Z Z (Mz (.bool (decide (97<=c))) Z (Ao (p:=97<=c) ?_ ?_)))))
  ·intro aa;exact Gg 2 5 (AI Z aa) Z (Mo (.int .u8 c) Z (Gg 2 5 (AI Z aa) Z (Em Z Z (Pk true (.bool (decide (c<=122))) Z (AI Z aa) Z (Az (.bool (decide (c<=122))) Z (Nl (⟨Z,Z,Et (b:=(.bool (decide (c<=122)):Value)) Z (congrArg Value.bool (by (simp [aa];done):decide (c<=122)=(Q1f c)))⟩)))))))
  ·intro aa;exact Gs 2 5 (AD Z aa) Z (Gs 2 5 (AD Z aa) Z (Pk false (.bool false) Z (AD Z aa) Z (Az (.bool false) Z (Nl (⟨Z,Z,Et (b:=(.bool false:Value)) Z (congrArg Value.bool (by (simp [aa];done):false=(Q1f c)))⟩)))))
 ·rintro _ _ _ ⟨ac,ab,ad⟩;subst ac;subst ab;exact Rt (⟨Zr,Ja Z (v:=.bool (Q1f c)) ad (⟨(by rfl),Z⟩)⟩)
theorem Xu(c:Int):AT W 157 #[.int .u8 c] h (λv h'=>v=(.bool (decide (E7 c)):Value)/\h=h'):=by
 refine Ct func157 Z (Sr (Az (.bool false) Z (Nl (BX (λσ' ds' h'=>ds'=[]/\h=h'/\σ' 2=.bool (Q1l c)) ?_ ?_))))
 ·refine Rg (Mz (.int .u8 c) Z (Pl Z (Da Z Z (Mz (.bool (decide (48<=c))) Z (Ao (p:=48<=c) ?_ ?_)))))
  ·intro aa;exact Gg 2 5 (AI Z aa) Z (Mo (.int .u8 c) Z (Gg 2 5 (AI Z aa) Z (Em Z Z (Pk true (.bool (decide (c<=57))) Z (AI Z aa) Z (Az (.bool (decide (c<=57))) Z (Nl (⟨Z,Z,Et (b:=(.bool (decide (c<=57)):Value)) Z (congrArg Value.bool (by (simp [aa];done):decide (c<=57)=(Q1l c)))⟩)))))))
  ·intro aa;exact Gs 2 5 (AD Z aa) Z (Gs 2 5 (AD Z aa) Z (Pk false (.bool false) Z (AD Z aa) Z (Az (.bool false) Z (Nl (⟨Z,Z,Et (b:=(.bool false:Value)) Z (congrArg Value.bool (by (simp [aa];done):false=(Q1l c)))⟩)))))
 ·rintro _ _ _ ⟨ac,ab,ad⟩;subst ac;subst ab;exact Rt (⟨Zr,Ja Z (v:=.bool (Q1l c)) ad (⟨(by rfl),Z⟩)⟩)
theorem RX(xs:List Int)(xsv:Value)(fv:Value)(p:Int->Bool)(hxs:AH h xsv 1 eI xs)(hf:∀x ∈ xs,∀h1,h.Le h1->Bu W fv #[J x] h1 λv h2=>v=.bool (p x)/\h1.Le h2):AT W 209 #[xsv,fv] h (λv h'=>v=(J (idxOf p xs):Value)/\h.Le h'):=by
 have ac:=hxs.len;refine Ct func209 Z (Sr (Az (J 0) Z (Nl (S2 (Mz xsv Z (Pl Z (AL BB hxs Z (Mz (J 0) Z (Nl (Bk (Aj (λnn σ' ds' h'=>∃(k:Nat),nn=xs.length-k/\(k<=xs.length)/\((xs.take k).any p=false)/\ds'=[]/\GH.Le h h'/\σ' 0=xsv/\σ' 1=fv/\σ' 7=J (xs.length:Int)/\σ' 8=J k) ⟨0,Z,aA,aD,Z,Lr,Z,Z,Z,Z⟩ (λnn _ _ _ am=>?_))))))))))));obtain ⟨k,rfl,hk,hs,x6,x7,x8,x9,al,ad⟩:=am;subst x6;refine Sr (Pl Z (An ad al (Nl (Sq (AU Z (λae=>?_) (λae=>?_))))))
 ·refine Sk (Sq (Bk (Sr (Mv (J k) Z ad (Az (J k) Z (Nl (Sr (Mv fv Z x9 (Mv xsv Z x8 (Mz (J k) Z ?_))))))))));have af:(0:Int)<=(k:Int):=aA
  have ag:(k:Int)<((xs.length:Nat):Int):=aA
  refine Pl Z (Ab A8 hxs Z Z af ag λan ab ah=>have ai:AZ _ an ab 1 (eI (xs.getD k 0)):=AZ.getD 0 ah;Lz (Qs xs k) Z (BG AR (ai.le x7) Z) (Pl Z (Kz Z (vs:=#[J (xs.getD k 0)]) (by simp only [List.map_toArray,List.map_cons,List.map_nil,AO] <;> rfl) ((hf (xs.getD k 0) (Bc aA) _ x7).mono λ_ _ aj=>?_))));obtain ⟨rfl,aa⟩:=aj;refine Nl (CW Z (λak=>?_) (λak=>?_))
  ·exact Sr (Mz (J k) Z (Az (J k) Z (Nl (Rt (⟨Zr,Ot (J k) Z (⟨(by (rw [Hk (k:=k) aA hs ‹_›];done)),(x7.trans aa)⟩)⟩)))))
  ·exact Sk (Rg (Ad _ _ Z ad Z aA (Mz (J ((k:Int)+1)) Z (Nl (⟨_,aA,k+1,Z,aA,(by exact EU (d:=0) aA hs ‹_›),Z,(x7.trans aa),x8,x9,al,Z⟩)))))
 ·exact Xt (Sr (Az (J (-1)) Z (Nl (Rt (⟨Zr,Ot (J (-1)) Z (⟨(by (rw [Gf (k:=k) aA hs])),x7⟩)⟩)))))
theorem It(xs:List Int)(xsv:Value)(fv:Value)(p:Int->Bool)(hxs:AH h xsv 1 eI xs)(hf:∀x ∈ xs,∀h1,h.Le h1->Bu W fv #[J x] h1 λv h2=>v=.bool (p x)/\h1.Le h2):AT W 203 #[xsv,fv] h (λv h'=>v=(.bool (xs.any p):Value)/\h.Le h'):=by
 have aa:=hxs.len;refine Ct func203 Z (Sr (Az (.bool false) Z (Nl (Sr (Mz xsv Z (Mz fv Z (Pl Z (AP func209 Xj Z Z ((RX xs xsv fv p hxs (λx hx h1 l1=>hf x hx h1 (GH.Le.trans Lr l1))).mono λ_ _ ac=>?_)))))))));obtain ⟨rfl,ab⟩:=ac;exact Pl Z (Da Z Z (Az (.bool (decide (0<=(idxOf p xs)))) Z (Nl (Rt (⟨Zr,Ot (.bool (decide (0<=(idxOf p xs)))) Z (⟨(by rw [show decide (0<=idxOf p xs)=xs.any p from by rw [Bool.eq_iff_iff];simp [E8]]),ab⟩)⟩)))))
theorem CP(n:Int)(lo:Int)(hi:Int):AT W 95 #[J n,J lo,J hi] h (λv h'=>v=(.bool (decide (lo<=n/\n<=hi)):Value)/\h=h'):=by
 refine Ct func95 Z (Sr (Az (.bool false) Z (Nl (BX (λσ' ds' h'=>ds'=[]/\h=h'/\σ' 6=.bool (Q12 lo n hi)) ?_ ?_))))
 ·refine Rg (Mz (J lo) Z (Mz (J n) Z (Pl Z (Em Z Z (Mz (Qm lo n) Z (Ao (p:=lo<=n) ?_ ?_))))))
  ·intro aa;exact Gg 3 10 (AI Z aa) Z (Mo (J n) Z (Gg 3 10 (AI Z aa) Z (Mo (J hi) Z (Gg 3 10 (AI Z aa) Z (Em Z Z (Pk true (Qm n hi) Z (AI Z aa) Z (Az (Qm n hi) Z (Nl (⟨Z,Z,Et (b:=(.bool (decide (n<=hi)):Value)) Z (congrArg Value.bool (by (simp [aa];done):decide (n<=hi)=(Q12 lo n hi)))⟩)))))))))
  ·intro aa;exact Gs 3 10 (AD Z aa) Z (Gs 3 10 (AD Z aa) Z (Gs 3 10 (AD Z aa) Z (Pk false (.bool false) Z (AD Z aa) Z (Az (.bool false) Z (Nl (⟨Z,Z,Et (b:=(.bool false:Value)) Z (congrArg Value.bool (by (simp [aa];done):false=(Q12 lo n hi)))⟩))))))
 ·rintro _ _ _ ⟨ac,ab,ad⟩;subst ac;subst ab;exact Rt (⟨Zr,Ja Z (v:=.bool (Q12 lo n hi)) ad (⟨(by rfl),Z⟩)⟩)
theorem F3(xl:Int)(xh:Int)(top:Int)(many:Int)(ht:top<=1000):AT W 118 #[.agg #[J xl,J xh],J top,J many] h (λv h'=>v=(.bool (decide (FK xl xh top many)):Value)/\h.Le h'):=by
 refine Ct func118 Z (Sr (Pl Z (Bo #[J xl,J xh] Z Z λ_ h2 _ af ad _=>Az (.bool false) Z (Nl (BX (λσ' ds' h'=>ds'=[]/\h2=h'/\σ' 6=.bool (Qo xl xh top many)) ?_ ?_)))))
 ·refine Rg (Fz Bq Z (Lz (J xl) Z (Rd.one AR ad Z) (Pl Z (Em Z Z (Mz (.bool (decide (0<=xl))) Z (Ao (p:=0<=xl) ?_ ?_))))))
  ·intro ab;refine Gg 3 10 (AI Z ab) Z (AC Bq Z (Gg 3 10 (AI Z ab) Z (Lo (J xl) Z (Rd.one AR ad Z) (Gg 3 10 (AI Z ab) Z (AC Br Z (Gg 3 10 (AI Z ab) Z (Lo (J xh) Z (Rd.one AR ad Z) (Gg 3 10 (AI Z ab) Z (Em Z Z (Pk true (Qm xl xh) Z (AI Z ab) Z (Mz (Qm xl xh) Z (Ao (p:=xl<=xh) ?_ ?_))))))))))))
   ·intro ac;refine Gg 10 17 (AI Z ac) Z (AC Br Z (Gg 10 17 (AI Z ac) Z (Lo (J xh) Z (Rd.one AR ad Z) (Gg 10 17 (AI Z ac) Z (Mo (J top) Z (Gg 10 17 (AI Z ac) Z (Em Z Z (Pk true (Qm xh top) Z (AI Z ac) Z (Mz (Qm xh top) Z (Ao (p:=xh<=top) ?_ ?_))))))))))
    ·intro aa;exact Gg 16 23 (AI Z aa) Z (AC Br Z (Gg 16 23 (AI Z aa) Z (Lo (J xh) Z (Rd.one AR ad Z) (Gg 16 23 (AI Z aa) Z (AC Bq Z (Gg 16 23 (AI Z aa) Z (Lo (J xl) Z (Rd.one AR ad Z) (Gg 16 23 (AI Z aa) Z (DU Z Z aA (Gg 16 23 (AI Z aa) Z (Mo (J many) Z (Gg 16 23 (AI Z aa) Z (An Z Z (Pk true (.bool (decide ((xh-xl)<many))) Z (AI Z aa) Z (Az (.bool (decide ((xh-xl)<many))) Z (Nl (⟨Z,Z,Et (b:=(.bool (decide ((xh-xl)<many)):Value)) Z (congrArg Value.bool (by (simp [ab,ac,aa];done):decide ((xh-xl)<many)=(Qo xl xh top many)))⟩)))))))))))))))))
    ·intro aa;exact Gs 16 23 (AD Z aa) Z (Gs 16 23 (AD Z aa) Z (Gs 16 23 (AD Z aa) Z (Gs 16 23 (AD Z aa) Z (Gs 16 23 (AD Z aa) Z (Gs 16 23 (AD Z aa) Z (Gs 16 23 (AD Z aa) Z (Pk false (.bool false) Z (AD Z aa) Z (Az (.bool false) Z (Nl (⟨Z,Z,Et (b:=(.bool false:Value)) Z (congrArg Value.bool (by (simp [ab,ac,aa];done):false=(Qo xl xh top many)))⟩))))))))))
   ·intro ac;exact Gs 10 17 (AD Z ac) Z (Gs 10 17 (AD Z ac) Z (Gs 10 17 (AD Z ac) Z (Gs 10 17 (AD Z ac) Z (Pk false (.bool false) Z (AD Z ac) Z (Mz (.bool false) Z (Gs 16 23 Z Z (Gs 16 23 Z Z (Gs 16 23 Z Z (Gs 16 23 Z Z (Gs 16 23 Z Z (Gs 16 23 Z Z (Gs 16 23 Z Z (Pz false (.bool false) Z (Az (.bool false) Z (Nl (⟨Z,Z,Et (b:=(.bool false:Value)) Z (congrArg Value.bool (by (simp [ab,ac];done):false=(Qo xl xh top many)))⟩))))))))))))))))
  ·intro ab;exact Gs 3 10 (AD Z ab) Z (Gs 3 10 (AD Z ab) Z (Gs 3 10 (AD Z ab) Z (Gs 3 10 (AD Z ab) Z (Gs 3 10 (AD Z ab) Z (Pk false (.bool false) Z (AD Z ab) Z (Mz (.bool false) Z (Gs 10 17 Z Z (Gs 10 17 Z Z (Gs 10 17 Z Z (Gs 10 17 Z Z (Pz false (.bool false) Z (Mz (.bool false) Z (Gs 16 23 Z Z (Gs 16 23 Z Z (Gs 16 23 Z Z (Gs 16 23 Z Z (Gs 16 23 Z Z (Gs 16 23 Z Z (Gs 16 23 Z Z (Pz false (.bool false) Z (Az (.bool false) Z (Nl (⟨Z,Z,Et (b:=(.bool false:Value)) Z (congrArg Value.bool (by (simp [ab];done):false=(Qo xl xh top many)))⟩)))))))))))))))))))))))
 ·rintro _ _ _ ⟨ag,ae,ah⟩;subst ag;subst ae;exact Rt (⟨Zr,Ja Z (v:=.bool (Qo xl xh top many)) ah (⟨(by rfl),af⟩)⟩)
theorem Vn(hQ:EZ h ps psv ws wsv js jsv ns nsv):AT W 193 #[.agg #[J bag,J kinds,psv,wsv,jsv,nsv]] h (λv h'=>v=(J (GC bag kinds):Value)/\h.Le h'):=by
 have ad:=hQ.1.len;have ae:=hQ.2.len;have af:=hQ.3.len;have ag:=hQ.5.len;refine Ct func193 Z (Sr (Pl Z (Bo #[J bag,J kinds,psv,wsv,jsv,nsv] Z Z λ_ h6 _ ab am _=>Az (J 0) Z (Nl (Sq (BX (λσ' ds' h'=>ds'=[]/\h6=h'/\σ' 2=J 0/\σ' 14=.bool (Qk bag kinds)) ?_ ?_))))))
 ·refine Rg (Fz Aw Z (Fz IA Z (Lz (J bag) Z (Rd.one AR am Z) (Pl Z (Au func95 DT Z Z Z ((CP bag 0 9 ).mono λ_ _ ah=>?_))))));obtain ⟨rfl,rfl⟩:=ah;refine Pl Z (Bd Z (Mz (.bool (decide (¬(0<=bag/\bag<=9)))) Z (Ao (p:=¬(0<=bag/\bag<=9)) ?_ ?_)))
  ·intro aa;exact Gs 5 8 (AI Z aa) Z (Gs 5 8 (AI Z aa) Z (Gs 5 8 (AI Z aa) Z (Gs 5 8 (AI Z aa) Z (Gs 5 8 (AI Z aa) Z (Pk true (.bool true) Z (AI Z aa) Z (Nl (⟨Z,Z,Z,Et (b:=(.bool true:Value)) Z (congrArg Value.bool (by (simp [aa];done):true=(Qk bag kinds)))⟩)))))))
  ·intro aa;refine Gg 5 8 (AD Z aa) Z (AC Aw Z (Gg 5 8 (AD Z aa) Z (AC Fo Z (Gg 5 8 (AD Z aa) Z (Lo (J kinds) Z (Rd.one AR am Z) (Gg 5 8 (AD Z aa) Z (Au func95 DT Z Z Z ((CP kinds 0 3 ).mono λ_ _ ai=>?_))))))));obtain ⟨rfl,rfl⟩:=ai;exact Gg 5 8 (AD Z aa) Z (Bd Z (Pk false (.bool (Q1h kinds)) Z (AD Z aa) Z (Nl (⟨Z,Z,Z,Et (b:=(.bool (Q1h kinds):Value)) Z (congrArg Value.bool (by (simp [aa];done):decide (¬(0<=kinds/\kinds<=3))=(Qk bag kinds)))⟩))))
 ·rintro _ _ _ ⟨aj,ac,an,ak⟩;subst aj;subst ac;refine AU ak (λal=>?_) (λal=>?_)
  ·exact Sr (Az (J 1) Z (Nl (Rt (⟨Zr,Ot (J 1) Z (⟨(by simp_all [GC]),ab⟩)⟩))))
  ·exact Sk (Sr (Az (J 0) Z (Nl (Rt (⟨Zr,Ot (J 0) Z (⟨(by simp_all [GC]),ab⟩)⟩)))))
theorem LL(l:List Int)(lv:Value)(hQ:EZ h ps psv ws wsv js jsv ns nsv)(hl:AH h lv 1 eI l):AT W 69 #[.agg #[J bag,J kinds,psv,wsv,jsv,nsv],lv] h (λv h'=>v=(J (B0 ps.length l):Value)/\h.Le h'):=by
 have af:=hQ.1.len;have ag:=hQ.2.len;have ah:=hQ.3.len;have ai:=hQ.5.len;have aj:=hl.len;refine Ct func69 Z (Sr (Pl Z (Bo #[J bag,J kinds,psv,wsv,jsv,nsv] Z Z λr6 h7 _ aa ak _=>Az (J 0) Z (Nl (S2 (Mz lv Z (Pl Z (AL BB (hl.le aa) Z (Mz (J 0) Z (Nl (Bk (Aj (λnn σ' ds' h'=>∃(k:Nat),nn=l.length-k/\(k<=l.length)/\(∀j,j<k->Eh ps.length l j=0)/\ds'=[]/\GH.Le h7 h'/\σ' 2=Pt r6/\σ' 7=lv/\σ' 8=J (l.length:Int)/\σ' 9=J k) ⟨0,Z,aA,aI,Z,Lr,Z,Z,Z,Z⟩ (λnn _ _ _ al=>?_)))))))))))));obtain ⟨k,rfl,hk,hs,ay,ae,av,aw,ax,am⟩:=al;subst ay;refine Sr (Pl Z (An am ax (Nl (Sq (AU Z (λan=>?_) (λan=>?_))))))
 ·refine Sk (Sq (Bk (Sq (Rg ?_))));have ao:(0:Int)<=(k:Int):=aA
  have ap:(k:Int)<((l.length:Nat):Int):=aA
  refine Pl Z (Ab A8 hl aw am ao ap λaz ac aq=>have ar:AZ _ az ac 1 (eI (l.getD k 0)):=AZ.getD 0 aq;have ab:=aa.trans ae;Lz (Qs l k) Z (BG AR (ar.le ab) Z) (Az (Qs l k) Z (Nl (Sr (Mz (Qs l k) Z (Fa Aw Z av (Fz Bw Z (Lz psv Z (Rd.one DC (ae.keep ak Z) Z) (Pl Z (AL Cz (hQ.1.le ab) Z (Pl Z (DU Z Z aA (Pl Z (Au func95 DT Z Z Z ((CP (l.getD k 0) 0 ((ps.length:Int)-1) ).mono λ_ _ au=>?_)))))))))))))));obtain ⟨rfl,rfl⟩:=au;refine Pl Z (Bd Z (Nl (AU Z (λad=>?_) (λad=>?_))))
  ·exact Sr (Az (J 6) Z (Nl (Rt (⟨Zr,Ot (J 6) Z (⟨(by (symm;congr 1;exact Tf hs aA ‹_›)),ab⟩)⟩))))
  ·have hc40_:=Dn ad;exact Sk (Rg (Ad _ _ Z am Z aA (Mz (J ((k:Int)+1)) Z (Nl (⟨_,aA,k+1,Z,aA,(by exact De hs (by unfold Eh;rw [if_neg ‹_›])),Z,ae,av,aw,ax,Z⟩)))))
 ·exact Xt (Sr (Az (J 0) Z (Nl (Rt (⟨Zr,Ot (J 0) Z (⟨(by (symm;congr 1;exact Nf hs aA)),(aa.trans ae)⟩)⟩)))))
theorem UC(s:ByteArray)(hsz:s.size<=1000):AT W 198 #[.string s] h (λv h'=>v=(.bool (Es s):Value)/\h.Le h'):=by
 have hbl:=C6 s;refine Ct func198 Z (Sr (Az (.bool false) Z (Nl (S2 (Mz (.string s) Z (Pl Z (ok_convS Vi Z aA λa4 h2 ak a5=>Pl Z (AL fx_sl227 a5 Z (Mz (J 0) Z (Nl (Bk (Aj (λnn σ' ds' h'=>∃(k:Nat),nn=(bytesOf s).length-k/\(k<=(bytesOf s).length)/\(∀j,j<k->IY s j=0)/\ds'=[]/\GH.Le h2 h'/\σ' 0=.string s/\σ' 6=a4/\σ' 7=J ((bytesOf s).length:Int)/\σ' 8=J k) ⟨0,Z,aA,aI,Z,Lr,Z,Z,Z,Z⟩ (λnn _ _ h7 a6=>?_)))))))))))));obtain ⟨k,rfl,hk,hs,x9,ap,ah,ai,aj,ag⟩:=a6;subst x9;have hby:=Kj s k;refine Sr (Pl Z (An ag aj (Nl (Sq (AU Z (λal=>?_) (λal=>?_))))))
 ·refine Sk (Sq (Bk (Sr (Mv (J k) Z ag ?_))));have aq:(0:Int)<=(k:Int):=aA
  have ar:(k:Int)<(((bytesOf s).length:Nat):Int):=aA
  refine Pl Z (Ab AAB a5 ai ag aq ar λa7 am au=>have av:AZ _ a7 am 1 (eB (Q9 s k)):=AZ.getD 0 au;Lz (.int .u8 (Q9 s k)) Z (BG fx_ty5 (av.le ap) Z) (Az (J k) Z (Az (.int .u8 (Q9 s k)) Z (Nl (BX (λσ' ds' h'=>ds'=[]/\h7=h'/\σ' 0=.string s/\σ' 6=a4/\σ' 7=J ((bytesOf s).length:Int)/\σ' 8=J k/\σ' 31=.bool (Q6 s k)) ?_ ?_)))))
  ·refine Rg (Mz (.int .u8 (Q9 s k)) Z (Pl Z (Da Z Z (Mz (.bool (decide (97<=(Q9 s k)))) Z (Ao (p:=97<=(Q9 s k)) ?_ ?_)))))
   ·intro ab;refine Gg 2 15 (AI Z ab) Z (Mo (.int .u8 (Q9 s k)) Z (Gg 2 15 (AI Z ab) Z (Em Z Z (Pk true (.bool (decide ((Q9 s k)<=122))) Z (AI Z ab) Z (Mz (.bool (decide ((Q9 s k)<=122))) Z (Ao (p:=(Q9 s k)<=122) ?_ ?_))))))
    ·intro aa;exact Gs 6 19 (AI Z aa) Z (Gs 6 19 (AI Z aa) Z (Gs 6 19 (AI Z aa) Z (A6 (j:=9) (d:=22) Z Z Z Z Z Z (A6 (j:=9) (d:=22) Z Z Z Z Z Z (Gs 6 19 (AI Z aa) Z (Gs 6 19 (AI Z aa) Z (A6 (j:=13) (d:=26) Z Z Z Z Z Z (A6 (j:=13) (d:=26) Z Z Z Z Z Z (Gs 6 19 (AI Z aa) Z (Pk true (.bool true) Z (AI Z aa) Z (Pl Z (Cu Z (Nl (⟨Z,Z,ah,ai,aj,ag,Et (b:=(.bool false:Value)) Z (congrArg Value.bool (by grind:false=(Q6 s k)))⟩))))))))))))))
    ·intro aa;refine Gg 6 19 (AD Z aa) Z (Mo (J k) Z (Gg 6 19 (AD Z aa) Z (Cb Z Z (Gg 6 19 (AD Z aa) Z (Mo (.bool (decide (0<(k:Int)))) Z (Ao (p:=0<(k:Int)) ?_ ?_))))))
     ·intro ac;refine Gg 9 22 (AI Z ac) Z (Mo (.int .u8 (Q9 s k)) Z (Gg 9 22 (AI Z ac) Z (Da Z Z (Gg 6 19 (AD Z aa) Z (A3 (v:=.bool (decide (48<=(Q9 s k)))) (AI Z ac) Z (Gg 6 19 (AD Z aa) Z (Mo (.bool (decide (48<=(Q9 s k)))) Z (Ao (p:=48<=(Q9 s k)) ?_ ?_))))))))
      ·intro ad;exact Gg 13 26 (AI Z ad) Z (Mo (.int .u8 (Q9 s k)) Z (Gg 13 26 (AI Z ad) Z (Em Z Z (Gg 6 19 (AD Z aa) Z (A3 (v:=.bool (decide ((Q9 s k)<=57))) (AI Z ad) Z (Pk false (.bool (decide ((Q9 s k)<=57))) Z (AD Z aa) Z (Pl Z (Bd Z (Nl (⟨Z,Z,ah,ai,aj,ag,Et (b:=(.bool (decide (¬((Q9 s k)<=57))):Value)) Z (congrArg Value.bool (by grind:decide (¬((Q9 s k)<=57))=(Q6 s k)))⟩))))))))))
      ·intro ad;exact Gs 13 26 (AD Z ad) Z (Gs 13 26 (AD Z ad) Z (Gg 6 19 (AD Z aa) Z (A3 (v:=.bool false) (AD Z ad) Z (Pk false (.bool false) Z (AD Z aa) Z (Pl Z (Cu Z (Nl (⟨Z,Z,ah,ai,aj,ag,Et (b:=(.bool true:Value)) Z (congrArg Value.bool (by (simp [al,ab,aa,ac,ad];omega):true=(Q6 s k)))⟩))))))))
     ·intro ac;exact Gs 9 22 (AD Z ac) Z (Gs 9 22 (AD Z ac) Z (Gg 6 19 (AD Z aa) Z (A3 (v:=.bool false) (AD Z ac) Z (Gg 6 19 (AD Z aa) Z (Mo (.bool false) Z (Gs 13 26 Z Z (Gs 13 26 Z Z (Gg 6 19 (AD Z aa) Z (A3 (v:=.bool false) Z Z (Pk false (.bool false) Z (AD Z aa) Z (Pl Z (Cu Z (Nl (⟨Z,Z,ah,ai,aj,ag,Et (b:=(.bool true:Value)) Z (congrArg Value.bool (by grind:true=(Q6 s k)))⟩))))))))))))))
   ·intro ab;refine Gs 2 15 (AD Z ab) Z (Gs 2 15 (AD Z ab) Z (Pk false (.bool false) Z (AD Z ab) Z (Mz (.bool false) Z (Gg 6 19 Z Z (Mo (J k) Z (Gg 6 19 Z Z (Cb Z Z (Gg 6 19 Z Z (Mo (.bool (decide (0<(k:Int)))) Z (Ao (p:=0<(k:Int)) ?_ ?_))))))))))
    ·intro ae;refine Gg 9 22 (AI Z ae) Z (Mo (.int .u8 (Q9 s k)) Z (Gg 9 22 (AI Z ae) Z (Da Z Z (Gg 6 19 Z Z (A3 (v:=.bool (decide (48<=(Q9 s k)))) (AI Z ae) Z (Gg 6 19 Z Z (Mo (.bool (decide (48<=(Q9 s k)))) Z (Ao (p:=48<=(Q9 s k)) ?_ ?_))))))))
     ·intro af;exact Gg 13 26 (AI Z af) Z (Mo (.int .u8 (Q9 s k)) Z (Gg 13 26 (AI Z af) Z (Em Z Z (Gg 6 19 Z Z (A3 (v:=.bool (decide ((Q9 s k)<=57))) (AI Z af) Z (Pz false (.bool (decide ((Q9 s k)<=57))) Z (Pl Z (Bd Z (Nl (⟨Z,Z,ah,ai,aj,ag,Et (b:=(.bool (decide (¬((Q9 s k)<=57))):Value)) Z (congrArg Value.bool (by grind:decide (¬((Q9 s k)<=57))=(Q6 s k)))⟩))))))))))
     ·intro af;exact Gs 13 26 (AD Z af) Z (Gs 13 26 (AD Z af) Z (Gg 6 19 Z Z (A3 (v:=.bool false) (AD Z af) Z (Pz false (.bool false) Z (Pl Z (Cu Z (Nl (⟨Z,Z,ah,ai,aj,ag,Et (b:=(.bool true:Value)) Z (congrArg Value.bool (by grind:true=(Q6 s k)))⟩))))))))
    ·intro ae;exact Gs 9 22 (AD Z ae) Z (Gs 9 22 (AD Z ae) Z (Gg 6 19 Z Z (A3 (v:=.bool false) (AD Z ae) Z (Gg 6 19 Z Z (Mo (.bool false) Z (Gs 13 26 Z Z (Gs 13 26 Z Z (Gg 6 19 Z Z (A3 (v:=.bool false) Z Z (Pz false (.bool false) Z (Pl Z (Cu Z (Nl (⟨Z,Z,ah,ai,aj,ag,Et (b:=(.bool true:Value)) Z (congrArg Value.bool (by grind:true=(Q6 s k)))⟩))))))))))))))
  ·rintro _ _ _ ⟨aw,an,ax,ay,az,a0,a1⟩;subst aw;subst an;refine AU a1 (λao=>?_) (λao=>?_)
   ·exact Sr (Az (.bool false) Z (Nl (Rt (have a2:=ak.trans ap;⟨Zr,Ot (.bool false) Z (⟨(by (symm;congr 1;exact O5 hs aA (by unfold IY Er E7;rw [if_pos aA]))),a2⟩)⟩))))
   ·have hc40_:=Dn ao;exact Sk (Rg (Ad _ _ Z a0 Z aA (Mz (J ((k:Int)+1)) Z (Nl (⟨_,aA,k+1,Z,aA,(by exact De hs (by unfold IY Er E7;rw [if_neg aA])),Z,ap,ax,ay,az,Z⟩)))))
 ·refine Xt (Sr (Mv (.string s) Z ah (Pl Z (LX EQ Z (Pl Z (Au func95 DT Z Z Z ((CP (s.size:Int) 1 10 ).mono λ_ _ a3=>?_)))))));obtain ⟨rfl,rfl⟩:=a3;exact Az (.bool (decide (1<=(s.size:Int)/\(s.size:Int)<=10))) Z (Nl (Rt (⟨Zr,Ot (.bool (decide (1<=(s.size:Int)/\(s.size:Int)<=10))) Z (⟨(by (symm;congr 1;exact O6 hs aA)),(ak.trans ap)⟩)⟩)))
theorem AAE(l:List ByteArray)(lv:Value)(x0:ByteArray)(hl:AH h lv 1 D5 l):AT W 206 #[lv,.string x0] h (λv h'=>v=(J (idxOf (λx=>(x0).toList==x.toList) l):Value)/\h.Le h'):=by
 have ab:=hl.len;refine Ct func206 Z (Sr (Az (J 0) Z (Nl (S2 (Mz lv Z (Pl Z (AL Cz hl Z (Mz (J 0) Z (Nl (Bk (Aj (λnn σ' ds' h'=>∃(k:Nat),nn=l.length-k/\(k<=l.length)/\((l.take k).any (λx=>x0.toList==x.toList)=false)/\ds'=[]/\GH.Le h h'/\σ' 0=lv/\σ' 1=.string x0/\σ' 7=J (l.length:Int)/\σ' 8=J k) ⟨0,Z,aA,aD,Z,Lr,Z,Z,Z,Z⟩ (λnn _ _ _ ak=>?_))))))))))));obtain ⟨k,rfl,hk,hs,x6,x7,x8,x9,aj,ac⟩:=ak;subst x6;refine Sr (Pl Z (An ac aj (Nl (Sq (AU Z (λad=>?_) (λad=>?_))))))
 ·refine Sk (Sq (Bk (Sr (Mv (J k) Z ac (Az (J k) Z (Nl (Sr (Mv (.string x0) Z x9 (Mv lv Z x8 (Mz (J k) Z ?_))))))))));have ae:(0:Int)<=(k:Int):=aA
  have af:(k:Int)<((l.length:Nat):Int):=aA
  refine Pl Z (Ab FZ hl Z Z ae af λal aa ag=>have ah:AZ _ al aa 1 (D5 (l.getD k (⟨#[]⟩:ByteArray))):=AZ.getD (⟨#[]⟩:ByteArray) ag;Lz (.string (l.getD k (⟨#[]⟩:ByteArray))) Z (BG KC (ah.le x7) Z) (Pl Z (YL Z Z (Nl (CW Z (λai=>?_) (λai=>?_))))))
  ·exact Sr (Mz (J k) Z (Az (J k) Z (Nl (Rt (⟨Zr,Ot (J k) Z (⟨(by (rw [Hk (k:=k) (d:=(⟨#[]⟩:ByteArray)) aA hs aE];done)),x7⟩)⟩)))))
  ·exact Sk (Rg (Ad _ _ Z ac Z aA (Mz (J ((k:Int)+1)) Z (Nl (⟨_,aA,k+1,Z,aA,(by exact EU (d:=(⟨#[]⟩:ByteArray)) aA hs aE),Z,x7,x8,x9,aj,Z⟩)))))
 ·exact Xt (Sr (Az (J (-1)) Z (Nl (Rt (⟨Zr,Ot (J (-1)) Z (⟨(by (rw [Gf (k:=k) aA hs])),x7⟩)⟩)))))
theorem UD(l:List ByteArray)(lv:Value)(x0:ByteArray)(hl:AH h lv 1 D5 l):AT W 199 #[lv,.string x0] h (λv h'=>v=(.bool (l.any (λx=>(x0).toList==x.toList)):Value)/\h.Le h'):=by
 have aa:=hl.len;refine Ct func199 Z (Sr (Az (.bool false) Z (Nl (Sr (Mz lv Z (Mz (.string x0) Z (Pl Z (AP func206 Xg Z Z ((AAE l lv x0 hl ).mono λ_ _ ac=>?_)))))))));obtain ⟨rfl,ab⟩:=ac;exact Pl Z (Da Z Z (Az (.bool (decide (0<=(idxOf (λx=>x0.toList==x.toList) l)))) Z (Nl (Rt (⟨Zr,Ot (.bool (decide (0<=(idxOf (λx=>x0.toList==x.toList) l)))) Z (⟨(by rw [show decide (0<=idxOf (λx=>x0.toList==x.toList) l)=l.any (λx=>x0.toList==x.toList) from by rw [Bool.eq_iff_iff];simp [E8]]),ab⟩)⟩)))))
theorem AAF(l:List Int)(lv:Value)(x0:Int)(hl:AH h lv 1 eI l):AT W 169 #[lv,J x0] h (λv h'=>v=(J (idxOf (λx=>decide (x0=x)) l):Value)/\h.Le h'):=by
 have ab:=hl.len;refine Ct func169 Z (Sr (Az (J 0) Z (Nl (S2 (Mz lv Z (Pl Z (AL BB hl Z (Mz (J 0) Z (Nl (Bk (Aj (λnn σ' ds' h'=>∃(k:Nat),nn=l.length-k/\(k<=l.length)/\((l.take k).any (λx=>decide (x0=x))=false)/\ds'=[]/\GH.Le h h'/\σ' 0=lv/\σ' 1=J x0/\σ' 7=J (l.length:Int)/\σ' 8=J k) ⟨0,Z,aA,aD,Z,Lr,Z,Z,Z,Z⟩ (λnn _ _ _ ak=>?_))))))))))));obtain ⟨k,rfl,hk,hs,x6,x7,x8,x9,aj,ac⟩:=ak;subst x6;refine Sr (Pl Z (An ac aj (Nl (Sq (AU Z (λad=>?_) (λad=>?_))))))
 ·refine Sk (Sq (Bk (Sr (Mv (J k) Z ac (Az (J k) Z (Nl (Sr (Mv (J x0) Z x9 (Mv lv Z x8 (Mz (J k) Z ?_))))))))));have ae:(0:Int)<=(k:Int):=aA
  have af:(k:Int)<((l.length:Nat):Int):=aA
  refine Pl Z (Ab A8 hl Z Z ae af λal aa ag=>have ah:AZ _ al aa 1 (eI (l.getD k 0)):=AZ.getD 0 ag;Lz (Qs l k) Z (BG AR (ah.le x7) Z) (Pl Z (B5 Z Z (Nl (AU Z (λai=>?_) (λai=>?_))))))
  ·exact Sr (Mz (J k) Z (Az (J k) Z (Nl (Rt (⟨Zr,Ot (J k) Z (⟨(by (rw [Hk (k:=k) (d:=0) aA hs aE];done)),x7⟩)⟩)))))
  ·exact Sk (Rg (Ad _ _ Z ac Z aA (Mz (J ((k:Int)+1)) Z (Nl (⟨_,aA,k+1,Z,aA,(by exact EU (d:=0) aA hs aE),Z,x7,x8,x9,aj,Z⟩)))))
 ·exact Xt (Sr (Az (J (-1)) Z (Nl (Rt (⟨Zr,Ot (J (-1)) Z (⟨(by (rw [Gf (k:=k) aA hs])),x7⟩)⟩)))))
theorem MI(l:List Int)(lv:Value)(x0:Int)(hl:AH h lv 1 eI l):AT W 142 #[lv,J x0] h (λv h'=>v=(.bool (l.any (λx=>decide (x0=x))):Value)/\h.Le h'):=by
 have aa:=hl.len;refine Ct func142 Z (Sr (Az (.bool false) Z (Nl (Sr (Mz lv Z (Mz (J x0) Z (Pl Z (AP func169 XT Z Z ((AAF l lv x0 hl ).mono λ_ _ ac=>?_)))))))));obtain ⟨rfl,ab⟩:=ac;exact Pl Z (Da Z Z (Az (.bool (decide (0<=(idxOf (λx=>decide (x0=x)) l)))) Z (Nl (Rt (⟨Zr,Ot (.bool (decide (0<=(idxOf (λx=>decide (x0=x)) l)))) Z (⟨(by rw [show decide (0<=idxOf (λx=>decide (x0=x)) l)=l.any (λx=>decide (x0=x)) from by rw [Bool.eq_iff_iff];simp [E8]]),ab⟩)⟩)))))
theorem QZ(xs:List AA)(xsv:Value)(fv:Value)(p:AA->Bool)(hxs:AH h xsv 4 CM xs)(hf:∀x ∈ xs,∀h1,h.Le h1->Bu W fv #[.agg #[J x.a,J x.b,J x.low,J x.high]] h1 λv h2=>v=.bool (p x)/\h1.Le h2):AT W 207 #[xsv,fv] h (λv h'=>v=(J (idxOf p xs):Value)/\h.Le h'):=by
 have ac:=hxs.len;refine Ct func207 Z (Sr (Az (J 0) Z (Nl (S2 (Mz xsv Z (Pl Z (AL Cm hxs Z (Mz (J 0) Z (Nl (Bk (Aj (λnn σ' ds' h'=>∃(k:Nat),nn=xs.length-k/\(k<=xs.length)/\((xs.take k).any p=false)/\ds'=[]/\GH.Le h h'/\σ' 0=xsv/\σ' 1=fv/\σ' 7=J (xs.length:Int)/\σ' 8=J k) ⟨0,Z,aA,aD,Z,Lr,Z,Z,Z,Z⟩ (λnn _ _ _ am=>?_))))))))))));obtain ⟨k,rfl,hk,hs,x6,x7,x8,x9,al,ad⟩:=am;subst x6;refine Sr (Pl Z (An ad al (Nl (Sq (AU Z (λae=>?_) (λae=>?_))))))
 ·refine Sk (Sq (Bk (Sr (Mv (J k) Z ad (Az (J k) Z (Nl (Sr (Mv fv Z x9 (Mv xsv Z x8 (Mz (J k) Z ?_))))))))));have af:(0:Int)<=(k:Int):=aA
  have ag:(k:Int)<((xs.length:Nat):Int):=aA
  refine Pl Z (Ab DB hxs Z Z af ag λan ab ah=>have ai:AZ _ an ab 4 (Q18 xs k):=AZ.getD AA.z ah;Lz _ Z (AE FI (ai.le x7)) (Pl Z (Kz Z (vs:=#[.agg (Q5 xs k)]) (by simp only [List.map_toArray,List.map_cons,List.map_nil,AO] <;> rfl) ((hf (xs.getD k AA.z) (Bc aA) _ x7).mono λ_ _ aj=>?_))));obtain ⟨rfl,aa⟩:=aj;refine Nl (CW Z (λak=>?_) (λak=>?_))
  ·exact Sr (Mz (J k) Z (Az (J k) Z (Nl (Rt (⟨Zr,Ot (J k) Z (⟨(by (rw [Hk (k:=k) aA hs ‹_›];done)),(x7.trans aa)⟩)⟩)))))
  ·exact Sk (Rg (Ad _ _ Z ad Z aA (Mz (J ((k:Int)+1)) Z (Nl (⟨_,aA,k+1,Z,aA,(by exact EU (d:=AA.z) aA hs ‹_›),Z,(x7.trans aa),x8,x9,al,Z⟩)))))
 ·exact Xt (Sr (Az (J (-1)) Z (Nl (Rt (⟨Zr,Ot (J (-1)) Z (⟨(by (rw [Gf (k:=k) aA hs])),x7⟩)⟩)))))
theorem MJ(xs:List AA)(xsv:Value)(fv:Value)(p:AA->Bool)(hxs:AH h xsv 4 CM xs)(hf:∀x ∈ xs,∀h1,h.Le h1->Bu W fv #[.agg #[J x.a,J x.b,J x.low,J x.high]] h1 λv h2=>v=.bool (p x)/\h1.Le h2):AT W 200 #[xsv,fv] h (λv h'=>v=(.bool (xs.any p):Value)/\h.Le h'):=by
 have aa:=hxs.len;refine Ct func200 Z (Sr (Az (.bool false) Z (Nl (Sr (Mz xsv Z (Mz fv Z (Pl Z (AP func207 Xh Z Z ((QZ xs xsv fv p hxs (λx hx h1 l1=>hf x hx h1 (GH.Le.trans Lr l1))).mono λ_ _ ac=>?_)))))))));obtain ⟨rfl,ab⟩:=ac;exact Pl Z (Da Z Z (Az (.bool (decide (0<=(idxOf p xs)))) Z (Nl (Rt (⟨Zr,Ot (.bool (decide (0<=(idxOf p xs)))) Z (⟨(by rw [show decide (0<=idxOf p xs)=xs.any p from by rw [Bool.eq_iff_iff];simp [E8]]),ab⟩)⟩)))))
theorem Vo(hQ:EZ h ps psv ws wsv js jsv ns nsv)(hnm:∀k,(ps.getD k (⟨#[]⟩:ByteArray)).size<=1000):AT W 194 #[.agg #[J bag,J kinds,psv,wsv,jsv,nsv]] h (λv h'=>v=(J (BH ps):Value)/\h.Le h'):=by
 have am:=hQ.1.len;have an:=hQ.2.len;have ao:=hQ.3.len;have ap:=hQ.5.len;refine Ct func194 Z (Sr (Pl Z (Bo #[J bag,J kinds,psv,wsv,jsv,nsv] Z Z λr5 h6 _ ab aq _=>Az (J 0) Z (Nl (S2 (Fz Aw Z (Fz Bw Z (Lz psv Z (Rd.one DC aq Z) (have af:=hQ.1.le ab;Pl Z (AL Cz af Z (Pl Z (Au func95 DT Z Z Z ((CP (ps.length:Int) 1 4 ).mono λ_ _ ar=>?_)))))))))))));obtain ⟨rfl,rfl⟩:=ar;refine Pl Z (Bd Z (Nl (AU Z (λag=>?_) (λag=>?_))))
 ·exact Sr (Az (J 2) Z (Nl (Rt (⟨Zr,Ot (J 2) Z (⟨(by (symm;congr 1;rw [BH,if_pos ‹_›];done)),ab⟩)⟩))))
 ·have hc17_:=Dn ag;refine Sk (S2 (Fz Aw Z (Fz Bw Z (Lz psv Z (Rd.one DC aq Z) (Pl Z (AL Cz af Z (Mz (J 0) Z (Nl (Bk (Aj (λnn σ' ds' h'=>∃(k:Nat),nn=ps.length-k/\(k<=ps.length)/\(∀j,j<k->FA ps j=0)/\ds'=[]/\GH.Le h6 h'/\σ' 1=Pt r5/\σ' 13=psv/\σ' 14=J (ps.length:Int)/\σ' 15=J k) ⟨0,Z,aA,aI,Z,Lr,Z,Z,Z,Z⟩ (λnn _ _ _ au=>?_)))))))))));obtain ⟨k,rfl,hk,hs,a8,ak,a5,a6,a7,al⟩:=au;subst a8;have hnk:=hnm k;refine Sr (Pl Z (An al a7 (Nl (Sq (AU Z (λav=>?_) (λav=>?_))))))
  ·refine Sk (Sq (Bk (Sr (Mv (J k) Z al ?_))));have aw:(0:Int)<=(k:Int):=aA
   have ax:(k:Int)<((ps.length:Nat):Int):=aA
   refine Pl Z (Ab FZ hQ.1 a6 al aw ax λa9 ah ay=>have az:AZ _ a9 ah 1 (D5 (ps.getD k (⟨#[]⟩:ByteArray))):=AZ.getD (⟨#[]⟩:ByteArray) ay;have ad:=ab.trans ak;Lz (.string (ps.getD k (⟨#[]⟩:ByteArray))) Z (BG KC (az.le ad) Z) (Az (J k) Z (Az (.string (ps.getD k (⟨#[]⟩:ByteArray))) Z (Nl (Bk (Sr (Mz (.string (ps.getD k (⟨#[]⟩:ByteArray))) Z (Pl Z (Ac func198 XZ Z ((UC (ps.getD k (⟨#[]⟩:ByteArray)) aA).mono λ_ ba a0=>?_))))))))));obtain ⟨rfl,aa⟩:=a0;refine Pl Z (Cu Z (Az (.bool (!(Es (ps.getD k (⟨#[]⟩:ByteArray))))) Z (Nl (CW Z (λae=>?_) (λae=>?_)))))
   ·have hc41_:(Es (ps.getD k (⟨#[]⟩:ByteArray)))=false:=by simpa using ae
    exact Sr (Az (J 4) Z (Nl (Rt (⟨Zr,Ot (J 4) Z (⟨(by (symm;congr 1;rw [BH,if_neg ‹_›];exact BJ (k:=k) hs aA (by unfold FA;(simp only [*,not_true_eq_false,not_false_eq_true,if_true,if_false,true_or,or_true,reduceCtorEq,Bool.false_eq_true];done)) aC)),(ad.trans aa)⟩)⟩))))
   ·have hc41_:(Es (ps.getD k (⟨#[]⟩:ByteArray)))=true:=by simpa using ae
    refine Sr (Fa Aw Z a5 (Fz Bw Z (Lz psv Z (Rd.one DC (aa.keep (ak.keep aq Z) Z) Z) (Mz (J k) Z (have ai:=ad.trans aa;Pl Z (Ol (0) k FZ (hQ.1.le ai) Z Z (⟨_,Z⟩) aA aA λaj a1=>?_))))));have a2:AH ba aj 1 D5 (ps.take k):=by simpa using a1
    refine Mz (.string (ps.getD k (⟨#[]⟩:ByteArray))) Z (Pl Z (AP func199 Xa Z Z ((UD (ps.take k) aj (ps.getD k (⟨#[]⟩:ByteArray)) a2 ).mono λ_ _ a3=>?_)));obtain ⟨rfl,ac⟩:=a3;refine Az (.bool ((ps.take k).any (λx=>((ps.getD k (⟨#[]⟩:ByteArray))).toList==x.toList))) Z (Nl (CW Z (λa4=>?_) (λa4=>?_)))
    ·exact Sr (Az (J 5) Z (Nl (Rt (⟨Zr,Ot (J 5) Z (⟨(by (symm;congr 1;rw [BH,if_neg ‹_›];exact BJ (k:=k) hs aA (by unfold FA;(simp only [*,not_true_eq_false,not_false_eq_true,if_true,if_false,true_or,or_true,reduceCtorEq,Bool.false_eq_true];done)) aC)),(ai.trans ac)⟩)⟩))))
    ·exact Sk (Rg (Ad _ _ Z al Z aA (Mz (J ((k:Int)+1)) Z (Nl (⟨_,aA,k+1,Z,aA,(by exact De hs (by unfold FA;(simp only [*,not_true_eq_false,not_false_eq_true,if_true,if_false,or_self,reduceCtorEq,Bool.false_eq_true];done))),Z,((ak.trans aa).trans ac),a5,a6,a7,Z⟩)))))
  ·exact Xt (Sr (Az (J 0) Z (Nl (Rt (⟨Zr,Ot (J 0) Z (⟨(by (symm;congr 1;rw [BH,if_neg ‹_›];exact Bm (k:=k) hs aA)),(ab.trans ak)⟩)⟩)))))
theorem Xv(y:AA)(x:AA)(rx:Nat)(hrx:AZ h rx 0 4 #[J x.a,J x.b,J x.low,J x.high]):AT W 201 #[.agg #[J y.a,J y.b,J y.low,J y.high],Pt rx] h (λv h'=>v=(.bool (decide (y.a=x.a/\y.b=x.b)):Value)/\h.Le h'):=by
 refine Ct func201 Z (Sr (Pl Z (Bo #[J y.a,J y.b,J y.low,J y.high] Z Z λ_ h2 _ ab af _=>Az (.bool false) Z (Nl (BX (λσ' ds' h'=>ds'=[]/\h2=h'/\σ' 3=.bool (decide ((y.a=x.a)/\(y.b=x.b)))) ?_ ?_)))))
 ·refine Rg (Fz CN Z (Lz (J y.a) Z (Rd.one AR af Z) (Fz CN Z (have ag:=hrx.le ab;Lz (J x.a) Z (Cc (o:=0) AR ag Z) (Pl Z (B5 Z Z (Mz (.bool (decide (y.a=x.a))) Z (Ao (p:=y.a=x.a) ?_ ?_))))))))
  ·intro aa;exact Gg 5 9 (AI Z aa) Z (AC CY Z (Gg 5 9 (AI Z aa) Z (Lo (J y.b) Z (Rd.one AR af Z) (Gg 5 9 (AI Z aa) Z (AC CY Z (Gg 5 9 (AI Z aa) Z (Lo (J x.b) Z (Cc (o:=1) AR ag Z) (Gg 5 9 (AI Z aa) Z (B5 Z Z (Pk true (.bool (decide (y.b=x.b))) Z (AI Z aa) Z (Az (.bool (decide (y.b=x.b))) Z (Nl (⟨Z,Z,Et (b:=(.bool (decide (y.b=x.b)):Value)) Z (congrArg Value.bool (by (simp [aa];done):decide (y.b=x.b)=(decide ((y.a=x.a)/\(y.b=x.b)))))⟩)))))))))))))
  ·intro aa;exact Gs 5 9 (AD Z aa) Z (Gs 5 9 (AD Z aa) Z (Gs 5 9 (AD Z aa) Z (Gs 5 9 (AD Z aa) Z (Gs 5 9 (AD Z aa) Z (Pk false (.bool false) Z (AD Z aa) Z (Az (.bool false) Z (Nl (⟨Z,Z,Et (b:=(.bool false:Value)) Z (congrArg Value.bool (by (simp [aa];done):false=(decide ((y.a=x.a)/\(y.b=x.b)))))⟩))))))))
 ·rintro _ _ _ ⟨ad,ac,ae⟩;subst ad;subst ac;exact Rt (⟨Zr,Ja Z (v:=.bool (decide ((y.a=x.a)/\(y.b=x.b)))) ae (⟨(by rfl),ab⟩)⟩)
end Go.Ns
