/- Rules and walks, part 3 of 6. No conditions. -/
import Derived.Carry
import Derived.Conc.LeavingOf
import Derived.LaidMore
import Derived.OpenShut
import Derived.Test.YtolmhecgdjgdjaaGreatDoorPSB
import Derived.Test.YtolmhecgdjgdjaaGreatDoorProg
set_option linter.unusedVariables false
set_option linter.unusedSimpArgs false
set_option linter.unnecessarySimpa false
set_option linter.unusedSectionVars false
namespace Go.Ns
open Go.Conc
section
variable {P:Program} {E:GM P} {O:Nat->Value} {ds:List Deferred} {h:GH} {T:(Nat->Value)->List Deferred->GH->Prop} {dst:Option Nat} {ty:TypeId} {pos:String} {af:Array Edge} {gd:Option (Nat×Bool)}
theorem ok_eqlB{xt yt:TypeId}{x y:Operand}{a b:Bool}(hx:AP O x=.bool a)(hy:AP O y=.bool b)(he:Oa P 1 xt (.bool a) (.bool b)=some (a==b))(k:T (putS O dst (.bool (a==b))) ds h):BV E ⟨dst,.binOp .eql xt x y yt,ty,pos,af,gd⟩ O ds h T:=by
 unfold BV execOp;simp only [hx,hy];refine Fv (AF _ _ ?_);have hg:∀(Q:Unit->GH->Prop),Q () h->(eqGuard .eql xt x y (.bool a) (.bool b)).gh P h Q:=λQ q=>q;refine hg _ ?_;show Sem.gh P (do pure (Value.bool (<-Op.equal xt (.bool a) (.bool b))):Sem Value) h _;refine AF _ _ ?_;exact Is 1 _ _ _ _ (a==b) h _ aC he k
theorem QR{t:TypeId}{x o:Operand}{m n b off hi:Nat}(ht:M7 P t=some (m,n))(hx:AP O x=.pointer (some ⟨b,off,none⟩))(ho:∃kd,AP O o=.int kd hi)(h2:hi<=m)(k:T (putS O dst (.slice (some ⟨b,off,none⟩) hi m)) ds h) :
  BV E ⟨dst,.slice t x none (some o) none,ty,pos,af,gd⟩ O ds h T:=by
 obtain ⟨kd,e⟩:=ho;unfold BV execOp;simp only [hx];refine Fv ?_;unfold M7 at ht;unfold Instr.sliceAt;cases hu:P.underlying t with
 | none=>rw [hu] at ht;cases ht
 | some d=>
  rw [hu] at ht;cases d <;> first | (cases ht;done) | skip
  rename_i el
  simp only [Option.map_eq_some_iff,Prod.mk.injEq] at ht;obtain ⟨x0,hx0,rfl,rfl⟩:=ht;refine AF _ _ (An hu ?_);dsimp only;refine AF _ _ (Aw ?_);unfold Instr.sliceBounds;simp only [Option.map_some,Option.map_none,e,Bool.false_eq_true,↓reduceIte];refine AF _ _ (AF _ _ (Aw (AF _ _ (DK aA aA (AF _ _ (Aw (Aw ?_)))))));refine AF _ _ (D6 hx0 (Aw ?_));simp only [Nat.sub_zero,Nat.zero_mul,Ip,Nat.add_zero,ite_self,Int.toNat_natCast];exact k
end
def eBo(b:Bool):Array Value:=#[.bool b]
theorem can_sl{h:GH}{r n:Nat}{p:Bool}{c:Hm}{t:TypeId}{f:Nat×Nat}(hb:h r=some (p,.cells (F5 c) t f))(hn:n<=4):AD h (.slice (some ⟨r,0,none⟩) n 4) 1 eBo (O9 c n):=by
 refine ⟨some ⟨r,0,none⟩,4,by simp [O9],by simpa [O9] using hn,by simp [O9];omega,λi hi=>⟨r,0,rfl,p,_,t,f,hb,?_,?_⟩⟩
 ·have:i<n:=by simpa [O9] using hi
  show 0+i*1+1<=4;omega
 ·have hi':i<n:=by simpa [O9] using hi
  have h4:i<4:=aA
  have e:(O9 c n)[i]=c i:=by simp [O9]
  rw [e]
  match i,h4 with
  | 0,_=>rfl
  | 1,_=>rfl
  | 2,_=>rfl
  | 3,_=>rfl
theorem PC{ws:List AE}{c c':Hm}{np k:Nat}(h:Ek ws (np-k) c=c')(hk:np<=k):c=c':=by
 rw [Nat.sub_eq_zero_of_le hk] at h;exact h
theorem UF{ws:List AE}{c c':Hm}{np k:Nat}(h:Ek ws (np-k) c=c')(hk:k<np):Ek ws (np-(k+1)) (Gu ws c)=c':=by
 rw [show np-k=(np-(k+1))+1 by omega] at h;exact h
def BG(ws:List AE)(c:Hm)(k:Nat):Hm:=(ws.take k).foldl Hn c
theorem Vv{ws:List AE}{c:Hm}{k:Nat}(hk:k<ws.length):BG ws c (k+1)=Hn (BG ws c k) (ws.getD k AE.z):=by
 unfold BG;rw [ER AE.z hk,List.foldl_append];rfl
theorem Ym{ws:List AE}{c:Hm}{k:Nat}(hk:ws.length<=k):BG ws c k=Gu ws c:=by
 unfold BG Gu;rw [List.take_of_length_le hk]
structure AG where
 ways:Nat->Int
 works:Nat->Int
def AG.zero:AG:=⟨λ_=>0,λ_=>0⟩
def Af(p:AG):Array Value:=#[.int .i64 (p.ways 0),.int .i64 (p.ways 1),.int .i64 (p.ways 2),.int .i64 (p.ways 3),.int .i64 (p.ways 4),
 .int .i64 (p.works 0),.int .i64 (p.works 1),.int .i64 (p.works 2),.int .i64 (p.works 3)]
theorem Fi(p:AG):(Value.agg (Af p)).cells.size=9:=rfl
theorem Fj(p:AG):Value.fine (.agg (Af p))=true:=rfl
theorem GU(p:AG):0+9<=(Af p).size:=Nat.le_refl 9
theorem GV(p q:AG):B0 (Af p) 0 (Value.agg (Af q)).cells.toList=Af q:=by
 simp [Value.cells,Af,B0]
def AG.setWay(p:AG)(i:Nat)(n:Int):AG:={ p with ways:=λk=>if k=i then n else p.ways k }
def AG.setWork(p:AG)(i:Nat)(n:Int):AG:={ p with works:=λk=>if k=i then n else p.works k }
theorem GW{p:AG}{i:Nat}(h:i<5):(Af p)[0+i*1]? =some (.int .i64 (p.ways i)):=by
 match i,h with
 | 0,_=>rfl
 | 1,_=>rfl
 | 2,_=>rfl
 | 3,_=>rfl
 | 4,_=>rfl
theorem Je{p:AG}{i:Nat}(h:i<4):(Af p)[5+i*1]? =some (.int .i64 (p.works i)):=by
 match i,h with
 | 0,_=>rfl
 | 1,_=>rfl
 | 2,_=>rfl
 | 3,_=>rfl
theorem QS{p:AG}{i:Nat}{n:Int}(h:i<5):B0 (Af p) (0+i*1) [.int .i64 n]=Af (p.setWay i n):=by
 match i,h with
 | 0,_=>rfl
 | 1,_=>rfl
 | 2,_=>rfl
 | 3,_=>rfl
 | 4,_=>rfl
theorem PD{p:AG}{i:Nat}{n:Int}(h:i<4):B0 (Af p) (5+i*1) [.int .i64 n]=Af (p.setWork i n):=by
 match i,h with
 | 0,_=>rfl
 | 1,_=>rfl
 | 2,_=>rfl
 | 3,_=>rfl
def AG.put(p:AG)(nw i:Nat)(n:Int):AG:=if i<nw then p.setWay i n else p.setWork (i-nw) n
theorem AG.put_put(p:AG)(nw i:Nat)(n m:Int):(p.put nw i n).put nw i m=p.put nw i m:=by
 unfold AG.put;split
 ·unfold AG.setWay;congr 1;funext k;simp only [];split <;> rfl
 ·unfold AG.setWork;congr 1;funext k;simp only [];split <;> rfl
def FV(p:AG)(l:List Int):Int:=(l.map λk=>p.ways k.toNat).sum
def Ci(ns:List AK)(p:AG):Bool:=ns.all λx=>decide (x.low<=FV p x.ways/\FV p x.ways<=x.high)
structure Bw(p:AG):Prop where
 ways:∀k,0<=p.ways k/\p.ways k<=30
 works:∀k,0<=p.works k/\p.works k<=30
def OD(ns:List AK)(p:AG)(k:Nat):Bool:=decide ((ns.getD k AK.z).low<=FV p (ns.getD k AK.z).ways/\FV p (ns.getD k AK.z).ways<=(ns.getD k AK.z).high)
theorem S5{p:AG}{l:List Int}{q:Nat}(h:q<l.length):FV p (l.take (q+1))=FV p (l.take q)+p.ways (l.getD q 0).toNat:=by
 unfold FV;rw [ER 0 h];simp
theorem NO{p:AG}{l:List Int}{q:Nat}(h:l.length<=q):FV p (l.take q)=FV p l:=by rw [List.take_of_length_le h]
theorem UG{p:AG}{ns:List AK}{k q:Nat}{s:Int}(hs:s=FV p ((ns.getD k AK.z).ways.take q))(hq:(ns.getD k AK.z).ways.length<=q)(h:(ns.getD k AK.z).low<=s/\s<=(ns.getD k AK.z).high):OD ns p k=true:=by
 rw [NO hq] at hs;subst hs;exact decide_eq_true h
theorem Vw{p:AG}{ns:List AK}{k:Nat}(h:∀j,j<k->OD ns p j=true)(hk:ns.length<=k):Ci ns p=true:=by
 unfold Ci;rw [List.all_eq_true];intro x hx;obtain ⟨i,hi,rfl⟩:=List.mem_iff_getElem.1 hx
 have:=h i aA
 unfold OD at this;rw [Ea AK.z hi] at this;exact this
theorem Yn{p:AG}{ns:List AK}{k q:Nat}{s:Int}(hk:k<ns.length)(hs:s=FV p ((ns.getD k AK.z).ways.take q))(hq:(ns.getD k AK.z).ways.length<=q)(h:¬((ns.getD k AK.z).low<=s/\s<=(ns.getD k AK.z).high)):Ci ns p=false:=by
 rw [NO hq] at hs;subst hs;rw [Ea AK.z hk] at h;unfold Ci;rw [List.all_eq_false];exact ⟨ns[k],List.getElem_mem hk,by simpa using h⟩
theorem PE{f:Nat->Bool}{k:Nat}(h:∀j,j<k->f j=true)(e:f k=true):∀j,j<k+1->f j=true:=λj hj=>by
 rcases Nat.lt_succ_iff_lt_or_eq.1 hj with q | rfl
 ·exact h j q
 ·exact e
theorem PG{nw:Nat}{ns:List AK}(h:∀k,k<ns.length->Dz nw ns k=0)(k:Nat):(ns.getD k AK.z).ways.length<=5/\(∀q,0<=(ns.getD k AK.z).ways.getD q 0/\((ns.getD k AK.z).ways.getD q 0=0\/(ns.getD k AK.z).ways.getD q 0<=(nw:Int)-1)):=by
 rcases Nat.lt_or_ge k ns.length with hk | hk
 ·have e:=h k hk;unfold Dz at e;split at e
  ·cases e
  ·split at e
   ·cases e
   ·rename_i h5 h6
    refine ⟨aA,λq=>?_⟩;rcases Nat.lt_or_ge q (ns.getD k AK.z).ways.length with hq | hq
    ·have h7:¬∃x ∈ (ns.getD k AK.z).ways,¬(0<=x/\x<=(nw:Int)-1):=by simpa [List.any_eq_true] using h6
     have h8:0<=(ns.getD k AK.z).ways.getD q 0/\(ns.getD k AK.z).ways.getD q 0<=(nw:Int)-1:=Classical.byContradiction λz=>h7 ⟨_,Br hq,z⟩;exact ⟨h8.1,.inr h8.2⟩
    ·rw [CF hq];exact ⟨Int.le_refl _,.inl rfl⟩
 ·rw [CF hk];refine ⟨by simp [AK.z],λq=>?_⟩;simp [AK.z]
def CX(ws:List AE)(js:List AM)(i:Nat):Int:=if i<ws.length then (ws.getD i AE.z).low else (js.getD (i-ws.length) AM.z).low
def Gv(ws:List AE)(js:List AM)(i:Nat):Int:=if i<ws.length then (ws.getD i AE.z).high else (js.getD (i-ws.length) AM.z).high
def Cq(ag:AG->Bool)(ws:List AE)(js:List AM):Nat->Nat->AG->List AG
 | 0,_,p=>[p]
 | f+1,i,p=>(IY (CX ws js i) (Gv ws js i)).flatMap λn=>if i+1=ws.length/\ag (p.put ws.length i n)=false then [] else Cq ag ws js f (i+1) (p.put ws.length i n)
def CO(ag:AG->Bool)(ws:List AE)(js:List AM)(f i:Nat)(p:AG)(n:Int):List AG:=
 if i+1=ws.length/\ag (p.put ws.length i n)=false then [] else Cq ag ws js f (i+1) (p.put ws.length i n)
theorem Gk(ag:AG->Bool)(ws:List AE)(js:List AM)(f i:Nat)(p:AG) :
  Cq ag ws js (f+1) i p=(IY (CX ws js i) (Gv ws js i)).flatMap (CO ag ws js f i p):=rfl
def AB(ws:List AE)(js:List AM)(ns:List AK):List AG:=
 if 0<ws.length\/Ci ns AG.zero=true then Cq (Ci ns) ws js (ws.length+js.length) 0 AG.zero else []
def HC(nw i:Nat):Nat:=if i<nw then 0+i*1 else 5+(i-nw)*1
theorem Yo{nw i:Nat}(h:i<nw):HC nw i=0+i*1:=if_pos h
theorem Vx{nw i:Nat}(h:¬i<nw):HC nw i=5+(i-nw)*1:=if_neg h
theorem J8{p:AG}{nw nj i:Nat}{v:Int}(hw:nw<=5)(hj:nj<=4)(hi:i<nw+nj):(Af (p.put nw i v))[HC nw i]? =some (.int .i64 v):=by
 unfold AG.put HC;split
 ·rw [GW aA];simp [AG.setWay]
 ·rw [Je aA];simp [AG.setWork]
theorem F6{p:AG}{nw nj i:Nat}{v:Int}(hw:nw<=5)(hj:nj<=4)(hi:i<nw+nj):B0 (Af p) (HC nw i) [.int .i64 v]=Af (p.put nw i v):=by
 unfold AG.put HC;split
 ·exact QS aA
 ·exact PD aA
theorem Jf{nw nj i:Nat}(hw:nw<=5)(hj:nj<=4)(hi:i<nw+nj):HC nw i+1<=9:=by unfold HC;split <;> omega
def AG.zeros(p:AG)(nw i:Nat):Prop:=(∀k,i<=k->k<nw->p.ways k=0)/\∀k,i<=nw+k->p.works k=0
theorem AG.zeros_put{p:AG}{nw i:Nat}(h:p.zeros nw i):p.put nw i 0=p:=by
 obtain ⟨wy,wo⟩:=p;unfold AG.put AG.setWay AG.setWork;split
 ·rename_i hi
  congr 1;funext k;split
  ·rename_i e;subst e;exact (h.1 k (Nat.le_refl _) hi).symm
  ·rfl
 ·rename_i hi
  congr 1;funext k;split
  ·rename_i e;subst e;exact (h.2 (i-nw) aA).symm
  ·rfl
theorem AG.zeros_next{p:AG}{nw i:Nat}{v:Int}(h:p.zeros nw i):(p.put nw i v).zeros nw (i+1):=by
 unfold AG.put;split
 ·refine ⟨λk h1 h2=>?_,λk h1=>h.2 k aA⟩;show (if k=i then v else p.ways k)=0;rw [if_neg aA];exact h.1 k aA h2
 ·refine ⟨λk h1 h2=>h.1 k aA h2,λk h1=>?_⟩;show (if k=i-nw then v else p.works k)=0;rw [if_neg aA];exact h.2 k aA
theorem AG.zeros_zero(nw i:Nat):AG.zero.zeros nw i:=⟨λ_ _ _=>rfl,λ_ _=>rfl⟩
theorem Bw.zero:Bw AG.zero:=⟨λ_=>(aC:(0:Int)<=0/\(0:Int)<=30),λ_=>(aC:(0:Int)<=0/\(0:Int)<=30)⟩
theorem Bw.put{p:AG}(h:Bw p){nw i:Nat}{v:Int}(hv:0<=v/\v<=30):Bw (p.put nw i v):=by
 unfold AG.put;split
 ·refine ⟨λk=>?_,h.works⟩;show 0<=(if k=i then v else p.ways k)/\(if k=i then v else p.ways k)<=30;split
  ·exact hv
  ·exact h.ways k
 ·refine ⟨h.ways,λk=>?_⟩;show 0<=(if k=i-nw then v else p.works k)/\(if k=i-nw then v else p.works k)<=30;split
  ·exact hv
  ·exact h.works k
section
variable {bag kinds:Int} {ps:List ByteArray} {ws:List AE} {js:List AM} {ns:List AK} {ag:AG->Bool} {p:AG} {all pre:List AG} {f i k:Nat}
theorem BR.few(b:BR bag kinds ps ws js ns)(hi:i<ws.length+js.length):0<=CX ws js i/\CX ws js i<=Gv ws js i/\Gv ws js i<=30/\Gv ws js i-CX ws js i<2:=by
 unfold CX Gv;by_cases h:i<ws.length
 ·rw [if_pos h,if_pos h];exact (UD b.way i h).time
 ·rw [if_neg h,if_neg h];exact (PB (b.job (i-ws.length) aA)).time
theorem Yp(e:i+1=ws.length)(h:ag (p.put ws.length i (CX ws js i+(k:Int)))=false) :
  pre++(Ch (CX ws js i) (k+1)).flatMap (CO ag ws js f i p)=pre++(Ch (CX ws js i) k).flatMap (CO ag ws js f i p):=by
 rw [NF];unfold CO;rw [if_pos ⟨e,h⟩,List.append_nil]
theorem RO(h:¬(i+1=ws.length/\ag (p.put ws.length i (CX ws js i+(k:Int)))=false)) :
  pre++(Ch (CX ws js i) (k+1)).flatMap (CO ag ws js f i p)=(pre++(Ch (CX ws js i) k).flatMap (CO ag ws js f i p))++Cq ag ws js f (i+1) (p.put ws.length i (CX ws js i+(k:Int))):=by
 rw [NF,<-List.append_assoc];congr 1;unfold CO;rw [if_neg h]
theorem NP(hw:CW all pre (Cq ag ws js (f+1) i p))(hk:CX ws js i+(k:Int)<=Gv ws js i)(h:¬(i+1=ws.length/\ag (p.put ws.length i (CX ws js i+(k:Int)))=false)) :
  CW all (pre++(Ch (CX ws js i) k).flatMap (CO ag ws js f i p)) (Cq ag ws js f (i+1) (p.put ws.length i (CX ws js i+(k:Int)))):=by
 rw [Gk] at hw
 have:=hw.round hk
 unfold CO at this ⊢;rw [if_neg h] at this;exact this
end
theorem Vy{lo hi:Int}(h:hi-lo<2):(IY lo hi).length<=2:=by unfold IY Ch;simp;omega
theorem LR{bag kinds:Int}{ps:List ByteArray}{ws:List AE}{js:List AM}{ns:List AK}(b:BR bag kinds ps ws js ns)(ag:AG->Bool):∀(f i:Nat)(p:AG),i+f=ws.length+js.length->(Cq ag ws js f i p).length<=2 ^ f
 | 0,_,_,_=>Nat.le_refl _
 | f+1,i,p,h=>by
  rw [Gk];have h1:=(b.few (i:=i) aA).2.2.2;have h2:=Tv (f:=CO ag ws js f i p) (c:=2 ^ f) (l:=IY (CX ws js i) (Gv ws js i)) λx _=>by
   unfold CO;split
   ·exact Nat.zero_le _
   ·exact LR b ag f (i+1) _ aA
  have h3:=Nat.mul_le_mul_right (2 ^ f) (Vy h1);rw [Nat.pow_succ];omega
theorem Fk{bag kinds:Int}{ps:List ByteArray}{ws:List AE}{js:List AM}{ns:List AK}(b:BR bag kinds ps ws js ns):(AB ws js ns).length<=2000000:=by
 unfold AB;split
 ·have h1:=LR b (Ci ns) (ws.length+js.length) 0 AG.zero aA;have h2:2 ^ (ws.length+js.length)<=2 ^ 9:=Nat.pow_le_pow_right aA (by have:=b.wlen;have:=b.jlen;omega);omega
 ·exact Nat.zero_le _
def MM(bag kinds:Int)(ps:List ByteArray)(ws:List AE)(js:List AM)(ns:List AK):Int:=if BP bag kinds ps ws js ns=0 then ((AB ws js ns).length:Int) else 0
section
variable {bag kinds:Int} {ps:List ByteArray} {ws:List AE} {js:List AM} {ns:List AK}
theorem Yq(h:¬BP bag kinds ps ws js ns=0):(.tuple #[.int .i64 0,.int .i64 (BP bag kinds ps ws js ns)]:Value)=.tuple #[.int .i64 (MM bag kinds ps ws js ns),.int .i64 (BP bag kinds ps ws js ns)]:=by
 unfold MM;rw [if_neg h]
theorem tHist_ok(h:¬¬BP bag kinds ps ws js ns=0):(.tuple #[.int .i64 ((AB ws js ns).length:Int),.int .i64 0]:Value)=.tuple #[.int .i64 (MM bag kinds ps ws js ns),.int .i64 (BP bag kinds ps ws js ns)]:=by
 have e:=Decidable.not_not.1 h;unfold MM;rw [if_pos e,e]
end
section
variable {V:Type} {hB h hc h':GH} {I:List V->(Nat->Prop)->GH->Prop} {S:GH->Prop} {rp:Nat} {T:TypeId} {c c':Array Value} {X0 X:Nat->Prop} {pre l:List V} {v:Value}
theorem EY.stoppedI{I':List V->(Nat->Prop)->GH->Prop}{pre':List V}(hv:v=.bool false)(r:∀l',EY hB I S pre X0 h l' (.bool false) h'):EY hB I' S pre' X0 h l v h':=by
 obtain ⟨ok,X',e,hs,hk,hl,_,h2⟩:=r [];cases e;exact ⟨false,X',hv,hs,hk,hl,(λx=>by cases x),h2⟩
def DT(I:List V->(Nat->Prop)->GH->Prop)(rp:Nat)(T:TypeId)(c:Array Value):List V->(Nat->Prop)->GH->Prop:=λpre X h=>
 ∃X',I pre X' h/\¬X' rp/\(∀b,X b↔X' b\/b=rp)/\h rp=some (true,.cells c T (0,0))
theorem DT.prom(P:GF hB I):GF hB (DT I rp T c):=by
 refine ⟨?_,?_⟩
 ·rintro pre X h b ⟨X',i,n,hX,hp⟩ hb;rcases (hX b).1 hb with q | rfl
  ·exact P.dom _ _ _ _ i q
  ·exact ⟨_,_,hp,rfl⟩
 ·rintro pre X h h' ⟨X',i,n,hX,hp⟩ same lB;exact ⟨X',P.stable _ _ _ _ i (λb hb=>same b ((hX b).2 (.inl hb))) lB,n,hX,by rw [same rp ((hX rp).2 (.inr rfl))];exact hp⟩
theorem DT.box(x:DT I rp T c pre X h):h rp=some (true,.cells c T (0,0)):=by obtain ⟨_,_,_,_,e⟩:=x;exact e
theorem DT.mem(x:DT I rp T c pre X h):X rp:=by obtain ⟨X',_,_,hX,_⟩:=x;exact (hX rp).2 (.inr rfl)
theorem EN.put(P:GF hB I)(y:EN hB (DT I rp T c) X0 h pre X hc)(rB:hB rp=none)(nb:h' rp=some (true,.cells c' T (0,0)))(ho:∀b,b≠rp->h' b=hc b):EN hB (DT I rp T c') X0 h pre X h':=by
 obtain ⟨⟨X',i,n,hX,hp⟩,sub,keep,base⟩:=y;exact ⟨⟨X',P.store i n ho (base.upd rB ho),n,hX,nb⟩,sub,keep.store' (sub rp ((hX rp).2 (.inr rfl))) ho,base.upd rB ho⟩
theorem DT.call{P:Program}{W:Wk P}{yv:Value}{args:Array Value}(x:DT I rp T c pre X hc)(k:∀X',I pre X' hc->Bz W yv args hc (EY hB I S pre X' hc l)):Bz W yv args hc (EY hB (DT I rp T c) S pre X hc l):=by
 have x':=x;obtain ⟨X',i,n,hX,hp⟩:=x;refine (k X' i).mono λv h' r=>?_;obtain ⟨ok,X1,hv,hs,hk,hl,h1,h2⟩:=r;have n1:¬X1 rp:=λq=>(hs rp q).elim n λe=>by rw [hp] at e;cases e
 refine ⟨ok,λb=>X1 b\/b=rp,hv,?_,λb p o hb hn=>hk b p o hb λq=>hn ((hX b).2 (.inl q)),hl,λe=>⟨X1,h1 e,n1,λ_=>Iff.rfl,hk.box hp n rfl⟩,h2⟩;rintro b (q | rfl)
 ·exact (hs b q).imp (λq=>(hX b).2 (.inl q)) id
 ·exact .inl ((hX _).2 (.inr rfl))
theorem DT.start(x:I pre X hc)(hp:hc rp=some (true,.cells c T (0,0)))(n:¬X rp):DT I rp T c pre (λb=>X b\/b=rp) hc:=⟨X,x,n,λ_=>Iff.rfl,hp⟩
theorem DT.final{X0:Nat->Prop}(y:EN hB I X0 h pre X hc)(hn:h rp=none)(r:EY hB (DT I rp T c) S pre (λb=>X b\/b=rp) hc l v h'):EY hB I S pre X0 h l v h':=by
 obtain ⟨ok,X1,hv,hs,hk,hl,h1,h2⟩:=r;cases ok with
 | true=>
  obtain ⟨X2,i2,n2,hX2,hp2⟩:=h1 rfl;refine ⟨true,X2,hv,λb q=>?_,?_,hl,λ_=>i2,λe=>by cases e⟩
  ·rcases hs b ((hX2 b).2 (.inl q)) with (q1 | rfl) | q1
   ·exact y.sub b q1
   ·exact absurd q n2
   ·exact subX y.sub y.keep (X1:=λz=>z=b) (λz e=>.inr (by rw [e];exact q1)) b rfl
  ·intro b p o hb hX;obtain ⟨o',e1,e2⟩:=y.keep b p o hb hX;obtain ⟨o2,e3,e4⟩:=hk b p o' e1 (λq=>q.elim (λq=>(y.sub b q).elim hX λe=>by rw [e] at hb;cases hb) λe=>by rw [e,hn] at hb;cases hb);refine ⟨o2,e3,?_⟩;rcases e2 with rfl | e2
   ·exact e4
   ·rcases e4 with rfl | e4
    ·exact .inr e2
    ·exact .inr ⟨e2.1,e4.2⟩
 | false=>
  refine ⟨false,λb=>X0 b\/h b=none,hv,λb q=>q,?_,hl,(λe=>by cases e),λ_=>h2 rfl⟩;intro b p o hb hX;obtain ⟨o',e1,e2⟩:=y.keep b p o hb hX;obtain ⟨o2,e3,e4⟩:=hk b p o' e1 (λq=>q.elim (λq=>(y.sub b q).elim hX λe=>by rw [e] at hb;cases hb) λe=>by rw [e,hn] at hb;cases hb);refine ⟨o2,e3,?_⟩;rcases e2 with rfl | e2
  ·exact e4
  ·rcases e4 with rfl | e4
   ·exact .inr e2
   ·exact .inr ⟨e2.1,e4.2⟩
end
end Go.Ns
namespace Go.Ns
open Go.Conc
abbrev EH:=Nat->Nat->Int
def KJ(m:EH):Array Value:=#[.int .i64 (m 0 0),.int .i64 (m 0 1),.int .i64 (m 0 2),.int .i64 (m 0 3),.int .i64 (m 1 0),.int .i64 (m 1 1),.int .i64 (m 1 2),.int .i64 (m 1 3),
 .int .i64 (m 2 0),.int .i64 (m 2 1),.int .i64 (m 2 2),.int .i64 (m 2 3),.int .i64 (m 3 0),.int .i64 (m 3 1),.int .i64 (m 3 2),.int .i64 (m 3 3)]
def EH.zero:EH:=λ_ _=>0
def EH.set(m:EH)(i k:Nat)(v:Int):EH:=λa b=>if a=i/\b=k then v else m a b
theorem Jg{m:EH}{i k:Nat}(hi:i<4)(hk:k<4):(KJ m)[0+i*4+k*1]? =some (.int .i64 (m i k)):=by
 match i,hi with
 | 0,_=>match k,hk with
  | 0,_=>rfl
  | 1,_=>rfl
  | 2,_=>rfl
  | 3,_=>rfl
 | 1,_=>match k,hk with
  | 0,_=>rfl
  | 1,_=>rfl
  | 2,_=>rfl
  | 3,_=>rfl
 | 2,_=>match k,hk with
  | 0,_=>rfl
  | 1,_=>rfl
  | 2,_=>rfl
  | 3,_=>rfl
 | 3,_=>match k,hk with
  | 0,_=>rfl
  | 1,_=>rfl
  | 2,_=>rfl
  | 3,_=>rfl
theorem LS{m:EH}{i k:Nat}{v:Int}(hi:i<4)(hk:k<4):B0 (KJ m) (0+i*4+k*1) [.int .i64 v]=KJ (m.set i k v):=by
 match i,hi with
 | 0,_=>match k,hk with
  | 0,_=>rfl
  | 1,_=>rfl
  | 2,_=>rfl
  | 3,_=>rfl
 | 1,_=>match k,hk with
  | 0,_=>rfl
  | 1,_=>rfl
  | 2,_=>rfl
  | 3,_=>rfl
 | 2,_=>match k,hk with
  | 0,_=>rfl
  | 1,_=>rfl
  | 2,_=>rfl
  | 3,_=>rfl
 | 3,_=>match k,hk with
  | 0,_=>rfl
  | 1,_=>rfl
  | 2,_=>rfl
  | 3,_=>rfl
def Kj(i:Nat)(m:EH)(k:Nat):EH:=if¬(i:Int)=(k:Int) then m.set i k 1048576 else m
def Gx(i:Nat)(m:EH)(n:Nat):EH:=(List.range n).foldl (Kj i) m
def Ic(n:Nat):EH:=(List.range n).foldl (λm i=>Gx i m 4) EH.zero
def MN(p:AG)(ws:List AE)(m:EH)(k:Nat):EH:=(m.set (ws.getD k AE.z).a.toNat (ws.getD k AE.z).b.toNat (p.ways k)).set (ws.getD k AE.z).b.toNat (ws.getD k AE.z).a.toNat (p.ways k)
def BM(p:AG)(ws:List AE)(n:Nat):EH:=(List.range n).foldl (MN p ws) (Ic 4)
def OE(by_ i:Nat)(m:EH)(k:Nat):EH:=m.set i k (min (m i k) (m i by_+m by_ k))
def HL(by_ i:Nat)(m:EH)(n:Nat):EH:=(List.range n).foldl (OE by_ i) m
def NQ(by_ np:Nat)(m:EH)(i:Nat):EH:=if m i by_=1048576 then m else HL by_ i m np
def Ec(by_ np:Nat)(m:EH)(n:Nat):EH:=(List.range n).foldl (NQ by_ np) m
def DD(np:Nat)(m:EH)(n:Nat):EH:=(List.range n).foldl (λm b=>Ec b np m np) m
def Av(np:Nat)(ws:List AE)(p:AG):EH:=DD np (BM p ws ws.length) np
theorem A4{β:Type}(f:β->Nat->β)(b:β)(n:Nat):(List.range (n+1)).foldl f b=f ((List.range n).foldl f b) n:=by rw [List.range_succ,List.foldl_append];rfl
def EH.ok(m:EH):Prop:=∀i k,0<=m i k/\m i k<=1048576
theorem EH.ok_set{m:EH}(h:m.ok){i k:Nat}{v:Int}(hv:0<=v/\v<=1048576):(m.set i k v).ok:=λa b=>by
 unfold EH.set;split
 ·exact hv
 ·exact h a b
theorem EH.ok_zero:EH.zero.ok:=λ_ _=>⟨Int.le_refl 0,(aC:(0:Int)<=1048576)⟩
theorem Ho{β:Type}{Q:β->Prop}{f:β->Nat->β}(hf:∀b k,Q b->Q (f b k)):∀{l:List Nat}{b:β},Q b->Q (l.foldl f b)
 | [],_,h=>h
 | x ::l,b,h=>Ho hf (l:=l) (hf b x h)
theorem Yr{i:Nat}{m:EH}{k:Nat}(h:m.ok):(Kj i m k).ok:=by
 unfold Kj;split
 ·exact EH.ok_set h aC
 ·exact h
theorem far0K_ok{i:Nat}{m:EH}{n:Nat}(h:m.ok):(Gx i m n).ok:=Ho (λ_ _=>Yr) h
theorem Xx{n:Nat}:(Ic n).ok:=Ho (λ_ _ h=>far0K_ok h) EH.ok_zero
theorem Ys{p:AG}{ws:List AE}{m:EH}{k:Nat}(hp:Bw p)(h:m.ok):(MN p ws m k).ok:=by
 have:=hp.ways k
 exact EH.ok_set (EH.ok_set h aA) aA
theorem Kk{p:AG}{ws:List AE}{n:Nat}(hp:Bw p):(BM p ws n).ok:=Ho (λ_ _ h=>Ys hp h) Xx
theorem Vz{b i:Nat}{m:EH}{k:Nat}(h:m.ok):(OE b i m k).ok:=by
 have h1:=h i k;have h2:=h i b;have h3:=h b k;exact EH.ok_set h aA
theorem Xy{b i:Nat}{m:EH}{n:Nat}(h:m.ok):(HL b i m n).ok:=Ho (λ_ _ h=>Vz h) h
theorem farI1_ok{b np:Nat}{m:EH}{i:Nat}(h:m.ok):(NQ b np m i).ok:=by
 unfold NQ;split
 ·exact h
 ·exact Xy h
theorem OF{b np:Nat}{m:EH}{n:Nat}(h:m.ok):(Ec b np m n).ok:=Ho (λ_ _ h=>farI1_ok h) h
theorem UH{np:Nat}{m:EH}{n:Nat}(h:m.ok):(DD np m n).ok:=Ho (λ_ _ h=>OF h) h
theorem CB{c c':Array Value}(h:c.size=c'.size):B0 c 0 c'.toList=c':=by
 apply Array.toList_inj.1;rw [EL _ _ _ (by simp [h])];simp [h]
theorem IM{b:Bool}(h:(!b)=true):b=false:=by cases b <;> simp_all
theorem IN{b:Bool}(h:(!b)=false):b=true:=by cases b <;> simp_all
abbrev E7:=(Int×Int×Int×Int×Int)×Int×Int
def Em(a:E7):Value:=.agg #[.int .i64 a.1.1,.int .i64 a.1.2.1,.int .i64 a.1.2.2.1,.int .i64 a.1.2.2.2.1,.int .i64 a.1.2.2.2.2,.int .i64 a.2.1,.int .i64 a.2.2]
def UI:E7->Option Int:=λ_=>none
def AG.w5(p:AG):Int×Int×Int×Int×Int:=(p.ways 0,p.ways 1,p.ways 2,p.ways 3,p.ways 4)
theorem E7.eq_iff(a b:E7):((a.1.1==b.1.1 && (a.1.2.1==b.1.2.1 && (a.1.2.2.1==b.1.2.2.1 && (a.1.2.2.2.1==b.1.2.2.2.1 && (a.1.2.2.2.2==b.1.2.2.2.2 && true))))) && (a.2.1==b.2.1 && (a.2.2==b.2.2 && true)))=decide (a=b):=by
 obtain ⟨⟨a1,a2,a3,a4,a5⟩,a6,a7⟩:=a;obtain ⟨⟨b1,b2,b3,b4,b5⟩,b6,b7⟩:=b;rw [Bool.eq_iff_iff];simp [and_assoc]
theorem QT(a:E7):Instr.sameBits 10000 (Em a) (Em a)=true:=by
 have hi:∀(n:Nat)(x:Int),Instr.sameBits n (.int .i64 x) (.int .i64 x)=true:=λn x=>by
  cases n <;> (unfold Instr.sameBits;simp)
 unfold Em;show Instr.sameBits (9999+1) _ _=true;unfold Instr.sameBits;simp only [List.zip_cons_cons,List.zip_nil_left,List.all_cons,List.all_nil,hi];simp
def V0(m:EH)(w:Int×Int×Int×Int×Int)(i:Nat)(M:E7->Option Int)(k:Nat):E7->Option Int:=λb=>if b=(w,(i:Int),(k:Int)) then some (m i k) else M b
def F7(m:EH)(w:Int×Int×Int×Int×Int)(i:Nat)(M:E7->Option Int)(n:Nat):E7->Option Int:=(List.range n).foldl (V0 m w i) M
def CN(m:EH)(w:Int×Int×Int×Int×Int)(np:Nat)(M:E7->Option Int)(n:Nat):E7->Option Int:=(List.range n).foldl (λM i=>F7 m w i M np) M
theorem NR{m:EH}{w:Int×Int×Int×Int×Int}{i k:Nat}{M:E7->Option Int}:∀{n:Nat},k<n->F7 m w i M n (w,(i:Int),(k:Int))=some (m i k)
 | 0,h=>absurd h (Nat.not_lt_zero _)
 | n+1,h=>by
  unfold F7;rw [A4];unfold V0;by_cases e:k=n
  ·subst e;rw [if_pos rfl]
  ·rw [if_neg (λq=>e (by have h2:(k:Int)=(n:Int):=congrArg (λz:E7=>z.2.2) q;omega))];exact NR (n:=n) aA
theorem Iy{m:EH}{w:Int×Int×Int×Int×Int}{i:Nat}{M:E7->Option Int}{b:E7}(hb:b.1≠w\/b.2.1≠(i:Int)):∀{n:Nat},F7 m w i M n b=M b
 | 0=>rfl
 | n+1=>by
  unfold F7;rw [A4];unfold V0;rw [if_neg (λq=>by subst q;rcases hb with h | h <;> exact h rfl)];exact Iy hb (n:=n)
theorem NS{m:EH}{w:Int×Int×Int×Int×Int}{np i k:Nat}{M:E7->Option Int}(hk:k<np):∀{n:Nat},i<n->CN m w np M n (w,(i:Int),(k:Int))=some (m i k)
 | 0,h=>absurd h (Nat.not_lt_zero _)
 | n+1,h=>by
  unfold CN;rw [A4];by_cases e:i=n
  ·subst e;exact NR hk
  ·rw [Iy (.inr (by show (i:Int)≠(n:Int);omega))];exact NS hk (n:=n) aA
theorem LT{m:EH}{w:Int×Int×Int×Int×Int}{np:Nat}{M:E7->Option Int}{b:E7}(hb:b.1≠w):∀{n:Nat},CN m w np M n b=M b
 | 0=>rfl
 | n+1=>by
  unfold CN;rw [A4,Iy (.inl hb)];exact LT hb (n:=n)
theorem w5_at{p q:AG}(e:q.w5=p.w5){k:Nat}(h:k<5):q.ways k=p.ways k:=by
 simp only [AG.w5,Prod.mk.injEq] at e;obtain ⟨e0,e1,e2,e3,e4⟩:=e
 match k,h with
 | 0,_=>exact e0
 | 1,_=>exact e1
 | 2,_=>exact e2
 | 3,_=>exact e3
 | 4,_=>exact e4
theorem PH{p q:AG}{ws:List AE}(e:q.w5=p.w5):∀{n:Nat},n<=5->BM q ws n=BM p ws n
 | 0,_=>rfl
 | n+1,h=>by
  have h1:=PH (ws:=ws) e (n:=n) aA;unfold BM at h1 ⊢;rw [A4,A4,h1];unfold MN;rw [w5_at e aA]
theorem RP{p q:AG}{ws:List AE}{np:Nat}(hw:ws.length<=5)(e:q.w5=p.w5):Av np ws q=Av np ws p:=by
 unfold Av;rw [PH e hw]
def GL(np:Nat)(ws:List AE)(l:List AG)(M:E7->Option Int):Prop:=∀q ∈ l,∀i k:Nat,i<np->k<np->M (q.w5,(i:Int),(k:Int))=some (Av np ws q i k)
theorem GL.call{np:Nat}{ws:List AE}{pq:List AG}{k:Nat}{M:E7->Option Int}(h:GL np ws (pq.take k) M)(hk:k<pq.length)(hw:ws.length<=5) :
  GL np ws (pq.take (k+1)) (CN (Av np ws (pq.getD k AG.zero)) (pq.getD k AG.zero).w5 np M np):=by
 intro q hq i j hi hj;by_cases e:q.w5=(pq.getD k AG.zero).w5
 ·rw [e,NS hj hi,RP hw e]
 ·rw [LT e];rw [ER AG.zero hk] at hq;rcases List.mem_append.1 hq with h1 | h1
  ·exact h q h1 i j hi hj
  ·rw [List.mem_singleton.1 h1] at e;exact absurd rfl e
theorem GL.skip{np:Nat}{ws:List AE}{pq:List AG}{k:Nat}{M:E7->Option Int}(h:GL np ws (pq.take k) M)(hk:k<pq.length)(hw:ws.length<=5)(h0:¬(k:Int)=0)(e:(pq.getD k AG.zero).w5=(pq.getD (k-1) AG.zero).w5) :
  GL np ws (pq.take (k+1)) M:=by
 intro q hq i j hi hj;rw [ER AG.zero hk] at hq;rcases List.mem_append.1 hq with h1 | h1
 ·exact h q h1 i j hi hj
 ·rw [List.mem_singleton.1 h1,e,RP hw e];refine h _ ?_ i j hi hj;rw [Ea AG.zero aA];exact List.mem_take_iff_getElem.2 ⟨k-1,aA,rfl⟩
def D9(h:GH)(r np:Nat)(ws:List AE)(pq:List AG):Prop:=∃pm M,MapAt h r pm Em Dj M/\GL np ws pq M
theorem D9.le{h h':GH}{r np:Nat}{ws:List AE}{pq:List AG}(x:D9 h r np ws pq)(l:h.Le h'):D9 h' r np ws pq:=by
 obtain ⟨pm,M,⟨es,clk,hb,hl⟩,hM⟩:=x;exact ⟨pm,M,⟨es,clk,l.keep hb rfl,hl⟩,hM⟩
structure DW(hB:GH)(r:Nat)(M:E7->Option Int)(h hc:GH):Prop where
 ok:Cp hc r Em Dj M
 keep:Bb (λb=>b=r) h hc
 base:hB.Le hc
def FRes(hB:GH)(r:Nat)(M:E7->Option Int)(h h':GH):Prop:=Cp h' r Em Dj M/\Bb (λb=>b=r) h h'/\hB.Le h'
section
variable {hB h hc h':GH} {r:Nat} {M M':E7->Option Int}
theorem Cp.some(x:Cp h r Em Dj M):∃o,h r=some (true,o)/\JR o=false:=by obtain ⟨es,clk,hb,_⟩:=x;exact ⟨_,hb,rfl⟩
theorem DW.start(x:Cp h r Em Dj M)(l:hB.Le h):DW hB r M h h:=⟨x,Bb.refl _ _,l⟩
theorem DW.le(y:DW hB r M h hc)(l:hc.Le h'):DW hB r M h h':=by
 obtain ⟨o,ho,_⟩:=y.ok.some;exact ⟨y.ok.le_other ((l.keep ho rfl).trans ho.symm),y.keep.trans (λ_ q=>.inl q) (l.keepX _),y.base.trans l⟩
theorem DW.store(y:DW hB r M h hc){q:Nat}(hq:h q=none)(qB:hB q=none)(hn:q≠r)(ho:∀b,b≠q->h' b=hc b):DW hB r M h h':=
 ⟨y.ok.le_other (ho r (Ne.symm hn)),y.keep.store hq ho,y.base.upd qB ho⟩
theorem DW.put(y:DW hB r M h hc)(rB:hB r=none)(x:Cp h' r Em Dj M')(ho:∀b,b≠r->h' b=hc b):DW hB r M' h h':=⟨x,y.keep.store' (.inl rfl) ho,y.base.upd rB ho⟩
theorem DW.call(y:DW hB r M h hc)(m:FRes hB r M' hc h'):DW hB r M' h h':=⟨m.1,y.keep.trans (λ_ q=>.inl q) m.2.1,m.2.2⟩
theorem DW.ne(y:DW hB r M h hc){q:Nat}(hq:hc q=none):q≠r:=λe=>by
 obtain ⟨o,ho,_⟩:=y.ok.some;rw [e,ho] at hq;cases hq
theorem DW.nothing(y:DW hB r M h hc){q:Nat}(hq:hc q=none):h q=none:=by
 cases hx:h q with
 | none=>rfl
 | some x=>
  obtain ⟨o',h1,_⟩:=y.keep q x.1 x.2 hx (y.ne hq);rw [h1] at hq;cases hq
theorem NT(x:h r=some (true,.map #[] 0)):Cp h r Em Dj UI:=Cp.empty x
theorem Cp.slDel{V:Type}(x:Cp h r Em Dj M){v:Value}{n:Nat}{enc:V->Array Value}{xs:List V}(y:AD h v n enc xs):AD (h.del r) v n enc xs:=by
 obtain ⟨es,clk,hb,_⟩:=x;exact AD.slDel y hb
theorem Cp.leF(x:Cp h r Em Dj M)(l:h.Le h'):Cp h' r Em Dj M:=by
 obtain ⟨o,ho,e⟩:=x.some;exact x.le_other ((l.keep ho e).trans ho.symm)
theorem DW.res(y:DW hB r M h hc):FRes hB r M h hc:=⟨y.ok,y.keep,y.base⟩
end
theorem NU{bag kinds:Int}{ps:List ByteArray}{ws:List AE}{js:List AM}{ns:List AK}(b:BR bag kinds ps ws js ns){ag:AG->Bool}:∀{f i:Nat}{p:AG},i+f=ws.length+js.length->Bw p->∀q ∈ Cq ag ws js f i p,Bw q
 | 0,_,p,_,hp,q,hq=>by rw [List.mem_singleton.1 hq];exact hp
 | f+1,i,p,h,hp,q,hq=>by
  rw [Gk] at hq;obtain ⟨n,hn,hq⟩:=List.mem_flatMap.1 hq;have h1:=b.few (i:=i) aA;have h2:=YU.1 hn;unfold CO at hq;split at hq
  ·cases hq
  ·exact NU b (f:=f) aA (hp.put aA) q hq
section
variable {bag kinds:Int} {ps:List ByteArray} {ws:List AE} {js:List AM} {ns:List AK}
theorem FP(b:BR bag kinds ps ws js ns):∀q ∈ AB ws js ns,Bw q:=by
 intro q hq;unfold AB at hq;split at hq
 ·exact NU b aA Bw.zero q hq
 ·cases hq
theorem PI(b:BR bag kinds ps ws js ns)(k:Nat):Bw ((AB ws js ns).getD k AG.zero):=by
 rcases Nat.lt_or_ge k (AB ws js ns).length with h | h
 ·exact FP b _ (Br h)
 ·rw [CF h];exact Bw.zero
def AO(bag kinds:Int)(ps:List ByteArray)(ws:List AE)(js:List AM)(ns:List AK)(s:Int):Int:=
 if¬BP bag kinds ps ws js ns=0 then BP bag kinds ps ws js ns else if¬s=0 then s else if (AB ws js ns).length=0 then 9 else 0
variable {s:Int}
theorem Xz(h:¬BP bag kinds ps ws js ns=0):AO bag kinds ps ws js ns s=BP bag kinds ps ws js ns:=if_pos h
theorem X3(h:¬¬BP bag kinds ps ws js ns=0)(h2:¬s=0):AO bag kinds ps ws js ns s=s:=by unfold AO;rw [if_neg h,if_pos h2]
theorem X4(h:¬¬BP bag kinds ps ws js ns=0)(h2:¬¬s=0)(h3:(AB ws js ns).length=0):AO bag kinds ps ws js ns s=9:=by unfold AO;rw [if_neg h,if_neg h2,if_pos h3]
theorem openB_4(h:¬¬BP bag kinds ps ws js ns=0)(h2:¬¬s=0)(h3:¬(AB ws js ns).length=0):AO bag kinds ps ws js ns s=0:=by unfold AO;rw [if_neg h,if_neg h2,if_neg h3]
theorem En(h:AO bag kinds ps ws js ns s=0):BR bag kinds ps ws js ns/\s=0/\0<(AB ws js ns).length:=by
 unfold AO at h;split at h
 ·rename_i a;exact absurd h a
 ·split at h
  ·rename_i a b;exact absurd h b
  ·split at h
   ·cases h
   ·rename_i a b c
    exact ⟨CI (Decidable.not_not.1 a),Decidable.not_not.1 b,aA⟩
theorem w5_eq{p q:AG}(h:(!((p.ways 0==q.ways 0 && (p.ways 1==q.ways 1 && (p.ways 2==q.ways 2 && (p.ways 3==q.ways 3 && (p.ways 4==q.ways 4 && true)))))))=false):p.w5=q.w5:=by
 simp only [Bool.not_eq_false',Bool.and_eq_true,beq_iff_eq,and_true] at h;obtain ⟨e0,e1,e2,e3,e4⟩:=h;simp only [AG.w5,e0,e1,e2,e3,e4]
theorem GL.is{h:GH}{r np:Nat}{ws:List AE}{pq:List AG}{M:E7->Option Int}{k:Nat}(x:Cp h r Em Dj M)(hM:GL np ws (pq.take k) M)(hk:pq.length<=k):D9 h r np ws pq:=by
 rw [List.take_of_length_le hk] at hM;exact ⟨true,M,x,hM⟩
theorem RQ{a b c d e f w:Value}{r:Nat}(h:w.cells=#[w]):Instr.fill (λx=>#[(0,6),(6,1),(7,1)][x]?) #[.int .i64 0,.int .i64 0,.slice none 0 0,.slice none 0 0,.slice none 0 0,.slice none 0 0,.slice none 0 0,.map none] [(0,.agg #[a,b,c,d,e,f]),(1,w),(2,.map (some r))]=some #[a,b,c,d,e,f,w,.map (some r)]:=by
 have e1:∀cs,(Value.agg cs).cells=cs:=λ_=>rfl;have e2:∀q,(Value.map q).cells=#[.map q]:=λ_=>rfl;simp [Instr.fill,h,e1,e2]
end
end Go.Ns
namespace Go.Ns
open Go.Conc
section
variable {P:Program} {E:GM P} {O:Nat->Value} {ds:List Deferred} {h:GH} {T:(Nat->Value)->List Deferred->GH->Prop}
variable {dst:Option Nat} {ty:TypeId} {pos:String} {af:Array Edge} {gd:Option (Nat×Bool)}
def LU(P:Program)(e:TypeId):Option Nat:=(P.info? e).map (·.bytes)
theorem S6(z:Value)(n:Nat):(Array.range n).map (λi=>(#[z]:Array Value)[i%(#[z]:Array Value).size]!)=Array.replicate n z:=by
 apply Array.ext
 ·simp
 ·intro i h1 h2;simp [Nat.mod_one]
theorem LV{t:TypeId}{l c:Operand}{N by_:Nat}{z:Value}{e:TypeId}(hs:DR P t=some (1,#[z],e))(hby:LU P e=some by_)(hl:AP O l=.int .i64 N)(hc:AP O c=.int .i64 N)(hb:by_*N<=281474976710656)(hN2:N<=16777216)
  (k:∀r h',h r=none->h.Le h'->h' r=some (true,.cells (Array.replicate N z) e (0,0))->(∀b,b≠r->h' b=h b)->T (putS O dst (.slice (some ⟨r,0,none⟩) N N)) ds h'):BV E ⟨dst,.makeSlice t l c,ty,pos,af,gd⟩ O ds h T:=by
 unfold BV execOp;refine Fv ?_;unfold DR at hs;unfold Instr.makeSlice;rw [hl,hc];cases hu:P.underlying t with
 | none=>rw [hu] at hs;cases hs
 | some d=>
  rw [hu] at hs;cases d <;> first | (cases hs;done) | skip
  rename_i e'
  simp only at hs;cases ht:Cd P e' with
  | none=>rw [ht] at hs;cases hs
  | some x=>
   cases hz:By P e' with
   | none=>rw [ht,hz] at hs;cases hs
   | some z'=>
    rw [ht,hz] at hs;simp only [Option.some.injEq,Prod.mk.injEq] at hs;obtain ⟨hx2,rfl,rfl⟩:=hs;refine AF _ _ (An hu ?_);refine AF _ _ (Aw ?_);refine AF _ _ (Aw ?_);unfold LU at hby;unfold By at hz;cases hi:P.info? e' with
    | none=>rw [hi] at hz;cases hz
    | some i=>
    rw [hi] at hz hby;simp only [Option.map_some,Option.some.injEq] at hby;simp only [Option.map_eq_some_iff] at hz;obtain ⟨v,hv,hvz⟩:=hz;refine AF _ _ (Cm hi ?_);have hw:IntKind.i64.wrap (N:Int)=N:=IntWalk.i64_in _ aA;simp only [hw,hby];have hb':((by_:Int)*(N:Int))<=281474976710656:=by rw [<-Int.natCast_mul];exact Int.ofNat_le.2 hb
    rw [if_neg (by simp;omega)];simp only [Int.toNat_natCast];have hask:∀(m:Nat)(Q:Unit->GH->Prop),Q () h->(askRoom m).gh P h Q:=λm Q q=>by
     unfold askRoom;split
     ·exact ⟨rfl,q⟩
     ·exact q
    refine AF _ _ (hask _ _ ?_);refine AF _ _ (GP (by rw [ht];rfl) ?_);dsimp only;rw [hx2,Nat.mul_one];by_cases hN:N=0
    ·subst hN;rw [if_pos rfl];refine AF _ _ (Aw ?_);rw [show (Array.range 0).map (λi=>(#[]:Array Value)[i%(#[]:Array Value).size]!)=Array.replicate 0 z from aD];refine AF _ _ ?_;unfold newRow;refine AF _ _ (λr hr=>?_);exact k r _ hr (GH.Le.new hr _ _) (GH.set_same _ _ _ _) λb hb=>GH.set_ne _ _ _ hb
    rw [if_neg hN];unfold zeroValue;refine AF _ _ (AF _ _ (AF _ _ (Cm hi ?_)));rw [hv];refine Aw ?_;refine AF _ _ (Aw ?_);rw [hvz,S6];refine AF _ _ ?_;unfold newRow;refine AF _ _ (λr hr=>?_);exact k r _ hr (GH.Le.new hr _ _) (GH.set_same _ _ _ _) λb hb=>GH.set_ne _ _ _ hb
theorem Jh{V:Type}{enc:V->Array Value}{x:V}{z:Value}(he:enc x=#[z]):∀N:Nat,DX enc (List.replicate N x)=List.replicate N z
 | 0=>rfl
 | N+1=>by
  have:=Jh he N
  unfold DX at this ⊢;rw [List.replicate_succ,List.flatMap_cons,this,he];rfl
theorem AT.made{V:Type}{h h':GH}{r N:Nat}{t:TypeId}{enc:V->Array Value}{x:V}{z:Value}(hr:h r=none)(hb:h' r=some (true,.cells (Array.replicate N z) t (0,0)))(hN:N<=16777216)(he:enc x=#[z]) :
  AT h h' (.slice (some ⟨r,0,none⟩) N N) t 1 enc (List.replicate N x):=
 .inr ⟨r,N,_,by rw [List.length_replicate],hr,hb,aD,aD,by rw [List.length_replicate];omega,by rw [Jh he,List.length_replicate,Nat.mul_one];simp,λy hy=>by rw [(List.mem_replicate.1 hy).2,he];rfl⟩
end
def E8(nj:Nat)(k:Int):Int:=if¬(0<=k/\k<=(nj:Int)-1) then 6 else 0
def HM(nj:Nat)(l:List Int)(k:Nat):Int:=if¬E8 nj (l.getD k 0)=0 then E8 nj (l.getD k 0) else if (l.take k).any (λx=>decide (l.getD k 0=x))=true then 5 else 0
def Ag(nj:Nat)(l:List Int):Int:=Cx (HM nj l) 0 l.length
def Fl(bag kinds:Int)(ps:List ByteArray)(ws:List AE)(js:List AM)(ns:List AK)(l:List Int):Int:=
 if¬BP bag kinds ps ws js ns=0 then BP bag kinds ps ws js ns else Ag js.length l
theorem NV{nj:Nat}{k:Int}(h:E8 nj k=0):0<=k/\k<nj:=by
 unfold E8 at h;split at h
 ·cases h
 ·omega
theorem E9{nj:Nat}{l:List Int}(h:Ag nj l=0)(k:Nat)(hk:k<l.length):0<=l.getD k 0/\l.getD k 0<nj:=by
 have h1:=DN h k (Nat.zero_le _) aA;unfold HM at h1;split at h1
 ·rename_i a;exact absurd h1 a
 ·rename_i a;exact NV (Decidable.not_not.1 a)
def GI(out ps:List Int):Nat->List Int
 | 0=>out
 | i+1=>(GI out ps i).set i ((GI out ps i).getD i 0+ps.getD i 0)
def CD(kinds:Int)(js:List AM)(l:List Int):Nat->List Int
 | 0=>List.replicate kinds.toNat 0
 | q+1=>GI (CD kinds js l q) (js.getD (l.getD q 0).toNat AM.z).parts (js.getD (l.getD q 0).toNat AM.z).parts.length
def Cj(kinds:Int)(js:List AM)(l:List Int):List Int:=CD kinds js l l.length
theorem LW(out ps:List Int):∀i,(GI out ps i).length=out.length
 | 0=>rfl
 | i+1=>by rw [GI,List.length_set,LW out ps i]
theorem LX(out ps:List Int)(hl:ps.length=out.length):∀i,i<=ps.length->∀j,(GI out ps i).getD j 0=if j<i then out.getD j 0+ps.getD j 0 else out.getD j 0
 | 0,_,j=>by rw [if_neg aA];rfl
 | i+1,h,j=>by
  have e:=LX out ps hl i aA;have hn:=LW out ps i;unfold GI;rw [List.getD_eq_getElem?_getD,List.getElem?_set];by_cases hij:i=j
  ·subst hij;rw [if_pos rfl,if_pos aA,if_pos aA,Option.getD_some,e i,if_neg aA]
  ·rw [if_neg hij,<-List.getD_eq_getElem?_getD,e j];by_cases h1:j<i
   ·rw [if_pos h1,if_pos aA]
   ·rw [if_neg h1,if_neg aA]
section
variable {bag kinds:Int} {ps:List ByteArray} {ws:List AE} {js:List AM} {ns:List AK} {l:List Int}
theorem Ji(b:BR bag kinds ps ws js ns){k:Int}(h:0<=k/\k<js.length):JobOK ps.length kinds (js.getD k.toNat AM.z):=PB (b.job k.toNat aA)
theorem Hp(b:BR bag kinds ps ws js ns):∀q,(CD kinds js l q).length=kinds.toNat
 | 0=>List.length_replicate
 | q+1=>by rw [CD,LW,Hp b q]
theorem Km(b:BR bag kinds ps ws js ns)(hr:∀k,k<l.length->0<=l.getD k 0/\l.getD k 0<js.length):∀q,q<=l.length->∀j,0<=(CD kinds js l q).getD j 0/\(CD kinds js l q).getD j 0<=5*(q:Int)
 | 0,_,j=>by
  unfold CD;rw [List.getD_eq_getElem?_getD,List.getElem?_replicate];split <;> simp
 | q+1,h,j=>by
  have e:=Km b hr q aA j;have x:=Ji b (hr q aA);have x2:=x.part j;have x3:=x.len;unfold CD;rw [LX _ _ (by rw [Hp b q];omega) _ (Nat.le_refl _)];split <;> omega
theorem addP_rng(b:BR bag kinds ps ws js ns)(hr:∀k,k<l.length->0<=l.getD k 0/\l.getD k 0<js.length){q:Nat}(hq:q<l.length){i:Nat}(hi:i<(js.getD (l.getD q 0).toNat AM.z).parts.length) :
  (GI (CD kinds js l q) (js.getD (l.getD q 0).toNat AM.z).parts i).length=(js.getD (l.getD q 0).toNat AM.z).parts.length/\0<=(GI (CD kinds js l q) (js.getD (l.getD q 0).toNat AM.z).parts i).getD i 0/\(GI (CD kinds js l q) (js.getD (l.getD q 0).toNat AM.z).parts i).getD i 0<=5*(q:Int)/\
  0<=(js.getD (l.getD q 0).toNat AM.z).parts.getD i 0/\(js.getD (l.getD q 0).toNat AM.z).parts.getD i 0<=5:=by
 have x:=Ji b (hr q hq);have e:=Km b hr q aA i;have x3:=x.len;have hl:=Hp (l:=l) b q;refine ⟨by rw [LW,hl];omega,?_⟩;rw [LX _ _ (by rw [hl];omega) i aA,if_neg aA];exact ⟨e.1,e.2,x.part i⟩
theorem Iz(b:BR bag kinds ps ws js ns):(Cj kinds js l).length=kinds.toNat:=Hp b _
theorem PJ(b:BR bag kinds ps ws js ns)(hr:∀k,k<l.length->0<=l.getD k 0/\l.getD k 0<js.length)(j:Nat):0<=(Cj kinds js l).getD j 0/\(Cj kinds js l).getD j 0<=5*(l.length:Int):=Km b hr _ (Nat.le_refl _) j
theorem sum_take(xs:List Int){k:Nat}(h:k<xs.length):(xs.take (k+1)).sum=(xs.take k).sum+xs.getD k 0:=by
 rw [List.take_add_one,List.sum_append,List.getD_eq_getElem?_getD,List.getElem?_eq_getElem h];simp
theorem sum_all(xs:List Int){k:Nat}(h:xs.length<=k):(xs.take k).sum=xs.sum:=by rw [List.take_of_length_le h]
theorem UJ(h:Fl bag kinds ps ws js ns l=0):BR bag kinds ps ws js ns/\∀k,k<l.length->0<=l.getD k 0/\l.getD k 0<js.length:=by
 unfold Fl at h;split at h
 ·rename_i a;exact absurd h a
 ·rename_i a;exact ⟨CI (Decidable.not_not.1 a),E9 h⟩
def D2(bag kinds:Int)(ps:List ByteArray)(ws:List AE)(js:List AM)(ns:List AK)(l:List Int):List Int:=if¬Fl bag kinds ps ws js ns l=0 then [] else Cj kinds js l
def X5(bag kinds:Int)(ps:List ByteArray)(ws:List AE)(js:List AM)(ns:List AK)(l:List Int):Bool:=if¬Fl bag kinds ps ws js ns l=0 then false else decide ((Cj kinds js l).sum<=bag)
end
end Go.Ns
namespace Go.Ns
open Go.Conc
section
variable {P:Program} {E:GM P} {O:Nat->Value} {ds:List Deferred} {h:GH} {T:(Nat->Value)->List Deferred->GH->Prop}
variable {dst:Option Nat} {ty:TypeId} {pos:String} {af:Array Edge} {gd:Option (Nat×Bool)}
theorem Kn{t kt vt:TypeId}{x ix:Operand}{r np:Nat}{ws:List AE}{pq:List AG}{q:AG}{a b:Int}{z:Value}(ht:LF P t=some (kt,vt))(hx:AP O x=.map (some r))(hk:AP O ix=Em (q.w5,a,b))(hm:D9 h r np ws pq)
  (hc:∀a:E7,ckP P 4 kt (Em a)=true)
  (he:∀a b:E7,Oa P 4 kt (Em a) (Em b)=some ((a.1.1==b.1.1 && (a.1.2.1==b.1.2.1 && (a.1.2.2.1==b.1.2.2.1 && (a.1.2.2.2.1==b.1.2.2.2.1 && (a.1.2.2.2.2==b.1.2.2.2.2 && true))))) && (a.2.1==b.2.1 && (a.2.2==b.2.2 && true))))
  (hz:(P.info? vt).bind (·.zero)=some z) (hq:q ∈ pq) (ha:0<=a/\a<np) (hb:0<=b/\b<np)
  (k:T (putS O dst (.int .i64 (Av np ws q a.toNat b.toNat))) ds h):BV E ⟨dst,.lookup t x ix false,ty,pos,af,gd⟩ O ds h T:=by
 obtain ⟨pm,M,hM,hF⟩:=hm;have e:=hF q hq a.toNat b.toNat aA aA;rw [Int.toNat_of_nonneg ha.1,Int.toNat_of_nonneg hb.1] at e;refine RD (d:=3) (a:=(q.w5,a,b)) ht hx hk hM rfl (hc _) (λb=>by rw [he,E7.eq_iff]) hz ?_;rw [e];exact k
theorem RR{V:Type}{t:TypeId}{x:Operand}{olo ohi:Option Operand}{n:Nat}{enc:V->Array Value}{xs:List V}{v:Value}{hk:GH}(lo hi:Nat)(ht:Ee P t=some n)(hs:AD hk v n enc xs)(hx:AP O x=v)
  (hlo:match olo with | none=>lo=0 | some o=>∃kd,AP O o=.int kd lo) (hhi:match ohi with | none=>hi=xs.length | some o=>∃kd,AP O o=.int kd hi) (h1:lo<=hi) (h2:hi<=xs.length)
  (k:∀v',AD hk v' n enc ((xs.take hi).drop lo)->T (putS O dst v') ds h):BV E ⟨dst,.slice t x olo ohi none,ty,pos,af,gd⟩ O ds h T:=by
 have hs':=hs;obtain ⟨a,cap,rfl,hc,_,_⟩:=hs';exact J5 lo hi ht hc hx hlo hhi h1 h2 (k _ (hs.part h1 h2))
end
def UK(F:AG->Int)(l:List AG):Nat->Int
 | 0=>F (l.getD 0 AG.zero)
 | k+1=>min (UK F l k) (F ((l.drop 1).getD k AG.zero))
def UL(F:AG->Int)(l:List AG):Nat->Int
 | 0=>F (l.getD 0 AG.zero)
 | k+1=>max (UL F l k) (F ((l.drop 1).getD k AG.zero))
def CT(F:AG->Int)(l:List AG):Int:=UK F l (l.length-1)
def Be(F:AG->Int)(l:List AG):Int:=UL F l (l.length-1)
theorem MO{l:List AG}{k:Nat}(h:k<l.length-1):(l.drop 1).getD k AG.zero ∈ l:=List.mem_of_mem_drop (Br (by rw [List.length_drop];exact h))
def FG(s v:Int):Int:=if s=0 then v else 0
theorem LY(v:Int):FG 0 v=v:=if_pos rfl
theorem NW{s v:Int}(h:¬s=0):FG s v=0:=if_neg h
end Go.Ns
namespace Go.Ns
open Go.Conc
theorem V1:∀(n m:Nat)(f:Nat->Nat),(∀i,i<m->f i<n)->(∀i j,i<j->j<m->f i≠f j)->m<=n
 | 0,m,f,h,_=>by
  rcases Nat.eq_zero_or_pos m with e | e
  ·omega
  ·exact absurd (h 0 e) (Nat.not_lt_zero _)
 | n+1,m,f,h,d=>by
  rcases Nat.eq_zero_or_pos m with e | e
  ·omega
  ·have x:=V1 n (m-1) (λi=>if f i=n then f (m-1) else f i) (λi hi=>by
    have h1:=h i aA;have h2:=h (m-1) aA;have h3:=d i (m-1) hi aA;show (if f i=n then f (m-1) else f i)<n;split <;> omega) (λi j hij hj=>by
    have h1:=d i j hij aA;have h2:=d i (m-1) aA aA;have h3:=d j (m-1) aA aA;show (if f i=n then f (m-1) else f i)≠(if f j=n then f (m-1) else f j);split <;> split <;> omega)
   omega
theorem HX{nj:Nat}{l:List Int}(h:Ag nj l=0):l.length<=nj:=by
 refine V1 nj l.length (λk=>(l.getD k 0).toNat) (λi hi=>?_) λi j hij hj=>?_
 ·have:=E9 h i hi
  show (l.getD i 0).toNat<nj;omega
 ·have hi:=E9 h i aA;have hj':=E9 h j hj;have h1:=DN h j (Nat.zero_le _) aA;unfold HM at h1;split at h1
  ·rename_i a;exact absurd h1 a
  ·split at h1
   ·cases h1
   ·rename_i a b
    show (l.getD i 0).toNat≠(l.getD j 0).toNat;intro e;refine b (List.any_eq_true.2 ⟨l.getD i 0,?_,decide_eq_true aA⟩);rw [List.mem_iff_getElem];refine ⟨i,by rw [List.length_take];omega,?_⟩;rw [List.getElem_take,List.getD_eq_getElem?_getD,List.getElem?_eq_getElem aA];rfl
def DE(js:List AM)(l:List Int):Nat->Int
 | 0=>0
 | q+1=>(js.getD (l.getD q 0).toNat AM.z).place
def BW(np:Nat)(ws:List AE)(js:List AM)(p:AG)(l:List Int):Nat->Int
 | 0=>0
 | q+1=>BW np ws js p l q+(Av np ws p (DE js l q).toNat (js.getD (l.getD q 0).toNat AM.z).place.toNat+p.works (l.getD q 0).toNat)
def Eo(np:Nat)(ws:List AE)(js:List AM)(p:AG)(l:List Int):Nat->List Int
 | 0=>[]
 | q+1=>Eo np ws js p l q++[BW np ws js p l (q+1)]
def AZ(np:Nat)(ws:List AE)(js:List AM)(p:AG)(l:List Int):Int:=BW np ws js p l l.length+Av np ws p (DE js l l.length).toNat 0
theorem I0(np:Nat)(ws:List AE)(js:List AM)(p:AG)(l:List Int):∀q,(Eo np ws js p l q).length=q
 | 0=>rfl
 | q+1=>by rw [Eo,List.length_append,I0 np ws js p l q];rfl
theorem PK(np:Nat)(ws:List AE)(js:List AM)(p:AG)(l:List Int):∀q i,i<q->(Eo np ws js p l q).getD i 0=BW np ws js p l (i+1)
 | 0,i,h=>absurd h (Nat.not_lt_zero _)
 | q+1,i,h=>by
  have hl:=I0 np ws js p l q;rw [Eo,List.getD_eq_getElem?_getD];by_cases e:i<q
  ·rw [List.getElem?_append_left aA,<-List.getD_eq_getElem?_getD];exact PK np ws js p l q i e
  ·have e2:i=q:=aA
   subst e2;rw [List.getElem?_append_right aA,hl,Nat.sub_self];rfl
section
variable {bag kinds:Int} {ps:List ByteArray} {ws:List AE} {js:List AM} {ns:List AK} {l:List Int} {p:AG}
theorem RS{np:Nat}(hp:Bw p):(Av np ws p).ok:=UH (Kk hp)
theorem PL(b:BR bag kinds ps ws js ns)(hr:∀k,k<l.length->0<=l.getD k 0/\l.getD k 0<js.length):∀q,q<=l.length->0<=DE js l q/\DE js l q<ps.length
 | 0,_=>by have:=b.plen;show (0:Int)<=0/\(0:Int)<_;omega
 | q+1,h=>by have:=(Ji b (hr q aA)).place;show 0<=(js.getD (l.getD q 0).toNat AM.z).place/\(js.getD (l.getD q 0).toNat AM.z).place<ps.length;omega
theorem RT(hp:Bw p):∀q,0<=BW ps.length ws js p l q/\BW ps.length ws js p l q<=1048606*(q:Int)
 | 0=>⟨Int.le_refl 0,Int.le_refl 0⟩
 | q+1=>by
  have e:=RT hp q;have f:=RS (np:=ps.length) (ws:=ws) hp (DE js l q).toNat (js.getD (l.getD q 0).toNat AM.z).place.toNat;have w:=hp.works (l.getD q 0).toNat;unfold BW;omega
end
end Go.Ns
namespace Go.Ns
open Go.Conc
theorem D9.store{h h':GH}{q r np:Nat}{ws:List AE}{pq:List AG}(x:D9 h r np ws pq)(ho:∀b,b≠q->h' b=h b)(n:r≠q):D9 h' r np ws pq:=by
 obtain ⟨pm,M,⟨es,clk,hb,hl⟩,hM⟩:=x;exact ⟨pm,M,⟨es,clk,(ho r n).trans hb,hl⟩,hM⟩
def V2(x:Int×Int):Array Value:=#[.int .i64 x.1,.int .i64 x.2]
section
variable (np:Nat) (ws:List AE) (js:List AM) (pq:List AG) (l:List Int)
def PM(i:Nat):Int:=CT (λx=>BW np ws js x l (i+1)) pq
def NX(i:Nat):Int:=Be (λx=>BW np ws js x l (i+1)) pq
def G6:Nat->List (Int×Int)
 | 0=>[]
 | q+1=>G6 q++[(PM np ws js pq l q,NX np ws js pq l q)]
theorem I2:∀q,(G6 np ws js pq l q).length=q
 | 0=>rfl
 | q+1=>by rw [G6,List.length_append,I2 q];rfl
def PN(i:Nat):Bool:=decide (NX np ws js pq l i<=(js.getD (l.getD i 0).toNat AM.z).due)
def B6(bag kinds:Int):Bool:=decide ((Cj kinds js l).sum<=bag) && (List.range l.length).all (PN np ws js pq l)
variable {np ws js pq l}
theorem Yt{q:Nat}(h:¬(js.getD (l.getD q 0).toNat AM.z).due<Be (λx=>BW np ws js x l ((q:Int).toNat+1)) pq):PN np ws js pq l q=true:=decide_eq_true (Int.not_lt.1 h)
theorem Yu{q:Nat}(h:(js.getD (l.getD q 0).toNat AM.z).due<Be (λx=>BW np ws js x l ((q:Int).toNat+1)) pq):PN np ws js pq l q=false:=decide_eq_false (Int.not_le.2 h)
variable {bag kinds:Int}
theorem V3(h:¬(Cj kinds js l).sum<=bag):B6 np ws js pq l bag kinds=false:=by unfold B6;rw [decide_eq_false h];rfl
theorem Yv{k:Nat}(hk:k<l.length)(h:(js.getD (l.getD k 0).toNat AM.z).due<Be (λx=>BW np ws js x l ((k:Int).toNat+1)) pq):B6 np ws js pq l bag kinds=false:=by
 unfold B6;rw [Bool.and_eq_false_iff];refine .inr (Bool.eq_false_iff.2 λe=>?_)
 have:=List.all_eq_true.1 e k (List.mem_range.2 hk)
 rw [Yu h] at this;cases this
theorem safe_all{k:Nat}(h:¬¬(Cj kinds js l).sum<=bag)(hs:∀j,j<k->PN np ws js pq l j=true)(hk:l.length<=k):B6 np ws js pq l bag kinds=true:=by
 unfold B6;rw [decide_eq_true (Decidable.not_not.1 h),Bool.true_and];exact List.all_eq_true.2 λj hj=>hs j (by have:=List.mem_range.1 hj;omega)
end
def Cr:Nat->List Int
 | 0=>[]
 | k+1=>Cr k++[(k:Int)]
theorem DH:∀n,(Cr n).length=n
 | 0=>rfl
 | n+1=>by rw [Cr,List.length_append,DH n];rfl
def Ep(nj:Nat)(l:List Int)(i:Int):Int:=if¬Ag nj l=0 then Ag nj l else if¬(0<=i/\i<=(l.length:Int)-1) then 1 else 0
theorem UM{nj:Nat}{l:List Int}{i:Int}(h:Ep nj l i=0):Ag nj l=0/\0<=i/\i<l.length:=by
 unfold Ep at h;split at h
 ·rename_i a;exact absurd h a
 ·rename_i a
  split at h
  ·cases h
  ·exact ⟨Decidable.not_not.1 a,aA⟩
section
variable (bag kinds:Int) (ps:List ByteArray) (ws:List AE) (js:List AM) (ns:List AK) (l:List Int)
def Ar:List (Int×Int):=if¬AO bag kinds ps ws js ns (Ag js.length l)=0 then [] else G6 ps.length ws js (AB ws js ns) l l.length
def Cw:Bool:=if¬AO bag kinds ps ws js ns (Ag js.length l)=0 then false else B6 ps.length ws js (AB ws js ns) l bag kinds
def KU(i:Int):Int:=
 if¬AO bag kinds ps ws js ns (Ep js.length l i)=0 then 0 else if (js.getD (l.getD i.toNat 0).toNat AM.z).due<PM ps.length ws js (AB ws js ns) l i.toNat then 1
 else if NX ps.length ws js (AB ws js ns) l i.toNat<=(js.getD (l.getD i.toNat 0).toNat AM.z).due then 2 else 0
variable {bag kinds ps ws js ns l} {i:Int}
theorem late_yes(h0:AO bag kinds ps ws js ns (Ep js.length l i)=0)(h:(js.getD (l.getD i.toNat 0).toNat AM.z).due<CT (λx=>BW ps.length ws js x l (i.toNat+1)) (AB ws js ns)):(1:Int)=KU bag kinds ps ws js ns l i:=by
 unfold KU;rw [if_neg (λx=>x h0)];exact (if_pos h).symm
theorem late_no(h0:AO bag kinds ps ws js ns (Ep js.length l i)=0)(h:¬(js.getD (l.getD i.toNat 0).toNat AM.z).due<CT (λx=>BW ps.length ws js x l (i.toNat+1)) (AB ws js ns))
  (h2:Be (λx=>BW ps.length ws js x l (i.toNat+1)) (AB ws js ns)<=(js.getD (l.getD i.toNat 0).toNat AM.z).due):(2:Int)=KU bag kinds ps ws js ns l i:=by
 unfold KU;rw [if_neg (λx=>x h0)];exact ((if_neg h).trans (if_pos h2)).symm
theorem Yw(h0:AO bag kinds ps ws js ns (Ep js.length l i)=0)(h:¬(js.getD (l.getD i.toNat 0).toNat AM.z).due<CT (λx=>BW ps.length ws js x l (i.toNat+1)) (AB ws js ns))
  (h2:¬Be (λx=>BW ps.length ws js x l (i.toNat+1)) (AB ws js ns)<=(js.getD (l.getD i.toNat 0).toNat AM.z).due):(0:Int)=KU bag kinds ps ws js ns l i:=by
 unfold KU;rw [if_neg (λx=>x h0)];exact ((if_neg h).trans (if_neg h2)).symm
theorem late_bad(h0:¬AO bag kinds ps ws js ns (Ep js.length l i)=0):(0:Int)=KU bag kinds ps ws js ns l i:=by unfold KU;rw [if_pos h0]
end
end Go.Ns
namespace Go.Ns
open Go.Conc
def Gl(i:Nat)(pq:List AG):Nat->List Int
 | 0=>[]
 | k+1=>Gl i pq k++[(pq.getD k AG.zero).works i]
theorem Gy(i:Nat)(pq:List AG):∀k,(Gl i pq k).length=k
 | 0=>rfl
 | k+1=>by rw [Gl,List.length_append,Gy i pq k];rfl
theorem PO{i:Nat}{pq:List AG}{k:Nat}(h:0<k):Gl i pq k≠[]:=λe=>by
 have:=Gy i pq k
 rw [e] at this;simp at this;omega
def MP(bag kinds:Int)(ps:List ByteArray)(ws:List AE)(js:List AM)(ns:List AK)(i:Int):List Int:=
 if¬AO bag kinds ps ws js ns (E8 js.length i)=0 then [] else Dh (Eb (Gl i.toNat (AB ws js ns) (AB ws js ns).length))
end Go.Ns
namespace Go.Ns
open Go.Conc
theorem UN{h:GH}{r:Nat}{M:Int->Option Int}(x:Cp h r Dj Dj M):∃y,h r=some y:=by
 obtain ⟨es,clk,hb,_⟩:=x;exact ⟨_,hb⟩
def Dl(ns:List AK)(mask:Int)(k:Nat):List AK:=((List.range k).filter (NH mask)).map λ(i:Nat)=>ns.getD i AK.z
section
variable {ns:List AK} {mask:Int} {k:Nat} {h:GH}
theorem pickN_t(hb:mask.fdiv (2 ^ k)%2=1):Dl ns mask (k+1)=Dl ns mask k++[ns.getD k AK.z]:=by
 unfold Dl;rw [JY (by unfold NH;rw [decide_eq_true hb]),List.map_append];rfl
theorem pickN_f(hb:¬mask.fdiv (2 ^ k)%2=1):Dl ns mask (k+1)=Dl ns mask k:=by
 unfold Dl;rw [JZ (by unfold NH;rw [decide_eq_false hb])]
theorem RU(ns:List AK)(mask:Int)(k:Nat):(Dl ns mask k).length<=k:=by
 unfold Dl;rw [List.length_map]
 have:=List.length_filter_le (NH mask) (List.range k)
 rwa [List.length_range] at this
theorem UO(ns:List AK)(mask:Int)(k q:Nat)(hq:q<(Dl ns mask k).length):∃i,i<k/\(Dl ns mask k).getD q AK.z=ns.getD i AK.z:=by
 have hm:(Dl ns mask k).getD q AK.z ∈ Dl ns mask k:=Br hq;unfold Dl at hm ⊢;obtain ⟨i,hi,e⟩:=List.mem_map.1 hm;exact ⟨i,List.mem_range.1 (List.mem_filter.1 hi).1,e.symm⟩
theorem AW.pick(x:AW h ns)(mask:Int)(k:Nat):AW h (Dl ns mask k):=λq=>by
 by_cases hq:q<(Dl ns mask k).length
 ·obtain ⟨i,_,e⟩:=UO ns mask k q hq;rw [e];exact x i
 ·rw [List.getD_eq_getElem?_getD,List.getElem?_eq_none aA];exact AW.nil h 0
theorem AW.fine1(x:AW h ns)(k:Nat):(Aq (ns.getD k AK.z)).toList.all (·.oneCell')=true:=by
 show (((ns.getD k AK.z).wv.oneCell') && (true && (true && true)))=true;rw [(AD.one (x k)).2];rfl
theorem AW.fine(x:AW h ns):∀y ∈ ns,(Aq y).toList.all (·.oneCell')=true:=λy hy=>by
 obtain ⟨i,hi,e⟩:=List.mem_iff_getElem.1 hy
 have:=x.fine1 i
 rw [List.getD_eq_getElem?_getD,List.getElem?_eq_getElem hi] at this;rw [<-e];exact this
theorem S7{nw:Nat}{ns ns':List AK}{k i:Nat}(e:ns'.getD k AK.z=ns.getD i AK.z):Dz nw ns' k=Dz nw ns i:=by unfold Dz;rw [e]
theorem BR.pick{bag kinds:Int}{ps:List ByteArray}{ws:List AE}{js:List AM}(b:BR bag kinds ps ws js ns)(mask:Int):BR bag kinds ps ws js (Dl ns mask ns.length):=
 { b with
  nlen:=Nat.le_trans (RU ns mask ns.length) b.nlen
  note:=λk hk=>by
   obtain ⟨i,hi,e⟩:=UO ns mask ns.length k hk;rw [S7 e];exact b.note i hi }
end
section
variable (ws:List AE) (js:List AM) (ns:List AK)
def Fd(x:Bool×List Int)(l:List Int):Bool:=x.1 && (decide ((x.2.length:Int)<l.length) || (decide ((l.length:Int)=x.2.length) && decide (0<Tx l x.2)))
def B9:Nat->Bool×List Int
 | 0=>(false,[])
 | q+1=>if Fd (B9 q) (Dk (q:Int) ns.length)=true then B9 q else if (AB ws js (Dl ns (q:Int) ns.length)).length=0 then (true,Dk (q:Int) ns.length) else B9 q
variable {ws js ns} {q:Nat}
theorem H3(h:Fd (B9 ws js ns q) (Dk (q:Int) ns.length)=true):B9 ws js ns (q+1)=B9 ws js ns q:=if_pos h
theorem NY(h:Fd (B9 ws js ns q) (Dk (q:Int) ns.length)=false)(h2:((AB ws js (Dl ns (q:Int) ns.length)).length:Int)=0):B9 ws js ns (q+1)=(true,Dk (q:Int) ns.length):=by
 rw [B9,if_neg (by rw [h];simp),if_pos aA]
theorem NZ(h:Fd (B9 ws js ns q) (Dk (q:Int) ns.length)=false)(h2:¬((AB ws js (Dl ns (q:Int) ns.length)).length:Int)=0):B9 ws js ns (q+1)=B9 ws js ns q:=by
 rw [B9,if_neg (by rw [h];simp),if_neg aA]
theorem Yx{x:Bool×List Int}{l:List Int}(h:x.1=false):Fd x l=false:=by unfold Fd;rw [h];rfl
theorem Yy{x:Bool×List Int}{l:List Int}(h:¬(x.2.length:Int)<l.length)(h2:¬(l.length:Int)=x.2.length):Fd x l=false:=by
 unfold Fd;rw [decide_eq_false h,decide_eq_false h2];simp
theorem Yz{x:Bool×List Int}{l:List Int}(h:¬(x.2.length:Int)<l.length)(h2:¬0<Tx l x.2):Fd x l=false:=by
 unfold Fd;rw [decide_eq_false h,decide_eq_false h2];simp
theorem RV{x:Bool×List Int}{l:List Int}(h:x.1=true)(h1:(x.2.length:Int)<l.length):Fd x l=true:=by
 unfold Fd;rw [h,decide_eq_true h1];simp
theorem RW{x:Bool×List Int}{l:List Int}(h:x.1=true)(h1:(l.length:Int)=x.2.length)(h2:0<Tx l x.2):Fd x l=true:=by
 unfold Fd;rw [h,decide_eq_true h1,decide_eq_true h2];simp
theorem pow_16:∀{n:Nat},n<=4->(1:Int)<=(2:Int) ^ n/\(2:Int) ^ n<=16
 | 0,_=>aC
 | 1,_=>aC
 | 2,_=>aC
 | 3,_=>aC
 | 4,_=>aC
theorem PP:∀q,(B9 ws js ns q).2.length<=ns.length
 | 0=>Nat.zero_le _
 | q+1=>by
  have e:=PP q;unfold B9;split
  ·exact e
  ·split
   ·exact RJ _ _
   ·exact e
def Gm(bag kinds:Int)(ps:List ByteArray)(ws:List AE)(js:List AM)(ns:List AK):List Int:=
 if¬BP bag kinds ps ws js ns=0 then [] else if (0:Int)<(AB ws js ns).length then [] else (B9 ws js ns (2 ^ ns.length)).2
end
section
variable {bag kinds:Int} {ps:List ByteArray} {ws:List AE} {js:List AM} {ns:List AK} {q:Nat}
theorem UP(h:¬BP bag kinds ps ws js ns=0):Gm bag kinds ps ws js ns=[]:=if_pos h
theorem S8(h:(0:Int)<(AB ws js ns).length):Gm bag kinds ps ws js ns=[]:=by
 unfold Gm;rw [if_pos h];exact ite_self _
theorem UQ(h:BP bag kinds ps ws js ns=0)(h1:¬(0:Int)<(AB ws js ns).length)(hq:¬(q:Int)<(2:Int) ^ ((ns.length:Int)).toNat)(hq2:(q:Int)<=(2:Int) ^ ((ns.length:Int)).toNat):Gm bag kinds ps ws js ns=(B9 ws js ns q).2:=by
 have e:((2 ^ ns.length:Nat):Int)=(2:Int) ^ ((ns.length:Int)).toNat:=by rw [Int.toNat_natCast,Int.natCast_pow];rfl
 rw [<-e] at hq hq2
 have:2 ^ ns.length=q:=aA
 unfold Gm;rw [if_neg (λx=>x h),if_neg h1,this]
end
section
variable (ws:List AE) (js:List AM) (ns:List AK)
abbrev KK(pq:List AG)(i:Nat):Nat->Int:=λk=>(pq.getD k AG.zero).ways i
def UR(pq:List AG)(i:Nat):Int:=KR (KK pq i) pq.length
def HN(pq:List AG)(k:Nat):Int×Int:=askTo (UR pq) (pq.length:Int) k
theorem RX{pq:List AG}{k:Nat}(h:UR pq k<(HN pq k).2):HN pq (k+1)=((k:Int),UR pq k):=if_pos h
theorem RY{pq:List AG}{k:Nat}(h:¬UR pq k<(HN pq k).2):HN pq (k+1)=HN pq k:=if_neg h
def S9(bag kinds:Int)(ps:List ByteArray)(ws:List AE)(js:List AM)(ns:List AK):Int:=if¬AO bag kinds ps ws js ns 0=0 then 0 else (HN (AB ws js ns) ws.length).1
def OG(bag kinds:Int)(ps:List ByteArray)(ws:List AE)(js:List AM)(ns:List AK):Int:=if¬AO bag kinds ps ws js ns 0=0 then 0 else (HN (AB ws js ns) ws.length).2
end
end Go.Ns
namespace Go.Ns
open Go.Conc
def N1(hs:GH)(k0 ln:Nat)(c:Array Value)(t:TypeId)(k:Nat)(v:Value)(h:GH):Prop:=k=k0->∃r,v=.slice (some ⟨r,0,none⟩) ln ln/\hs r=none/\h r=some (true,.cells c t (0,0))
theorem N1.mono(hs:GH)(k0 ln:Nat)(c:Array Value)(t:TypeId):∀k v h1 h2,GH.Le h1 h2->N1 hs k0 ln c t k v h1->N1 hs k0 ln c t k v h2:=λ_ _ _ _ l x e=>by
 obtain ⟨r,q1,q2,q3⟩:=x e;exact ⟨r,q1,q2,l.keep q3 rfl⟩
theorem MQ{P:Program}{E:GM P}{O:Nat->Value}{ds:List Deferred}{hs hx:GH}{dst:Option Nat}{ty:TypeId}{pos:String}{af:Array Edge}{gd:Option (Nat×Bool)}{t:TypeId}{len n k0 k:Nat}{z cells:Array Value}{e:TypeId}{parts:Array (Nat×Operand)}
  (h0:DR P t=some (n,z,e)) (hl:len*n<=2 ^ 24) (hn:(len*n=0)=False) (hf:Instr.fill (λi=>some (i*n,n)) ((Array.range (len*n)).map (z[·%z.size]!)) (parts.map λ(i,x)=>(i,AP O x)).toList=some cells) (l:hs.Le hx) :
  BV E ⟨dst,.buildSlice t len parts,ty,pos,af,gd⟩ O ds hx λσ' ds' h'=>ds'=ds/\∃v,σ'=putS O dst v/\hx.Le h'/\N1 hs k0 len cells e k v h':=
 AY h0 hl hn hf λr h' hr le bx _=>⟨rfl,_,rfl,le,λ_=>⟨r,rfl,GH.Le.nothing l hr,bx⟩⟩
def LfW(hs:GH)(k0 ln:Nat)(c:Array Value)(t:TypeId)(n:Nat)(Fr:GH->Prop)(k:Nat)(v:Value)(h:GH):Prop:=N1 hs k0 ln c t k v h/\(k=n->Fr h)
theorem LfW.mono(hs:GH)(k0 ln:Nat)(c:Array Value)(t:TypeId)(n:Nat){Fr:GH->Prop}(m:∀h1 h2,GH.Le h1 h2->Fr h1->Fr h2):∀k v h1 h2,GH.Le h1 h2->LfW hs k0 ln c t n Fr k v h1->LfW hs k0 ln c t n Fr k v h2:=λ_ _ _ _ l x=>⟨N1.mono _ _ _ _ _ _ _ _ _ l x.1,λe=>m _ _ l (x.2 e)⟩
theorem V4{P:Program}{E:GM P}{O:Nat->Value}{ds:List Deferred}{hs hx:GH}{dst:Option Nat}{ty:TypeId}{pos:String}{af:Array Edge}{gd:Option (Nat×Bool)}{t:TypeId}{len n k0 N:Nat}{z cells:Array Value}{e:TypeId}{parts:Array (Nat×Operand)}{Fr:GH->Prop}(hk:k0≠N)
  (h0:DR P t=some (n,z,e)) (hl:len*n<=2 ^ 24) (hn:(len*n=0)=False) (hf:Instr.fill (λi=>some (i*n,n)) ((Array.range (len*n)).map (z[·%z.size]!)) (parts.map λ(i,x)=>(i,AP O x)).toList=some cells) (l:hs.Le hx) :
  BV E ⟨dst,.buildSlice t len parts,ty,pos,af,gd⟩ O ds hx λσ' ds' h'=>ds'=ds/\∃v,σ'=putS O dst v/\hx.Le h'/\LfW hs k0 len cells e N Fr k0 v h':=
 AY h0 hl hn hf λr h' hr le bx _=>⟨rfl,_,rfl,le,λ_=>⟨r,rfl,GH.Le.nothing l hr,bx⟩,λe=>absurd e hk⟩
theorem tFg{P:Program}{E:GM P}{l:List Oper}{n:Nat}{fl:Bool}{hs:GH}{ds:List Deferred}{Lw:Nat->Value->GH->Prop}{F:(Nat->Value)->GH->Prop}{π:List Nat}{O:Nat->Value}{h:GH}{m k g d:Nat}{dst:Option Nat}{op:Op}{ty:TypeId}{pos:String}{af:Array Edge}{v:Value}{w:Bool}{og:Oper}
  (hk:KO m=(.p,k)) (ho:l[k]? =some ⟨dst,op,ty,pos,af,some (g,w)⟩) (h1:l[g]? =some og) (h2:og.dst=some d) (h3:O d=.bool w) (x:∀hx,Lw n undef hx->SZ E ⟨dst,op,ty,pos,af,some (g,w)⟩ O ds hx v)
  (y:TD E l n fl hs ds Lw F (dK π) (putS O dst v) h):TD E l n fl hs ds Lw F (dK (m ::π)) O h:=by
 unfold dK;rw [hk];exact ⟨_,true,ho,HJ h1 h2 h3,λe=>(by cases e),λ_=>⟨v,x,y⟩⟩
theorem tWLg{P:Program}{E:GM P}{l:List Oper}{n:Nat}{hs:GH}{ds:List Deferred}{Lw:Nat->Value->GH->Prop}{F:(Nat->Value)->GH->Prop}{π:List Nat}{O:Nat->Value}{h:GH}{m k g d:Nat}{dst:Option Nat}{op:Op}{ty:TypeId}{pos:String}{af:Array Edge}{w:Bool}{og:Oper}(hk:KO m=(.w,k))(ho:l[k]? =some ⟨dst,op,ty,pos,af,some (g,w)⟩)(h1:l[g]? =some og)(h2:og.dst=some d)(h3:O d=.bool w)
  (x:BV E ⟨dst,op,ty,pos,af,some (g,w)⟩ O ds h λσ' ds' h'=>ds'=ds/\∃v,σ'=putS O dst v/\Lw n undef h'/\TD E l n false hs ds Lw F (dK π) (putS O dst v) h'):TD E l n false hs ds Lw F (dK (m ::π)) O h:=by
 unfold dK;rw [hk];exact ⟨_,true,ho,HJ h1 h2 h3,λe=>(by cases e),λ_ hx hg=>by rw [hg.2 rfl];exact x⟩
def Ty(h:GH)(t:TypeId)(v:Value):Prop:=∀b,CY v=some b->∃p c f,h b=some (p,.cells c t f)
def Dm(h:GH)(t:TypeId)(v:Value)(xs:List Int):Prop:=AD h v 1 eI xs/\Ty h t v
theorem Dm.le{h h':GH}{t:TypeId}{v:Value}{xs:List Int}(x:Dm h t v xs)(l:h.Le h'):Dm h' t v xs:=⟨x.1.le l,λb hb=>by
 obtain ⟨p,c,f,q⟩:=x.2 b hb;exact ⟨p,c,f,l.keep q rfl⟩⟩
theorem Dm.nil(h:GH)(t:TypeId):Dm h t (.slice none 0 0) []:=⟨AD.nil _ _ _,λb hb=>by cases hb⟩
theorem Dm.own{h0 h:GH}{t:TypeId}{v:Value}{xs:List Int}(o:AT h0 h v t 1 eI xs):Dm h t v xs:=⟨o.sl,λb hb=>by
 rcases o with ⟨rfl,_⟩ | ⟨b1,cap,c,rfl,_,h2,_⟩
 ·cases hb
 ·simp only [CY,Option.some.injEq] at hb;subst hb;exact ⟨_,_,_,h2⟩⟩
theorem Dm.same{h h':GH}{t:TypeId}{w:Value}{xs:List Int}(x:Dm h t w xs)(key:∀b,CY w=some b->h' b=h b):Dm h' t w xs:=by
 refine ⟨?_,λb hb=>by rw [key b hb];exact x.2 b hb⟩;obtain ⟨a,cap,hv,hc,hm,he⟩:=x.1;refine ⟨a,cap,hv,hc,hm,λi hi=>?_⟩;obtain ⟨b,off,h1,h2⟩:=he i hi;exact ⟨b,off,h1,h2.same (key b (by rw [hv,h1];rfl))⟩
theorem Dm.grown{V:Type}{h h' h0:GH}{v v':Value}{t t':TypeId}{n:Nat}{enc:V->Array Value}{ys:List V}(g:GK h h' v v')(o:AT h0 h v t' n enc ys)(ne:t'≠t){w:Value}{xs:List Int}(x:Dm h t w xs):Dm h' t w xs:=
 x.same λb hb=>by
  obtain ⟨p,c,f,q⟩:=x.2 b hb;rw [q];refine g.1 b _ q λe=>?_;rcases o with ⟨rfl,_⟩ | ⟨b1,cap,c1,rfl,_,h2,_⟩
  ·cases e
  ·simp only [CY,Option.some.injEq] at e;subst e;rw [q] at h2;cases h2;exact ne rfl
theorem Dm.keepX{X:Nat->Prop}{h h':GH}{t:TypeId}{w:Value}{xs:List Int}(x:Dm h t w xs)(k:Bb X h h')(n:∀b,CY w=some b->¬X b):Dm h' t w xs:=
 x.same λb hb=>by
  obtain ⟨p,c,f,q⟩:=x.2 b hb;rw [q];exact k.box q (n b hb) rfl
theorem Dm.store{h h':GH}{t t':TypeId}{w:Value}{xs:List Int}{r:Nat}{p:Bool}{c:Array Value}{f:Nat×Nat}(x:Dm h t w xs)(hr:h r=some (p,.cells c t' f))(ne:t'≠t)(ho:∀b,b≠r->h' b=h b):Dm h' t w xs:=
 x.same λb hb=>ho b λe=>by
  obtain ⟨p2,c2,f2,q⟩:=x.2 b hb;rw [e,hr] at q;cases q;exact ne rfl
def B1(h:GH)(t:TypeId)(l:List Sl):Prop:=∀k,Dm h t (l.getD k Sl.z).1 (l.getD k Sl.z).2
theorem B1.le{h h':GH}{t:TypeId}{l:List Sl}(x:B1 h t l)(e:h.Le h'):B1 h' t l:=λk=>(x k).le e
theorem B1.nil(h:GH)(t:TypeId):B1 h t []:=λk=>by
 rw [CF aD];exact Dm.nil _ _
theorem PQ{V:Type}(z:V)(a b:List V)(k:Nat):(a++b).getD k z=if k<a.length then a.getD k z else b.getD (k-a.length) z:=by
 simp only [List.getD_eq_getElem?_getD,List.getElem?_append];split <;> rfl
theorem B1.app{h:GH}{t:TypeId}{l l':List Sl}(a:B1 h t l)(b:B1 h t l'):B1 h t (l++l'):=λk=>by
 rw [PQ];split
 ·exact a k
 ·exact b _
theorem B1.one{h:GH}{t:TypeId}{x:Sl}(a:Dm h t x.1 x.2):B1 h t [x]:=λk=>by
 cases k with
 | zero=>exact a
 | succ k=>rw [CF aD];exact Dm.nil _ _
theorem B1.fine{h:GH}{t:TypeId}{l:List Sl}(a:B1 h t l):∀y ∈ l,(JP y).toList.all (·.oneCell')=true:=λy hy=>by
 obtain ⟨i,hi,e⟩:=List.mem_iff_getElem.1 hy;have z:=a i;rw [List.getD_eq_getElem?_getD,List.getElem?_eq_getElem hi] at z;have z2:Dm h t l[i].1 l[i].2:=z;rw [<-e];show ((l[i].1.oneCell') && true)=true;rw [(AD.one z2.1).2];rfl
theorem MR(a b:List Sl):A3 (a++b)=A3 a++A3 b:=by simp [A3]
section
variable {V:Type} {hB:GH} {I:List V->(Nat->Prop)->GH->Prop} {S:GH->Prop} {X0 X X1:Nat->Prop} {h hc h':GH} {pre l:List V} {v v':Value}
def I3(hB:GH)(X0 X:Nat->Prop)(h:GH)(v:Value):Prop:=∀b,CY v=some b->¬X b/\(X0 b\/h b=none)/\hB b=none
theorem EN.old(y:EN hB I X0 h pre X hc){b:Nat}(e:hc b=none):X0 b\/h b=none:=by
 by_cases q:X0 b
 ·exact .inl q
 ·refine .inr ?_;cases hb:h b with
  | none=>rfl
  | some x=>
   obtain ⟨o',h1,_⟩:=y.keep b x.1 x.2 hb q;rw [e] at h1;cases h1
theorem EN.fresh(P:GF hB I)(y:EN hB I X0 h pre X hc)(o:∀b,CY v=some b->hc b=none):I3 hB X0 X h v:=λb hb=>⟨P.off y.inv (o b hb),y.old (o b hb),y.base.nothing (o b hb)⟩
theorem I3.grown(f:I3 hB X0 X h v)(P:GF hB I)(y:EN hB I X0 h pre X hc)(g:GK hc h' v v'):I3 hB X0 X h v':=λb hb=>by
 rcases g.2 with e | ⟨⟨r,e1,e2⟩,_⟩
 ·exact f b (e▸hb)
 ·rw [e1] at hb;cases hb;exact ⟨P.off y.inv e2,y.old e2,y.base.nothing e2⟩
theorem EN.app(P:GF hB I)(y:EN hB I X0 h pre X hc)(g:GK hc h' v v')(f:I3 hB X0 X h v):EN hB I X0 h pre X h':=by
 have lB:hB.Le h':=λb p o hb=>by
  obtain ⟨o1,h1,h2⟩:=y.base b p o hb;exact ⟨o1,g.1 b _ h1 λe=>(by rw [(f b e).2.2] at hb;cases hb),h2⟩
 refine ⟨P.stable _ _ hc h' y.inv (λb hb=>?_) lB,y.sub,λb p o hb hn=>?_,lB⟩
 ·obtain ⟨p,o,h1,_⟩:=P.dom _ _ _ b y.inv hb;rw [h1];exact g.1 b _ h1 λe=>(f b e).1 hb
 ·obtain ⟨o1,h1,h2⟩:=y.keep b p o hb hn;exact ⟨o1,g.1 b _ h1 λe=>(f b e).2.1.elim hn λq=>(by rw [q] at hb;cases hb),h2⟩
theorem EN.callL(y:EN hB I X0 h pre X hc)(f:I3 hB X0 X h v){u:Value}(r:EY hB I S pre (λb=>X b\/CY v=some b) hc l u h') :
  ∃ok X',u=.bool ok/\(∀b,X' b->(X b\/CY v=some b)\/hc b=none)/\Bb (λb=>X b\/CY v=some b) hc h'/\(ok=true->EN hB I X0 h (pre++l) X' h')/\(ok=false->∀l',EY hB I S pre X0 h l' (.bool false) h'):=by
 obtain ⟨ok,X',hv,hs,hk,hl,h1,h2⟩:=r;have s:∀b,(X b\/CY v=some b)->X0 b\/h b=none:=λb q=>q.elim (y.sub b) λe=>(f b e).2.1;have kk:Bb X0 h h':=y.keep.trans s hk;have ss:=subX s y.keep hs;exact ⟨ok,X',hv,hs,hk,λe=>⟨h1 e,ss,kk,hl⟩,λe l'=>⟨false,X',rfl,ss,kk,hl,(λx=>by cases x),λ_=>h2 e⟩⟩
end
structure PR{P:Program}(W:Wk P)(hB:GH)(yv:Value)(t:TypeId)(I:List (List Int)->(Nat->Prop)->GH->Prop)(S:GH->Prop)(all:List (List Int)):Prop where
 prom:GF hB I
 one:yv.cells=#[yv]
 call:∀pre p post X h v,all=pre++p ::post->I pre X h->hB.Le h->Dm h t v p->(∀b,CY v=some b->¬X b/\hB b=none)->Bz W yv #[v] h (EY hB I S pre (λb=>X b\/CY v=some b) h [p])
section
variable {P:Program} {E:GM P} {O:Nat->Value} {ds:List Deferred}
theorem RZ{t0:TypeId}{all:List (List Int)}{hB hc:GH}{J:List (List Int)->(Nat->Prop)->GH->Prop}{Stop:Code->GH->Prop}{Y0:Nat->Prop}{par:Tmp}{f:Operand}{assign body:Code}{Q:Post}
  (hrd:E.rd=none) (hpar:Nat.blt par E.N=true) (hJ:GF hB J) (hB0:hB.Le hc) (j0:J [] Y0 hc)
  (hS:∀c (h h':GH) l lo,Stop c h->h l=some (true,.loop lo)->(∀b,b≠l->h' b=h b)->Stop c h')
  (src:∀(yv:Value)(I:List (List Int)->(Nat->Prop)->GH->Prop)(Sp:GH->Prop)(X:Nat->Prop)(h:GH),PR E.wk hB yv t0 I Sp all->hB.Le h->I [] X h->Bz E.wk (AP O f) #[yv] h λ_ h'=>YEnd hB I Sp all X h h')
  (round:∀(l d:Nat)(lo:Loop)(pre:List (List Int))(p:List Int)(post:List (List Int))(Y:Nat->Prop)(h:GH)(v:Value),all=pre++p ::post->J pre Y h->hB.Le h->hB l=none->¬Y l->h l=some (true,.loop lo)->Dm h t0 v p->(∀b,CY v=some b->¬Y b/\hB b=none)->
   Tr ⟨E.wk,E.fn,some l,E.N⟩ assign (upd O par v) [] h λe σ' ds' h1=>e=.normal/\h1 l=some (true,.loop lo)/\∀h2,h2 l=some (true,.loop { lo with state:=.busy })->(∀b,b≠l->h2 b=h1 b)->
    Tr ⟨E.wk,E.fn,some l,E.N⟩ body σ' ds' h2 (Tw hB J Stop (pre++[p]) (λb=>Y b\/CY v=some b) h l lo))
  (fin:∀(d l:Nat)(h':GH),hB.Le h'->hB d=none->hB l=none->hc d=none->h' d=some (true,.deferred (some []))->
   (∀Y,J all Y h'->(∀b,Y b->b≠d)->Q .normal O ({ target:=.collected d,args:=#[] } ::ds) h')/\
   (∀c,Stop c h'->match c with
    | .exit id=>Q (.exit id) O ({ target:=.collected d,args:=#[] } ::ds) h'
    | .ret=>Q .ret O ({ target:=.collected d,args:=#[] } ::ds) h'
    | _=>False)):Tr E (.rangeFunc f #[par] assign body) O ds hc Q:=by
 refine LH hrd λt d l hs hd hl hne=>?_;have hl':hB l=none:=hB0.nothing hl;have hd':hB d=none:=hB0.nothing hd;let lo:Loop:={ state:=.ready,pending:=none,fn:=E.fn,tmps:=t,params:=#[par],assign,body,defers:=d };have nYl:¬Y0 l:=hJ.off j0 hl;have nYd:¬Y0 d:=hJ.off j0 hd;have hL1:((hc.set d true (.deferred (some []))).set l true (.loop lo)) l=some (true,.loop lo):=GH.set_same _ _ _ _;have hL2:((hc.set d true (.deferred (some []))).set l true (.loop lo)) d=some (true,.deferred (some [])):=by rw [GH.set_ne _ _ _ (Ne.symm hne)];exact GH.set_same _ _ _ _
 have hL3:∀b,b≠l->b≠d->((hc.set d true (.deferred (some []))).set l true (.loop lo)) b=hc b:=λb h1 h2=>by rw [GH.set_ne _ _ _ h1,GH.set_ne _ _ _ h2]
 have hLB:hB.Le ((hc.set d true (.deferred (some []))).set l true (.loop lo)):=(hB0.trans (GH.Le.new hd _ _)).trans (GH.Le.new (by rw [GH.set_ne _ _ _ hne];exact hl) _ _);have hI0:NG J l d lo [] (λb=>Y0 b\/b=l\/b=d) ((hc.set d true (.deferred (some []))).set l true (.loop lo)):=by
  refine ⟨Y0,hJ.stable _ _ hc _ j0 (λb hb=>hL3 b (λe=>nYl (e▸hb)) (λe=>nYd (e▸hb))) hLB,λb=>Iff.rfl,nYl,nYd,hL1,hL2⟩
 have prom:GF hB (NG J l d lo):=by
  refine ⟨?_,?_⟩
  ·rintro pre X h b ⟨Y,j,hX,_,_,h1,h2⟩ hb;rcases (hX b).1 hb with h3 | rfl | rfl
   ·exact hJ.dom _ _ _ _ j h3
   ·exact ⟨_,_,h1,rfl⟩
   ·exact ⟨_,_,h2,rfl⟩
  ·rintro pre X h h' ⟨Y,j,hX,n1,n2,h1,h2⟩ same lB;refine ⟨Y,hJ.stable _ _ h h' j (λb hb=>same b ((hX b).2 (.inl hb))) lB,hX,n1,n2,?_,?_⟩
   ·rw [same l ((hX l).2 (.inr (.inl rfl)))];exact h1
   ·rw [same d ((hX d).2 (.inr (.inr rfl)))];exact h2
 have yk:PR E.wk hB (.func (.yield l) #[] #[]) t0 (NG J l d lo) (RH Stop l d lo) all:=by
  refine ⟨prom,rfl,?_⟩;rintro pre p post X h v hall ⟨Y,j,hX,n1,n2,h1,h2⟩ lB hsv hvX;have nvl:CY v≠some l:=λe=>by obtain ⟨_,_,_,q⟩:=hsv.2 l e;rw [h1] at q;cases q
  have nvd:CY v≠some d:=λe=>by obtain ⟨_,_,_,q⟩:=hsv.2 d e;rw [h2] at q;cases q
  refine Od h1 rfl ?_;have ef:(lo.params.zip #[v]).foldl (λtmps x=>tmps.setIfInBounds x.1 x.2) lo.tmps=t.setIfInBounds par v:=by simp [lo]
  rw [ef];show Ba E.wk l E.fn (t.setIfInBounds par v) assign body h _;have hs':=hs.put hpar v;refine NB (N:=E.N) hs'.1 ?_;have e0:(λi=>(t.setIfInBounds par v).getD i undef)=upd O par v:=funext hs'.2;rw [e0];refine J0 ?_ (round l d lo pre p post Y h v hall j lB hl' n1 h1 hsv λb hb=>⟨λq=>(hvX b hb).1 ((hX b).2 (.inl q)),(hvX b hb).2⟩);rintro e σ' ds' ha ⟨rfl,ha1,hb⟩;refine ⟨rfl,lo,ha1,rfl,?_⟩;refine J0 ?_ (hb _ (GH.set_same _ _ _ _) λb hb=>GH.set_ne _ _ _ hb);rintro e σ2 ds2 h3 ⟨g1,Y',g2,g3,g4,g5⟩;have hd3:h3 d=some (true,.deferred (some [])):=g3.box h2 (λq=>q.elim (λq=>q.elim n2 nvd) (λe=>hne e.symm)) rfl;have nl:¬Y' l:=λq=>(g2 l q).elim (λq=>q.elim n1 nvl) λe=>by rw [h1] at e;cases e
  have nd:¬Y' d:=λq=>(g2 d q).elim (λq=>q.elim n2 nvd) λe=>by rw [h2] at e;cases e
  have key:∀(lo2:Loop)(ok:Bool),(if ok then J (pre++[p]) Y' (h3.set l true (.loop lo2))/\lo2=lo else RH Stop l d lo (h3.set l true (.loop lo2)))->EY hB (NG J l d lo) (RH Stop l d lo) pre (λb=>X b\/CY v=some b) h [p] (.bool ok) (h3.set l true (.loop lo2)):=by
   intro lo2 ok hok;refine ⟨ok,λb=>Y' b\/b=l\/b=d,rfl,?_,?_,?_,?_,?_⟩
   ·rintro b (hb | rfl | rfl)
    ·exact (g2 b hb).imp (λq=>q.imp (λq=>(hX b).2 (.inl q)) id) id
    ·exact .inl (.inl ((hX _).2 (.inr (.inl rfl))))
    ·exact .inl (.inl ((hX _).2 (.inr (.inr rfl))))
   ·intro b q o hb hn;have nb:b≠l:=λe=>hn (.inl ((hX b).2 (.inr (.inl e))));rw [GH.set_ne _ _ _ nb];exact g3 b q o hb λq=>q.elim (λz=>z.elim (λz=>hn (.inl ((hX b).2 (.inl z)))) λz=>hn (.inr z)) nb
   ·exact g4.upd hl' λb hb=>GH.set_ne _ _ _ hb
   ·rintro rfl;simp only [if_true] at hok;obtain ⟨hj,rfl⟩:=hok;exact ⟨Y',hj,λb=>Iff.rfl,nl,nd,GH.set_same _ _ _ _,by rw [GH.set_ne _ _ _ (Ne.symm hne)];exact hd3⟩
   ·rintro rfl;simpa using hok
  have js:∀(lo2:Loop),J (pre++[p]) Y' h3->J (pre++[p]) Y' (h3.set l true (.loop lo2)):=λlo2 hj=>hJ.store hj nl (λb hb=>GH.set_ne _ _ _ hb) (g4.upd hl' λb hb=>GH.set_ne _ _ _ hb);have ss:∀c (lo2:Loop),Stop c h3->Stop c (h3.set l true (.loop lo2)):=λc lo2 hc=>hS c h3 _ l _ hc g1 λb hb=>GH.set_ne _ _ _ hb;refine ⟨_,g1,?_⟩;cases e with
  | normal=>exact key _ true (by simp only [if_true];exact ⟨js _ g5,rfl⟩)
  | exit id=>exact key _ false (by simp only [Bool.false_eq_true,if_false];exact ⟨_,ss _ _ g5,GH.set_same _ _ _ _,by rw [GH.set_ne _ _ _ (Ne.symm hne)];exact hd3⟩)
  | ret=>exact key _ false (by simp only [Bool.false_eq_true,if_false];exact ⟨_,ss _ _ g5,GH.set_same _ _ _ _,by rw [GH.set_ne _ _ _ (Ne.symm hne)];exact hd3⟩)
  | goto _=>exact g5.elim
  | panic _=>exact g5.elim
  | outgrown=>exact g5.elim
 refine (src _ _ _ _ _ yk hLB hI0).mono ?_;rintro v h' ⟨X',hs',hk,hl2,hor⟩;rcases hor with ⟨Y,j,hX,n1,n2,h1,h2⟩ | ⟨c,hst,h1,h2⟩
 ·refine ⟨lo,h1,rfl,?_⟩;show Q .normal O _ _;have hB':=hl2.upd hl' (λb hb=>GH.set_ne h' true (.loop { lo with state:=.exhausted }) hb);refine (fin d l _ hB' hd' hl' hd (by rw [GH.set_ne _ _ _ (Ne.symm hne)];exact h2)).1 Y (hJ.store j n1 (λb hb=>GH.set_ne _ _ _ hb) hB') λb hb e=>n2 (e▸hb)
 ·refine ⟨_,h1,rfl,?_⟩;have hB':=hl2.upd hl' (λb hb=>GH.set_ne h' true (.loop { { lo with state:=.done,pending:=some c } with state:=.exhausted }) hb)
  have:=(fin d l _ hB' hd' hl' hd (by rw [GH.set_ne _ _ _ (Ne.symm hne)];exact h2)).2 c (hS c h' _ l _ hst h1 λb hb=>GH.set_ne _ _ _ hb)
  cases c with
  | exit id=>exact this
  | ret=>exact this
  | _=>exact this.elim
end
def IO(l:List Int)(k:Int):Bool:=l.any (λx=>decide (k=x))
def BU(jobs:List Int):Nat->List Int->List (List Int)
 | 0,l=>[l]
 | f+1,l=>l ::jobs.flatMap λk=>if IO l k=true then [] else BU jobs f (l++[k])
def CG(jobs:List Int):Nat->List Int->Int->List (List Int)
 | 0,_,_=>[]
 | f+1,l,k=>if IO l k=true then [] else BU jobs f (l++[k])
theorem Gn(jobs:List Int)(f:Nat)(l:List Int):BU jobs f l=l ::jobs.flatMap (CG jobs f l):=by
 cases f with
 | zero=>simp [BU,CG]
 | succ f=>rfl
def DO(jobs:List Int):List (List Int):=BU jobs jobs.length []
def Ko(jobs l:List Int):Nat:=(jobs.filter λk=> !IO l k).length
theorem hasI_app(l:List Int)(k j:Int):IO (l++[k]) j=(IO l j || decide (j=k)):=by simp [IO]
theorem Na{jobs l:List Int}{k:Int}(hk:k ∈ jobs)(h:IO l k=false):Ko jobs (l++[k])<Ko jobs l:=by
 unfold Ko;have key:∀js:List Int,(js.filter λj=> !IO (l++[k]) j).length<=(js.filter λj=> !IO l j).length/\(k ∈ js->(js.filter λj=> !IO (l++[k]) j).length<(js.filter λj=> !IO l j).length):=by
  intro js
  induction js with
  | nil=>exact ⟨Nat.le_refl _,λe=>by cases e⟩
  | cons j js ih=>
   obtain ⟨ih1,ih2⟩:=ih;rw [List.filter_cons,List.filter_cons,hasI_app];by_cases e:j=k
   ·subst e;simp only [h,Bool.false_or,decide_true,Bool.not_true,Bool.false_eq_true,if_false,Bool.not_false,if_true,List.length_cons];exact ⟨aA,λ_=>aA⟩
   ·rw [decide_eq_false e,Bool.or_false];split
    ·simp only [List.length_cons];exact ⟨aA,λq=>by have:=ih2 ((List.mem_cons.1 q).resolve_left λz=>e z.symm);omega⟩
    ·exact ⟨ih1,λq=>ih2 ((List.mem_cons.1 q).resolve_left λz=>e z.symm)⟩
 exact (key jobs).2 hk
theorem V5{jobs:List Int}{i:Nat}{F:Int->List (List Int)}(hi:i<jobs.length):(jobs.take (i+1)).flatMap F=(jobs.take i).flatMap F++F (jobs.getD i 0):=by
 rw [ER 0 hi,List.flatMap_append];simp
theorem CW.job{all pre:List (List Int)}{jobs:List Int}{f i:Nat}{l:List Int}(w:CW all pre (BU jobs f l))(hi:i<jobs.length):CW all (pre++[l]++(jobs.take i).flatMap (CG jobs f l)) (CG jobs f l (jobs.getD i 0)):=by
 rw [Gn] at w;have w2:CW all pre ([l]++((jobs.take i).flatMap (CG jobs f l)++(CG jobs f l (jobs.getD i 0)++(jobs.drop (i+1)).flatMap (CG jobs f l)))):=by
  rw [<-List.append_assoc (List.flatMap _ _),<-V5 hi,<-List.flatMap_append,List.take_append_drop];exact w
 exact (w2.right.right).left
theorem CW.head{all pre:List (List Int)}{jobs:List Int}{f:Nat}{l:List Int}(w:CW all pre (BU jobs f l)):CW all pre [l]:=by
 rw [Gn] at w;exact CW.left (a:=[l]) w
section
variable {jobs l:List Int} {f f' i:Nat} {k:Int} {all pre:List (List Int)}
theorem V6(hk:k ∈ jobs)(h:IO l k=false)(hu:Ko jobs l<=f):∃f',f=f'+1:=⟨f-1,by have:=Na hk h;omega⟩
theorem LZ(hf:f=f'+1)(h:IO l k=false):CG jobs f l k=BU jobs f' (l++[k]):=by
 subst hf;exact if_neg (by rw [h];simp)
theorem QU(h:IO l k=true):CG jobs f l k=[]:=by
 cases f with
 | zero=>rfl
 | succ f=>exact if_pos h
theorem QV(hi:i<jobs.length)(h:IO l (jobs.getD i 0)=true):pre++[l]++(jobs.take (i+1)).flatMap (CG jobs f l)=pre++[l]++(jobs.take i).flatMap (CG jobs f l):=by
 rw [V5 hi,QU h,List.append_nil]
theorem TA(hi:i<jobs.length)(hf:f=f'+1)(h:IO l (jobs.getD i 0)=false):pre++[l]++(jobs.take (i+1)).flatMap (CG jobs f l)=(pre++[l]++(jobs.take i).flatMap (CG jobs f l))++BU jobs f' (l++[jobs.getD i 0]):=by
 rw [V5 hi,LZ hf h,<-List.append_assoc]
theorem Y1(hi:jobs.length<=i):pre++BU jobs f l=pre++[l]++(jobs.take i).flatMap (CG jobs f l):=by
 rw [List.take_of_length_le hi,Gn];simp
theorem CW.go(w:CW all pre (BU jobs f l))(hi:i<jobs.length)(hf:f=f'+1)(h:IO l (jobs.getD i 0)=false):CW all (pre++[l]++(jobs.take i).flatMap (CG jobs f l)) (BU jobs f' (l++[jobs.getD i 0])):=by
 have z:=w.job hi
 rwa [LZ hf h] at z
end
end Go.Ns
namespace Go.Ns
open Go.Conc
theorem HA.mem{h:GH}{l:List Sl}(a:HA h l){x:Sl}(hx:x ∈ l):AD h x.1 1 eI x.2:=by
 obtain ⟨i,hi,e⟩:=List.mem_iff_getElem.1 hx;have z:=a i;rw [List.getD_eq_getElem?_getD,List.getElem?_eq_getElem hi] at z;have z2:AD h l[i].1 1 eI l[i].2:=z;rw [<-e];exact z2
theorem B1.all{h:GH}{t:TypeId}{l:List Sl}(a:B1 h t l):HA h l:=λk=>(a k).1
theorem B1.drop1{h:GH}{t:TypeId}{l:List Sl}(a:B1 h t l):B1 h t (l.drop 1):=λk=>by
 rw [List.getD_eq_getElem?_getD,List.getElem?_drop,<-List.getD_eq_getElem?_getD];exact a (1+k)
theorem V7{l:List Sl}{k:Nat}(h:k<l.length-1):(l.drop 1).getD k Sl.z ∈ l:=List.mem_of_mem_drop (Br (by rw [List.length_drop];exact h))
section
variable (G:List Int->Int) (l:List (List Int))
def Du:Nat->List Int×Int
 | 0=>(l.getD 0 [],G (l.getD 0 []))
 | k+1=>if G ((l.drop 1).getD k [])<(Du k).2 then ((l.drop 1).getD k [],G ((l.drop 1).getD k [])) else Du k
def DP:List Int:=(Du G l (l.length-1)).1
end
section
variable {G:List Int->Int} {l:List Sl} {k:Nat}
theorem V8(l:List Sl):(A3 l).length=l.length:=List.length_map _
theorem Nc(hk:k<l.length-1):((A3 l).drop 1).getD k []=((l.drop 1).getD k Sl.z).2:=by
 have e:(A3 l).drop 1=A3 (l.drop 1):=by unfold A3;rw [List.map_drop]
 rw [e,Fb (by rw [List.length_drop];exact hk)]
theorem La(hk:k<l.length-1)(h:G ((l.drop 1).getD k Sl.z).2<(Du G (A3 l) k).2):Du G (A3 l) (k+1)=(((l.drop 1).getD k Sl.z).2,G ((l.drop 1).getD k Sl.z).2):=by
 rw [Du,Nc hk,if_pos h]
theorem Lb(hk:k<l.length-1)(h:¬G ((l.drop 1).getD k Sl.z).2<(Du G (A3 l) k).2):Du G (A3 l) (k+1)=Du G (A3 l) k:=by
 rw [Du,Nc hk,if_neg h]
theorem US(hk:k=l.length-1):DP G (A3 l)=(Du G (A3 l) k).1:=by unfold DP;rw [V8,hk]
end
theorem PS:∀(n k:Nat),k<n->(Cr n).getD k 0=(k:Int)
 | 0,k,h=>absurd h (Nat.not_lt_zero _)
 | n+1,k,h=>by
  have hl:=DH n;rw [Cr,List.getD_eq_getElem?_getD];by_cases e:k<n
  ·rw [List.getElem?_append_left aA,<-List.getD_eq_getElem?_getD];exact PS n k e
  ·have e2:k=n:=aA
   subst e2;rw [List.getElem?_append_right aA,hl,Nat.sub_self];rfl
theorem PT{n:Nat}{x:Int}(h:x ∈ Cr n):0<=x/\x<n:=by
 obtain ⟨i,hi,e⟩:=List.mem_iff_getElem.1 h;have hl:=DH n
 have:=PS n i aA
 rw [List.getD_eq_getElem?_getD,List.getElem?_eq_getElem hi,Option.getD_some,e] at this;omega
theorem Jj{jobs:List Int}:∀(f:Nat)(l:List Int),(∀x ∈ l,x ∈ jobs)->∀r ∈ BU jobs f l,(∀x ∈ r,x ∈ jobs)/\r.length<=l.length+f
 | 0,l,h,r,hr=>by
  rw [BU,List.mem_singleton] at hr;subst hr;exact ⟨h,Nat.le_refl _⟩
 | f+1,l,h,r,hr=>by
  rw [BU,List.mem_cons] at hr;rcases hr with rfl | hr
  ·exact ⟨h,aA⟩
  ·obtain ⟨k,hk,hr⟩:=List.mem_flatMap.1 hr;split at hr
   ·cases hr
   ·have:=Jj f (l++[k]) (λx hx=>by
     rcases List.mem_append.1 hx with hx | hx
     ·exact h x hx
     ·rw [List.mem_singleton.1 hx];exact hk) r hr
    refine ⟨this.1,?_⟩;have e:=this.2;rw [List.length_append,List.length_singleton] at e;omega
theorem TB{jobs r:List Int}(h:r ∈ DO jobs):(∀x ∈ r,x ∈ jobs)/\r.length<=jobs.length:=by
 have:=Jj jobs.length [] (λx hx=>by cases hx) r h
 simpa using this
def TC(nj:Nat)(l:List Int):Prop:=(∀k,k<l.length->0<=l.getD k 0/\l.getD k 0<nj)/\l.length<=4
theorem Jk{n:Nat}{jobs r:List Int}(hj:∀x ∈ jobs,0<=x/\x<(n:Int))(hl:jobs.length<=4)(h:r ∈ DO jobs):TC n r:=by
 obtain ⟨h1,h2⟩:=TB h;exact ⟨λk hk=>hj _ (h1 _ (Br hk)),aA⟩
theorem Jl{jobs:List Int}(hj:jobs.length<=4):∀(f:Nat)(l:List Int),f<=4->(BU jobs f l).length<=5 ^ f*1
 | 0,l,_=>Nat.le_refl _
 | f+1,l,hf=>by
  have key:∀js:List Int,(js.flatMap λk=>if IO l k=true then [] else BU jobs f (l++[k])).length<=js.length*5 ^ f:=by
   intro js
   induction js with
   | nil=>simp
   | cons j js ih=>
    rw [List.flatMap_cons,List.length_append,List.length_cons,Nat.add_mul,Nat.one_mul,Nat.add_comm];refine Nat.add_le_add ih ?_;split
    ·exact Nat.zero_le _
    ·have:=Jl hj f (l++[j]) aA;omega
  rw [BU,List.length_cons];have h1:=key jobs;have h2:jobs.length*5 ^ f<=4*5 ^ f:=Nat.mul_le_mul_right _ hj;have h3:1<=5 ^ f:=Nat.one_le_pow _ _ aC;rw [Nat.pow_succ];omega
theorem HO{jobs:List Int}(hj:jobs.length<=4):(DO jobs).length<=625:=by
 have h:=Jl hj jobs.length [] hj;have h2:5 ^ jobs.length<=5 ^ 4:=Nat.pow_le_pow_right aC hj;unfold DO;omega
end Go.Ns
namespace Go.Ns
open Go.Conc
section
variable {P:Program} {M:Type} {F:MI P M} {i:Option (Co M)} {O:Nat->Value} {ds:List Deferred} {h:GH} {Q:O2 M}
theorem trI_td{id:Nat}{l:List Oper}(n:Nat)(fl:Bool)(π:List Nat)(hm:P.follows .mixedOrders=true)
  (ok:Oj l (l.take n) 0 [] (λcls=>Ok P F.N l n cls fl (dK π))=true) (x:TD (F.env i) l n fl h ds (λ_ _ _=>True) (λσ' h'=>GG F l.toArray (l.drop n) i σ' ds h' Q) (dK π) O h):N0 F (.region id l.toArray true) i O ds h Q:=by
 obtain ⟨cls,h1⟩:=Hf ok;intro b k cs L t hb hr hl hs hq;exact Xp (E:=F.env i) n cls fl (dK π) hm (λ_ _ _ _ _ y=>y) trivial h1 x hb hr hs λσ' h' f t' ht'=>f n b k cs L t' (λj=>aD) hb hr hl ht' hq
def I4(P:Program):Frame:={ (default:Frame) with fn:=P.funcs.size,defers:=[],mode:=.panicking [goexitEntry] }
theorem quit_bot:QuitsIn P 1 (G (I4 P) []):=.inr ⟨rfl,{ G (I4 P) [] with status:=.finished },λw=>by
 show unwind P false (I4 P) [] none w=_;have hcat:(I4 P).catches P=false:=by
  unfold Frame.catches
  have:P.funcs[(I4 P).fn]? =none:=Array.getElem?_eq_none (Nat.le_refl _)
  rw [this];rfl
 have hd:(I4 P).defers=[]:=rfl;have hmd:(I4 P).mode=.panicking [goexitEntry]:=rfl;unfold unwind;simp only [hd,hmd,hcat]
 rfl,rfl⟩
theorem UT{fn:Func}{f:FuncId}{args:Array Value}{t:Array Value}{ops:Array Oper}(hf:P.funcs[f]? =some fn)(hres:fn.results=#[]):QuitsIn P 4 (G (Cg (Frame.enter P f args .deferred) t [] [.inRegion ops []]) [I4 P]):=by
 refine .inr ⟨rfl,G (Cg (Frame.enter P f args .deferred) t [] []) [I4 P],λw=>by rw [A7];simp [stepG.exec,Cg,G],?_⟩;refine .inr ⟨rfl,G (EV (Frame.enter P f args .deferred) t [] []) [I4 P],λw=>by rw [A7];simp [stepG.exec,Cg,EV,G,Frame.enter],?_⟩;refine .inr ⟨rfl,G (I4 P) [],λw=>?_,quit_bot⟩;show unwind P false (EV (Frame.enter P f args .deferred) t [] []) [I4 P] none w=_;have hfn:(EV (Frame.enter P f args .deferred) t [] []).fn=f:=rfl;have hk:(EV (Frame.enter P f args .deferred) t [] []).kind=.deferred:=rfl;have hmd:(EV (Frame.enter P f args .deferred) t [] []).mode=.returning:=rfl;have hd:(EV (Frame.enter P f args .deferred) t [] []).defers=[]:=rfl;have r1:∀t,(results fn t).runT P w #[]=(.ok (.tuple #[]) w,#[]):=λt=>by
  unfold results;rw [hres];simp only [Array.mapM_empty];rfl
 unfold unwind;simp only [hd,hmd,hfn,hf,r1,GStep.after,doReturn,hk,seen_none];rfl
def I5(F:MI P M)(R:Code)(args:Array Value)(i:Option (Co M))(O:Nat->Value)(h:GH):Prop:=∀t,BZ t F.N O->(F.wk i).K (G (Cg (Frame.enter P F.fn args .deferred) t [] [.code R]) [I4 P]) h
theorem MS{fn:Func}{c R:Code}{s:Co M}{ars cap args:Array Value}(hm:F.main=false)(hrd:F.rd=none)(ha:ars++cap=args)(hf:P.funcs[F.fn]? =some fn)(hc:AN fn=true)(hb:fn.body=some (.seq c R))(hN:F.N=fn.ntmps)(hsz:args.size<=fn.ntmps)(hs:¬s.isDone)
  (x:N0 F c (some s) (λi=>args.getD i undef) [] h λi e O ds h=>e=.normal/\ds=[]/\I5 F R args i O h):FH P F.Rep F.W.K s false (born P { target:=.fn (.func F.fn) cap,args:=ars }) h:=by
 have hwk:∀s,(F.wk (some s)).K=EE P false (IE P F.Rep F.W.K s false):=λs=>by show EE P F.main (IE P F.Rep F.W.K s F.main)=_;rw [hm]
 rw [Gp hs];refine LA _ _ _ _ rfl λw f=>⟨G (Frame.enter P F.fn args .deferred) [I4 P],w,#[],h,?_,Bj.refl f,?_⟩
 ·subst ha;have hi:(invoke (.fn (.func F.fn) cap) ars).runT P w #[]=(.ok (.enter F.fn (ars++cap)) w,#[]):=Sy hf hc w;show callDeferred P (I4 P) [] none { target:=.fn (.func F.fn) cap,args:=ars } w=_;unfold callDeferred;rw [if_neg aD];simp only [hi,seen_none];rfl
 have e0:Frame.enter P F.fn args .deferred=Cg (Frame.enter P F.fn args .deferred) (args++Array.replicate (fn.ntmps-args.size) undef) [] [.code (.seq c R)]:=by simp [Frame.enter,Cg,hf,hb]
 rw [e0,<-hwk s];refine Wk.go (Cg (Frame.enter P F.fn args .deferred) (args++Array.replicate (fn.ntmps-args.size) undef) [] (.code c ::.code R ::[])) (λw=>by rw [A7];simp [stepG.exec,Cg,G]) ?_;refine x (Frame.enter P F.fn args .deferred) [.code R] [I4 P] (λ_ _ _ _ _=>False) _ rfl hrd.symm (λi=>⟨λ_ _ _ q=>q.elim,λ_ _ _ _ q=>q.elim,λ_ _ _ _ _ _ q=>q.elim⟩) ⟨by rw [hN];simp;omega,λi=>?_⟩ ?_
 ·by_cases hi:i<args.size
  ·simp [Array.getD_eq_getD_getElem?,Array.getElem?_append_left hi]
  ·simp only [Array.getD_eq_getD_getElem?];rw [Array.getElem?_append_right aA,Array.getElem?_eq_none (show args.size<=i by omega),Array.getElem?_replicate];split <;> rfl
 ·rintro i e O ds h' ⟨rfl,rfl,z⟩ t' ht';exact z t' ht'
theorem Y3{fn:Func}{id:Nat}{o1 o2:Oper}{args:Array Value}{c:Nat}{m:M}{v z:Value}{hm:GH}{h1:GH}(hmn:F.main=false)(hrd:F.rd=none)(hf:P.funcs[F.fn]? =some fn)(hres:fn.results=#[])
  (hg1:o1.guard=none) (hd1:Cy o1.dst F.N=true) (hg2:o2.guard=none) (hdf1:C0 o1.op=false) (hdf:C0 o2.op=false) (hd2:Cy o2.dst F.N=true)
  (x:BV (F.env (some (.send c m .done))) o1 O [] h λσ' ds' h'=>ds'=[]/\(∀w,(execOp (AP σ') o2).runT P w #[]=(.ok (.comm #[scase c v z] true .send) w,#[]))/\GH.Split h' h1 hm/\F.Rep c m v hm) :
  I5 F (.region id [o1,o2].toArray false) args (some (.send c m .done)) O h:=by
 intro t hs;refine Wk.go (Cg (Frame.enter P F.fn args .deferred) t [] (.inRegion [o1,o2].toArray [0,1] ::[])) (λw=>by rw [A7];simp [stepG.exec,Cg,G,List.range_eq_range',Array.range];rfl) ?_;refine J1 (E:=F.env (some (.send c m .done))) (o:=o1) (rest:=[1]) rfl (by simp [Region.wanted,hg1]) (.inr hdf1) hd1 hs x ?_;rintro σ' ds' h' ⟨rfl,hr,hsp,hrep⟩ t' ht';refine EE.stop ⟨_,[I4 P],v,z,hm,h1,rfl,⟨λw fw=>?_,hsp,hrep,4,?_⟩⟩
 ·rw [hmn];exact Sw ht' rfl (by simp [Region.wanted,hg2]) (.inr hdf) (hr w)
 ·rw [C1 (ops:=[o1,o2].toArray) (i:=1) (o:=o2) rfl];exact UT hf hres
theorem Y4{dst:Option Nat}{x:Operand}{tys:Array TypeId}{ty:TypeId}{pos:String}{af:Array Edge}{gd:Option (Nat×Bool)}{ch s r:Nat}{w:World}(hx:AP O x=.chan (some ch))(hw:w.heap[ch]? =some (.chan 0 #[] false s r false)) :
  (execOp (AP O) ⟨dst,.call ⟨.builtin .close,#[x],tys⟩,ty,pos,af,gd⟩).runT P w #[]=(.ok (.value (.tuple #[])) { w with heap:=w.heap.setIfInBounds ch (.chan 0 #[] true s r false) },#[⟨.obj ch,false,true⟩,⟨.obj ch,true,true⟩]):=by
 have q:execOp (AP O) ⟨dst,.call ⟨.builtin .close,#[x],tys⟩,ty,pos,af,gd⟩=builtin .close tys ty (#[x].map fun | .const _=>true | _=>false) (#[x].map (AP O)):=by
  show (resolve (AP O) _ ty).bind _=_;unfold resolve;rfl
 have e:(#[x].map (AP O))=#[Value.chan (some ch)]:=by simp [hx]
 rw [q,e];show Sem.runT P (.getObj ch λo=>_) w #[]=_;unfold Sem.runT;rw [hw];show Sem.runT P (.setObj ch (.chan 0 #[] true s r false) _) w _=_;unfold Sem.runT;rw [hw];rfl
theorem PU{fn:Func}{id:Nat}{o1:Oper}{dst:Option Nat}{xo:Operand}{tys:Array TypeId}{ty:TypeId}{pos:String}{af:Array Edge}{args:Array Value}{c:Nat}(hmn:F.main=false)(hf:P.funcs[F.fn]? =some fn)(hres:fn.results=#[])
  (hg1:o1.guard=none) (hd1:Cy o1.dst F.N=true) (hdf1:C0 o1.op=false)
  (x:BV (F.env (some (.close c .done))) o1 O [] h λσ' ds' _=>ds'=[]/\AP σ' xo=.chan (some c)) :
  I5 F (.region id [o1,⟨dst,.call ⟨.builtin .close,#[xo],tys⟩,ty,pos,af,none⟩].toArray false) args (some (.close c .done)) O h:=by
 intro t hs;refine Wk.go (Cg (Frame.enter P F.fn args .deferred) t [] (.inRegion [o1,⟨dst,.call ⟨.builtin .close,#[xo],tys⟩,ty,pos,af,none⟩].toArray [0,1] ::[])) (λw=>by rw [A7];simp [stepG.exec,Cg,G,List.range_eq_range',Array.range];rfl) ?_;refine J1 (E:=F.env (some (.close c .done))) (o:=o1) (rest:=[1]) rfl (by simp [Region.wanted,hg1]) (.inr hdf1) hd1 hs x ?_;rintro σ' ds' h' ⟨rfl,hx⟩ t' ht';refine EE.stop ⟨_,[I4 P],Cg (Frame.enter P F.fn args .deferred) (VN t' dst (.tuple #[])) [] [.inRegion [o1,⟨dst,.call ⟨.builtin .close,#[xo],tys⟩,ty,pos,af,none⟩].toArray []],[I4 P],rfl,⟨λw s r fw hw=>?_,rfl,4,UT hf hres⟩⟩;rw [hmn,O3 ht' (ops:=[o1,⟨dst,.call ⟨.builtin .close,#[xo],tys⟩,ty,pos,af,none⟩].toArray) (n:=1) (o:=⟨dst,.call ⟨.builtin .close,#[xo],tys⟩,ty,pos,af,none⟩) rfl (by simp [Region.wanted]) (.inr rfl)];simp only [stepG.apply,Y4 hx hw,if_true];have hk:((Cg (Frame.enter P F.fn args .deferred) t' [] [.inRegion [o1,⟨dst,.call ⟨.builtin .close,#[xo],tys⟩,ty,pos,af,none⟩].toArray [1]]).kind==CallKind.early)=false:=rfl;rw [C1 (ops:=[o1,⟨dst,.call ⟨.builtin .close,#[xo],tys⟩,ty,pos,af,none⟩].toArray) (i:=1) rfl];simp only [hk,Bool.false_eq_true,if_false];show GStep.go _ _ (seen P _ _++ #[])=_;rw [Vn];rfl
end
end Go.Ns
namespace Go.Ns
open Go.Conc
theorem B1.at{h:GH}{t:TypeId}{l:List Sl}(a:B1 h t l){x:Sl}(hx:x ∈ l):Dm h t x.1 x.2:=by
 obtain ⟨i,hi,e⟩:=List.mem_iff_getElem.1 hx;have z:=a i;rw [List.getD_eq_getElem?_getD,List.getElem?_eq_getElem hi] at z;have z2:Dm h t l[i].1 l[i].2:=z;rw [<-e];exact z2
theorem B1.of{h:GH}{t:TypeId}{l:List Sl}(a:∀x ∈ l,Dm h t x.1 x.2):B1 h t l:=λk=>by
 by_cases hk:k<l.length
 ·exact a _ (Br hk)
 ·rw [CF aA];exact Dm.nil _ _
theorem B1.grown{V:Type}{h h' h0:GH}{v v':Value}{t t':TypeId}{n:Nat}{enc:V->Array Value}{ys:List V}(g:GK h h' v v')(o:AT h0 h v t' n enc ys)(ne:t'≠t){l:List Sl}(x:B1 h t l):B1 h' t l:=λk=>(x k).grown g o ne
theorem B1.store{h h':GH}{t t':TypeId}{l:List Sl}{r:Nat}{p:Bool}{c:Array Value}{f:Nat×Nat}(x:B1 h t l)(hr:h r=some (p,.cells c t' f))(ne:t'≠t)(ho:∀b,b≠r->h' b=h b):B1 h' t l:=λk=>(x k).store hr ne ho
theorem Dm.storeL{h h':GH}{t:TypeId}{w:Value}{xs:List Int}{r:Nat}{p:Bool}{lo:Loop}(x:Dm h t w xs)(hr:h r=some (p,.loop lo))(ho:∀b,b≠r->h' b=h b):Dm h' t w xs:=
 x.same λb hb=>ho b λe=>by
  obtain ⟨p2,c2,f2,q⟩:=x.2 b hb;rw [e,hr] at q;cases q
def Ra(hB:GH)(r:Nat)(T t t0:TypeId)(F:List Int->Bool)(pre:List (List Int))(Y:Nat->Prop)(h:GH):Prop:=
 ∃w l',h r=some (true,.cells #[w] T (0,0))/\AT hB h w t 1 JP l'/\BC w r/\hB r=none/\A3 l'=pre.filter F/\B1 h t0 l'/\∀b,Y b↔b=r\/CY w=some b\/∃x ∈ l',CY x.1=some b
section
variable {hB h h' ha hb:GH} {r:Nat} {T t t0:TypeId} {F:List Int->Bool} {pre:List (List Int)} {p:List Int} {w w' v:Value} {Y:Nat->Prop} {l':List Sl}
theorem PW(hB:GH)(r:Nat)(T t t0:TypeId)(F:List Int->Bool):GF hB (Ra hB r T t t0 F):=by
 refine ⟨?_,?_⟩
 ·rintro pre Y h b ⟨w,l',h1,h2,h3,h0,h5,h6,h4⟩ hb;rcases (h4 b).1 hb with rfl | h7 | ⟨x,hx,h7⟩
  ·exact ⟨_,_,h1,rfl⟩
  ·obtain ⟨c,hc⟩:=h2.cellsAt b h7;exact ⟨_,_,hc,rfl⟩
  ·obtain ⟨q,c,f,hc⟩:=(h6.at hx).2 b h7;exact ⟨_,_,hc,rfl⟩
 ·rintro pre Y h h' ⟨w,l',h1,h2,h3,h0,h5,h6,h4⟩ same lB;refine ⟨w,l',by rw [same r ((h4 r).2 (.inl rfl))];exact h1,h2.keep λb o hb ho=>by rw [same b ((h4 b).2 (.inr (.inl hb)))];exact ho,h3,h0,h5,.of λx hx=>(h6.at hx).same λb hb=>same b ((h4 b).2 (.inr (.inr ⟨x,hx,hb⟩))),h4⟩
theorem Nd(x:h r=some (true,.cells #[.slice none 0 0] T (0,0)))(h0:hB r=none):Ra hB r T t t0 F [] (λb=>b=r) h:=
 ⟨_,[],x,AT.nil _ _ _ _ _,BC.nil,h0,rfl,B1.nil _ _,λ_=>⟨.inl,λq=>q.elim id λe=>e.elim (λe=>by cases e) λ⟨_,e,_⟩=>by cases e⟩⟩
theorem Rb(hY:∀b,Y b↔b=r\/CY w=some b\/∃x ∈ l',CY x.1=some b)(g:GK ha hb w w')(hn:∀q,ha q=none->h q=none)(x:h' r=some (true,.cells #[w'] T (0,0)))(o:AT hB h' w' t 1 JP (l'++[(v,p)]))(f:BC w' r)(h0:hB r=none)
  (hl:A3 l'=pre.filter F) (hp:F p=true) (ta:B1 h' t0 (l'++[(v,p)])):∃Y',(∀b,Y' b->(Y b\/CY v=some b)\/h b=none)/\Ra hB r T t t0 F (pre++[p]) Y' h':=by
 refine ⟨λb=>b=r\/CY w'=some b\/∃x ∈ l'++[(v,p)],CY x.1=some b,?_,w',_,x,o,f,h0,?_,ta,λ_=>Iff.rfl⟩
 ·rintro b (rfl | hb | ⟨y,hy,hb⟩)
  ·exact .inl (.inl ((hY _).2 (.inl rfl)))
  ·rcases g.2 with e | ⟨⟨q,e1,e2⟩,_⟩
   ·exact .inl (.inl ((hY _).2 (.inr (.inl (by rw [<-e];exact hb)))))
   ·rw [e1] at hb;cases hb;exact .inr (hn _ e2)
  ·rcases List.mem_append.1 hy with hy | hy
   ·exact .inl (.inl ((hY _).2 (.inr (.inr ⟨y,hy,hb⟩))))
   ·rw [List.mem_singleton.1 hy] at hb;exact .inl (.inr hb)
 ·rw [MR,hl,List.filter_append];simp [A3,hp]
theorem V9(hY:∀b,Y b↔b=r\/CY w=some b\/∃x ∈ l',CY x.1=some b)(x:h' r=some (true,.cells #[w] T (0,0)))(o:AT hB h' w t 1 JP l')(f:BC w r)(h0:hB r=none)(hl:A3 l'=pre.filter F)(hp:F p=false)(ta:B1 h' t0 l') :
  ∃Y',(∀b,Y' b->(Y b\/CY v=some b)\/h b=none)/\Ra hB r T t t0 F (pre++[p]) Y' h':=
 ⟨Y,λ_ q=>.inl (.inl q),w,l',x,o,f,h0,by rw [hl,List.filter_append];simp [hp],ta,hY⟩
end
def tVal:Di->Value
 | .job i=>.int .i64 i
 | .res i b=>.agg #[.int .i64 i,.bool b]
 | .tick=>.bool true
def tOK(n:Nat):Di->Prop
 | .job i=>i<n
 | .res i _=>i<n
 | .tick=>True
def N2(n:Nat):Nat->Di->Value->GH->Prop:=λ_ m v hm=>v=tVal m/\tOK n m/\hm=λ_=>none
theorem GH.split_none(h:GH):GH.Split h h (λ_=>none) where
 left:=λb p o hb=>⟨p,hb,id⟩
 right:=λb p o hb=>by cases hb
 one:=λ_ _ _ _ hb=>by cases hb
 two:=λ_ _ _ hb _=>by cases hb
section
variable {cj co cd n k:Nat} {ok:Nat->Bool}
theorem Y5(h:k<n):some (HB cj (n-k) k)=some (.send cj (.job k) (HB cj (n-(k+1)) (k+1))):=by
 rw [show n-k=(n-(k+1))+1 by omega];rfl
theorem feed_end(h:n<=k):some (HB cj (n-k) k)=some (.close cj .done):=by rw [show n-k=0 by omega];rfl
theorem UU:∀m k,¬(HB cj m k).isDone
 | 0,_=>id
 | _+1,_=>id
theorem UV:∀m,¬(FM cj co cd ok m).isDone
 | 0=>id
 | _+1=>id
theorem Y6{m:Nat}:∀o,¬(UC co cd ok (FM cj co cd ok m) o).isDone
 | none=>id
 | some (.job _)=>id
 | some (.res _ _)=>id
 | some .tick=>id
theorem Rc:∀t,¬(D7 co cd t).isDone
 | 0=>id
 | _+1=>id
theorem WA{t:Nat}:∀o,¬(MJ (D7 co cd t) o).isDone
 | none=>id
 | some (.job _)=>id
 | some (.res _ _)=>id
 | some .tick=>Rc t
theorem UW:∀m R,¬(FN co ok m R).isDone
 | 0,_=>id
 | _+1,_=>id
theorem X6{c:Prop}[Decidable c]{a b:Co Di}(ha:¬a.isDone)(hb:¬b.isDone):¬(if c then a else b).isDone:=by split <;> assumption
theorem Y7{m:Nat}{R:List Nat}:∀o,¬(H2 ok R (FN co ok m) o).isDone
 | none=>X6 id id
 | some (.job _)=>id
 | some .tick=>id
 | some (.res _ _)=>X6 (UW _ _) id
theorem UX:∀m,¬(Hl cj co cd n ok m).isDone
 | 0=>id
 | _+1=>id
theorem WB(h:k<3):some (D7 co cd (3-k))=some (.recv cd (MJ (D7 co cd (3-(k+1))))):=by
 rw [show 3-k=(3-(k+1))+1 by omega];rfl
theorem Y8(h:3<=k):some (D7 co cd (3-k))=some (.close co .done):=by rw [show 3-k=0 by omega];rfl
theorem Y9(h:k<3):some (Hl cj co cd n ok (3-k))=some (.spawn (FM cj co cd ok (n+1)) (Hl cj co cd n ok (3-(k+1)))):=by
 rw [show 3-k=(3-(k+1))+1 by omega];rfl
theorem crew_end(h:3<=k):some (Hl cj co cd n ok (3-k))=some (.spawn (D7 co cd 3) (FN co ok (n+1) (List.range n))):=by rw [show 3-k=0 by omega];rfl
end
def TE(n:Nat)(ok:Nat->Bool)(R:List Nat):List Bool:=(List.range n).map λi=>if i ∈ R then false else ok i
theorem X7(n:Nat)(ok:Nat->Bool)(R:List Nat):(TE n ok R).length=n:=by unfold TE;rw [List.length_map,List.length_range]
theorem ZA(n:Nat)(ok:Nat->Bool):TE n ok (List.range n)=List.replicate n false:=by
 unfold TE;refine List.ext_getElem aD λi h1 h2=>?_
 have:i<n:=by simpa using h1
 simp [this]
theorem isL_put{n i:Nat}{ok:Nat->Bool}{R:List Nat}(hR:R.Nodup):(TE n ok R).set i (ok i)=TE n ok (R.erase i):=by
 unfold TE;refine List.ext_getElem aD λj h1 h2=>?_;rw [List.getElem_set];simp only [List.getElem_map,List.getElem_range,List.Nodup.mem_erase_iff hR];by_cases e:i=j
 ·subst e;simp
 ·rw [if_neg e]
  have:j≠i:=λq=>e q.symm
  simp [this]
theorem X8{n:Nat}{ok:Nat->Bool}{k:Nat}(hk:k<n):(TE n ok []).getD k false=ok k:=by
 unfold TE;rw [List.getD_eq_getElem?_getD,List.getElem?_map,List.getElem?_range hk];simp
def I6(fl:List Sl)(ok:Nat->Bool):Nat->List Sl
 | 0=>[]
 | k+1=>if ok k=true then I6 fl ok k++[fl.getD k Sl.z] else I6 fl ok k
theorem selS_t{fl:List Sl}{ok:Nat->Bool}{k:Nat}(h:ok k=true):I6 fl ok (k+1)=I6 fl ok k++[fl.getD k Sl.z]:=if_pos h
theorem selS_f{fl:List Sl}{ok:Nat->Bool}{k:Nat}(h:ok k=false):I6 fl ok (k+1)=I6 fl ok k:=if_neg (by rw [h];simp)
theorem UY(fl:List Sl)(ok:Nat->Bool):∀k,(I6 fl ok k).length<=k
 | 0=>Nat.le_refl _
 | k+1=>by
  have:=UY fl ok k
  unfold I6;split
  ·rw [List.length_append,List.length_singleton];omega
  ·omega
theorem PX{fl:List Sl}{G:List Int->Bool}:∀k,k<=fl.length->A3 (I6 fl (λi=>G (fl.getD i Sl.z).2) k)=((A3 fl).take k).filter G
 | 0,_=>rfl
 | k+1,h=>by
  have ih:=PX (fl:=fl) (G:=G) k aA;have e:(A3 fl).take (k+1)=(A3 fl).take k++[(fl.getD k Sl.z).2]:=by rw [ER [] (by rw [CA];omega),Fb (l:=fl) aA]
  unfold I6;rw [e,List.filter_append];by_cases q:G (fl.getD k Sl.z).2=true
  ·rw [if_pos q,MR,ih,List.filter_cons_of_pos q];rfl
  ·rw [if_neg q,ih,List.filter_cons_of_neg q,List.filter_nil,List.append_nil]
end Go.Ns
namespace Go.Ns
open Go.Conc
section
variable {P:Program} {M:Type} {F:MI P M} {i i':Option (Co M)} {O:Nat->Value} {ds:List Deferred} {h:GH} {Q:O2 M}
theorem trI_ix{c:Code}(e:i=i')(x:N0 F c i' O ds h Q):N0 F c i O ds h Q:=e▸x
theorem I7{ops:Array Oper}{l:List Oper}(e:i=i')(x:GG F ops l i' O ds h Q):GG F ops l i O ds h Q:=e▸x
theorem ZB{c:Code}{Q:Post}(x:N0 F c none O ds h λi e O ds h=>i=none/\Q e O ds h):Tr ⟨F.W,F.fn,F.rd,F.N⟩ c O ds h Q:=by
 intro b k cs L t hb hr hl hs hc;refine x b k cs (λi=>match i with | none=>L | some _=>λ_ _ _ _=>False) t hb hr (λi=>?_) hs λi e σ' ds' h' q t' ht'=>?_
 ·cases i with
  | none=>exact hl
  | some s=>exact ⟨λ_ _ _ x=>x.elim,λ_ _ _ _ x=>x.elim,λ_ _ _ _ _ _ x=>x.elim⟩
 ·obtain ⟨rfl,q⟩:=q;exact hc e σ' ds' h' q t' ht'
theorem trI_end{c:Code}{Q:Post}(x:Tr (F.env none) c O ds h Q):N0 F c none O ds h λi e O ds h=>i=none/\Q e O ds h:=
 Ib (J0 (λ_ _ _ _ q=>⟨rfl,q⟩) x)
variable {dst:Option Nat} {ty:TypeId} {pos:String} {af:Array Edge} {gd:Option (Nat×Bool)}
theorem PY{a x:Operand}{c:Nat}{v:Value}(ha:AP O a=.chan (some c))(hx:AP O x=v)(w:World):(execOp (AP O) ⟨dst,.send a x,ty,pos,af,gd⟩).runT P w #[]=(.ok (.comm #[scase c v (.tuple #[])] true .send) w,#[]):=by
 subst hx;show (Result.ok (Next.comm #[{ chan:=AP O a,send:=some (AP O x),zero:=.tuple #[] }] true .send) w,#[])=_;rw [ha];rfl
theorem run_recv{a:Operand}{c:Nat}{t e:TypeId}{d:ChanDir}{ok:Bool}{z:Value}{inf:TypeInfo}(ht:P.underlying t=some (.chan d e))(hi:P.info? e=some inf)(hz:inf.zero=some z)(ha:AP O a=.chan (some c))(w:World) :
  (execOp (AP O) ⟨dst,.recv t a ok,ty,pos,af,gd⟩).runT P w #[]=(.ok (.comm #[rcase c z] true (.recv ok)) w,#[]):=by
 have h1:(zeroValue e).run P w=.ok z w:=by
  unfold zeroValue typeInfo;simp only [Sem.run_bind,program,hi];simp [Sem.run,hi,hz]
 have h2:(underlying t).run P w=.ok (.chan d e) w:=run_underlying ht w;rw [Sem.runT_eq];unfold execOp;simp [h1,h2,ha,rcase]
theorem MT{a:Operand}{c:Nat}{t e:TypeId}{d:ChanDir}{ok:Bool}{z:Value}(ht:P.underlying t=some (.chan d e))(hz:(P.info? e).map (·.zero)=some (some z))(ha:AP O a=.chan (some c))(w:World) :
  (execOp (AP O) ⟨dst,.recv t a ok,ty,pos,af,gd⟩).runT P w #[]=(.ok (.comm #[rcase c z] true (.recv ok)) w,#[]):=by
 obtain ⟨inf,hi,h2⟩:=Option.map_eq_some_iff.1 hz;exact run_recv ht hi h2 ha w
theorem WC{x:Operand}{f:Fn}{cap:Array Value}{tys:Array TypeId}(hx:AP O x=.func f #[] cap)(w:World):(execOp (AP O) ⟨dst,.go ⟨.value x,#[],tys⟩,ty,pos,af,gd⟩).runT P w #[]=(.ok (.spawn { target:=.fn f cap,args:=#[] }) w,#[]):=by
 have e:resolve (AP O) ⟨.value x,#[],tys⟩ ty=(pure { target:=.fn f cap,args:=#[] }:Sem Deferred):=by
  unfold resolve;simp only [hx,Deferred.ofValue];simp
 unfold execOp;simp only [e];rfl
variable {E:GM P} {T:(Nat->Value)->List Deferred->GH->Prop}
theorem Jm{t e:TypeId}{d:ChanDir}{n:Operand}(ht:P.underlying t=some (.chan d e))(hi0:(P.info? e).isSome=true)(hn:AP O n=.int .i64 0)
  (k:∀r h',h r=none->h.Le h'->h' r=some (true,.chan 0 #[] false 0 0 false)->(∀b,b≠r->h' b=h b)->T (putS O dst (.chan (some r))) ds h'):BV E ⟨dst,.makeChan t n,ty,pos,af,gd⟩ O ds h T:=by
 unfold BV execOp;refine Fv ?_;unfold Instr.makeChan;rw [hn];refine AF _ _ (Aw ?_);refine AF _ _ (An ht ?_);simp only [];obtain ⟨inf,hi⟩:=Option.isSome_iff_exists.1 hi0;refine AF _ _ (Cm hi ?_);rw [if_neg (by simp [IntKind.max];decide)];refine AF _ _ ?_;exact λr hr=>k r _ hr (GH.Le.new hr _ _) (GH.set_same _ _ _ _) λb hb=>GH.set_ne _ _ _ hb
end
section
variable {P:Program} {F:MI P Di} {i i':Option (Co Di)} {O:Nat->Value} {ds:List Deferred} {h:GH} {Q:O2 Di} {ops:Array Oper} {o:Oper} {l:List Oper} {n:Nat} {cj co cd c m k:Nat} {ok:Nat->Bool} {R:List Nat} {z:Value}
theorem I5.ix{X:Code}{args:Array Value}(e:i=i')(x:I5 F X args i' O h):I5 F X args i O h:=e▸x
theorem HP:GG F ops l (some .never) O ds h Q:=λ_ _ _ _ _ _ _ _ _ _ _ _=>EE.stop rfl
theorem GH.join_none(h:GH):h.join (λ_=>none)=h:=by
 funext b;unfold GH.join;cases h b <;> rfl
theorem UZ{s:Di}{nx:Co Di}(hR:F.Rep=N2 n)(hg:o.guard=none)(hdf:C0 o.op=false)(hd:Cy o.dst F.N=true)(hr:∀w,(execOp (AP O) o).runT P w #[]=(.ok (.comm #[scase c (tVal s) z] true .send) w,#[]))(hs:tOK n s)(hnx:¬nx.isDone)
  (x:GG F ops l (some nx) (putS O o.dst undef) ds h Q):GG F ops (o ::l) (some (.send c s nx)) O ds h Q:=
 Yg hg hdf hd hr (GH.split_none h) (by rw [hR];exact ⟨rfl,hs,rfl⟩) hnx x
theorem MU{f:Option Di->Co Di}{r:Bool}(hR:F.Rep=N2 n)(hg:o.guard=none)(hdf:C0 o.op=false)(hd:Cy o.dst F.N=true)(hr:∀w,(execOp (AP O) o).runT P w #[]=(.ok (.comm #[rcase c z] true (.recv r)) w,#[]))(hnx:∀o,¬(f o).isDone)
  (x:∀s,tOK n s->GG F ops l (some (f (some s))) (putS O o.dst (recvd r (tVal s) true)) ds h Q) (y:GG F ops l (some (f none)) (putS O o.dst (recvd r z false)) ds h Q):GG F ops (o ::l) (some (.recv c f)) O ds h Q:=
 Yh hg hdf hd hr hnx (λs v hm hrep _=>by
  rw [hR] at hrep;obtain ⟨rfl,h2,rfl⟩:=hrep;rw [GH.join_none];exact x s h2) y
theorem Ua(hR:F.Rep=N2 n)(hg:o.guard=none)(hdf:C0 o.op=false)(hd:Cy o.dst F.N=true)(hr:∀w,(execOp (AP O) o).runT P w #[]=(.ok (.comm #[rcase cj z] true (.recv true)) w,#[]))
  (x:∀i,i<n->GG F ops l (some (.send co (.res i (ok i)) (FM cj co cd ok m))) (putS O o.dst (.tuple #[.int .i64 i,.bool true])) ds h Q) (y:GG F ops l (some (.send cd .tick .done)) (putS O o.dst (.tuple #[z,.bool false])) ds h Q) :
  GG F ops (o ::l) (some (FM cj co cd ok (m+1))) O ds h Q:=
 MU (f:=UC co cd ok (FM cj co cd ok m)) hR hg hdf hd hr Y6 (λs hs=>by
  cases s with
  | job i=>exact x i hs
  | res i b=>exact HP
  | tick=>exact HP) y
theorem Ub(hR:F.Rep=N2 n)(hg:o.guard=none)(hdf:C0 o.op=false)(hd:Cy o.dst F.N=true)(hr:∀w,(execOp (AP O) o).runT P w #[]=(.ok (.comm #[rcase cd z] true (.recv false)) w,#[]))(hk:k<3)
  (x:GG F ops l (some (D7 co cd (3-(k+1)))) (putS O o.dst (.bool true)) ds h Q):GG F ops (o ::l) (some (D7 co cd (3-k))) O ds h Q:=
 I7 (WB hk) (MU (f:=MJ (D7 co cd (3-(k+1)))) hR hg hdf hd hr WA (λs _=>by
  cases s with
  | job i=>exact HP
  | res i b=>exact HP
  | tick=>exact x) HP)
theorem ZC(hR:F.Rep=N2 n)(hg:o.guard=none)(hdf:C0 o.op=false)(hd:Cy o.dst F.N=true)(hr:∀w,(execOp (AP O) o).runT P w #[]=(.ok (.comm #[rcase co z] true (.recv true)) w,#[]))
  (x:∀i,i<n->i ∈ R->GG F ops l (some (FN co ok m (R.erase i))) (putS O o.dst (.tuple #[.agg #[.int .i64 i,.bool (ok i)],.bool true])) ds h Q) (y:R=[]->GG F ops l (some .stop) (putS O o.dst (.tuple #[z,.bool false])) ds h Q) :
  GG F ops (o ::l) (some (FN co ok (m+1) R)) O ds h Q:=
 MU (f:=H2 ok R (FN co ok m)) hR hg hdf hd hr Y7 (λs hs=>by
  cases s with
  | job i=>exact HP
  | tick=>exact HP
  | res i b=>
   by_cases e:i ∈ R/\b=ok i
   ·obtain ⟨e1,rfl⟩:=e;exact I7 (show some (H2 ok R (FN co ok m) (some (.res i (ok i))))=some (FN co ok m (R.erase i)) by unfold H2;simp [e1]) (x i hs e1)
   ·exact I7 (show some (H2 ok R (FN co ok m) (some (.res i b)))=some .never by show some (if i ∈ R/\b=ok i then _ else _)=_;rw [if_neg e]) HP) (by
  by_cases e:R=[]
  ·exact I7 (show some (H2 ok R (FN co ok m) none)=some .stop by unfold H2;rw [if_pos e]) (y e)
  ·exact I7 (show some (H2 ok R (FN co ok m) none)=some .never by unfold H2;rw [if_neg e]) HP)
end
theorem At.flags{h h':GH}{js:List AM}(s:h.Same h')(x:At h js):At h' js:=λk=>(x k).flags s
theorem AW.flags{h h':GH}{ns:List AK}(s:h.Same h')(x:AW h ns):AW h' ns:=λk=>(x k).flags s
theorem HA.flags{h h':GH}{l:List Sl}(s:h.Same h')(a:HA h l):HA h' l:=λk=>(a k).flags s
theorem D9.flags{h h':GH}{r np:Nat}{ws:List AE}{pq:List AG}(s:h.Same h')(x:D9 h r np ws pq):D9 h' r np ws pq:=by
 obtain ⟨pm,M,⟨es,clk,hb,hl⟩,hM⟩:=x;obtain ⟨p',hb'⟩:=s _ _ _ hb;exact ⟨p',M,⟨es,clk,hb',hl⟩,hM⟩
theorem tr_lays5{P:Program}{E:GM P}{id:Nat}{a0 a1 a2 a3 a4:Oper}{rest:List Oper}{d0 d1 d2 d3:Nat}{O:Nat->Value}{ds:List Deferred}{h:GH}{Q:Post}(o0 o1 o2 o3:Obj)(o4:Nat->Obj)(v0 v1 v2 v3:Nat->Value)(hm:P.follows .mixedOrders=true)
  (ok:Fw E.N (a0 ::a1 ::a2 ::a3 ::a4 ::rest) 5 [[],[],[],[],[0,2,3]]=true)
  (g0:a0.guard=none) (g1:a1.guard=none) (g2:a2.guard=none) (g3:a3.guard=none) (g4:a4.guard=none) (e0:a0.dst=some d0) (e1:a1.dst=some d1) (e2:a2.dst=some d2) (e3:a3.dst=some d3)
  (l0:∀σ' h',BV E a0 σ' ds h' λσ'' ds'' h''=>ds''=ds/\∃r,σ''=putS σ' a0.dst (v0 r)/\h' r=none/\h'.Le h''/\h'' r=some (true,o0)) (l1:∀σ' h',BV E a1 σ' ds h' λσ'' ds'' h''=>ds''=ds/\∃r,σ''=putS σ' a1.dst (v1 r)/\h' r=none/\h'.Le h''/\h'' r=some (true,o1))
  (l2:∀σ' h',BV E a2 σ' ds h' λσ'' ds'' h''=>ds''=ds/\∃r,σ''=putS σ' a2.dst (v2 r)/\h' r=none/\h'.Le h''/\h'' r=some (true,o2)) (l3:∀σ' h',BV E a3 σ' ds h' λσ'' ds'' h''=>ds''=ds/\∃r,σ''=putS σ' a3.dst (v3 r)/\h' r=none/\h'.Le h''/\h'' r=some (true,o3))
  (l4:∀r0 r2 σ' h',σ' d0=v0 r0->σ' d2=v2 r2->h' r2=some (true,o2)->BV E a4 σ' ds h' λσ'' ds'' h''=>ds''=ds/\σ''=σ'/\h'' r2=some (true,o4 r0)/\∀b,b≠r2->h'' b=h' b)
  (fin:∀(r0 r1 r2 r3:Nat) σ' h',h.Le h'->(h r0=none/\h' r0=some (true,o0)/\σ' d0=v0 r0)->(h r1=none/\h' r1=some (true,o1)/\σ' d1=v1 r1)->(h r2=none/\h' r2=some (true,o4 r0)/\σ' d2=v2 r2)->(h r3=none/\h' r3=some (true,o3)/\σ' d3=v3 r3)->
   (r0≠r1/\r0≠r2/\r0≠r3/\r1≠r2/\r1≠r3/\r2≠r3)->(∀t,(DV (a0 ::a1 ::a2 ::a3 ::a4 ::rest) 5).contains t=false->σ' t=O t)->DL E (a0 ::a1 ::a2 ::a3 ::a4 ::rest).toArray rest σ' ds h' Q):Tr E (.region id (a0 ::a1 ::a2 ::a3 ::a4 ::rest).toArray true) O ds h Q:=by
 let l:=a0 ::a1 ::a2 ::a3 ::a4 ::rest;let obj:Nat->Obj:=λi=>match i with | 0=>o0 | 1=>o1 | 2=>o2 | _=>o3
 let val:Nat->Nat->Value:=λi=>match i with | 0=>v0 | 1=>v1 | 2=>v2 | _=>v3
 have lay:∀i o,i<4->l[i]? =some o->∀σ' h',BV E o σ' ds h' λσ'' ds'' h''=>ds''=ds/\∃r,σ''=putS σ' o.dst (val i r)/\h' r=none/\h'.Le h''/\h'' r=some (true,obj i):=by
  intro i o hi ho σ' h';rcases i with _ | _ | _ | _ | i
  ·cases ho;exact l0 σ' h'
  ·cases ho;exact l1 σ' h'
  ·cases ho;exact l2 σ' h'
  ·cases ho;exact l3 σ' h'
  ·omega
 have nd:(DV l 5).Nodup:=by
  have:=ok
  unfold Fw at this;simp only [Bool.and_eq_true] at this;exact of_decide_eq_true this.1.2
 refine Tp 5 [[],[],[],[],[0,2,3]] (λD σ' h'=>h.Le h'/\(D 4=true->D 0=true/\D 2=true)/\∃rs:Nat->Nat,(∀i,i<4->D i=true->h (rs i)=none/\h' (rs i)=some (true,if i=2/\D 4=true then o4 (rs 0) else obj i)/\∀o d,l[i]? =some o->o.dst=some d->σ' d=val i (rs i))/\
  (∀i j,i<4->j<4->D i=true->D j=true->i≠j->rs i≠rs j)/\∀t,(DV l 5).contains t=false->σ' t=O t) hm ok ⟨GH.Le.refl _,(λe=>by cases e),λ_=>0,(λ_ _ q=>by cases q),(λ_ _ _ _ q=>by cases q),λ_ _=>rfl⟩ ?_ ?_
 ·rintro D σ' h' i o ⟨l1',hD4,rs,h1,h2,h3⟩ hi hD ho hcl _;have hgd:o.guard=none:=by
   rcases i with _ | _ | _ | _ | _ | i
   ·cases ho;exact g0
   ·cases ho;exact g1
   ·cases ho;exact g2
   ·cases ho;exact g3
   ·cases ho;exact g4
   ·omega
  refine ⟨λ_=>?_,λq=>absurd (by unfold DJ;rw [hgd];trivial) q⟩;by_cases hi4:i=4
  ·subst hi4;have c0:D 0=true:=hcl 0 aD;have c2:D 2=true:=hcl 2 aD;cases ho;obtain ⟨q1,q2,q3⟩:=h1 0 aC c0;obtain ⟨p1,p2,p3⟩:=h1 2 aC c2;rw [if_neg (λe=>by rw [hD] at e;cases e.2)] at p2;refine (l4 (rs 0) (rs 2) σ' h' (q3 a0 d0 rfl e0) (p3 a2 d2 rfl e2) p2).mono λσ'' ds'' h'' q=>?_;obtain ⟨rfl,rfl,k1,k2⟩:=q;refine ⟨rfl,λb p x hb=>?_,λ_=>⟨by rw [Bg aC];exact c0,by rw [Bg aC];exact c2⟩,rs,λj hj hDj=>?_,λa b ha hb hDa hDb hab=>?_,h3⟩
   ·rw [k2 b λe=>by subst e;rw [p1] at hb;cases hb];exact l1' b p x hb
   ·rw [Bg aA] at hDj;obtain ⟨u1,u2,u3⟩:=h1 j hj hDj;refine ⟨u1,?_,u3⟩;by_cases ej:j=2
    ·subst ej;rw [if_pos ⟨rfl,if_pos rfl⟩];exact k1
    ·rw [if_neg (λe=>ej e.1),k2 _ (h2 j 2 hj aC hDj c2 ej)];rw [if_neg (λe=>ej e.1)] at u2;exact u2
   ·rw [Bg aA] at hDa hDb;exact h2 a b ha hb hDa hDb hab
  ·have hi':i<4:=aA
   refine (lay i o hi' ho σ' h').mono λσ'' ds'' h'' q=>?_;obtain ⟨rfl,r,rfl,hr,l2',hr2⟩:=q;have h4e:G3 D i 4=D 4:=Bg (λe=>hi4 e.symm);have hne:∀j,j<4->D j=true->rs j≠r:=λj hj hDj e=>by
    have:=(h1 j hj hDj).2.1
    rw [e,hr] at this;cases this
   refine ⟨rfl,l1'.trans l2',λe=>?_,λj=>if j=i then r else rs j,λj hj hDj=>?_,λa b ha hb hDa hDb hab=>?_,λt ht=>?_⟩
   ·rw [h4e] at e;obtain ⟨c0,c2⟩:=hD4 e;exact ⟨by rw [Bg (λq=>by subst q;rw [hD] at c0;cases c0)];exact c0,by rw [Bg (λq=>by subst q;rw [hD] at c2;cases c2)];exact c2⟩
   ·by_cases e:j=i
    ·subst e;dsimp only;rw [if_pos rfl];refine ⟨l1'.nothing hr,?_,λo' d ho' hd=>?_⟩
     ·rw [if_neg (λe=>by have e2:=e.2;rw [h4e] at e2;have e3:=(hD4 e2).2;rw [<-e.1,hD] at e3;cases e3)];exact hr2
     ·obtain rfl:o'=o:=Option.some.inj (ho'.symm.trans ho);rw [hd];exact upd_same _ _ _
    ·dsimp only;rw [if_neg e];rw [Bg e] at hDj;obtain ⟨q1,q2,q3⟩:=h1 j hj hDj;refine ⟨q1,?_,λo' d ho' hd=>by rw [Cs λd' hd'=>Dw nd hi (aA:j<5) (λq=>e q.symm) ho ho' hd' hd];exact q3 o' d ho' hd⟩;rw [h4e];by_cases hc:j=2/\D 4=true
     ·rw [if_pos hc] at q2 ⊢;rw [if_neg (λq=>by have c0:=(hD4 hc.2).1;rw [q,hD] at c0;cases c0)];exact l2'.keep q2 rfl
     ·rw [if_neg hc] at q2 ⊢;exact l2'.keep q2 rfl
   ·show (if a=i then r else rs a)≠(if b=i then r else rs b);by_cases ea:a=i
    ·by_cases eb:b=i
     ·exact absurd (ea.trans eb.symm) hab
     ·rw [if_pos ea,if_neg eb];rw [Bg eb] at hDb;exact (hne b hb hDb).symm
    ·rw [Bg ea] at hDa;by_cases eb:b=i
     ·rw [if_neg ea,if_pos eb];exact hne a ha hDa
     ·rw [if_neg ea,if_neg eb];rw [Bg eb] at hDb;exact h2 a b ha hb hDa hDb hab
   ·rw [Cs (HH hi ho ht)];exact h3 t ht
 ·rintro D σ' h' ⟨l1',hD4,rs,h1,h2,h3⟩ hall;have A:∀i,i<5->D i=true:=hall;have f0:=h1 0 aC (A 0 aC);have f1:=h1 1 aC (A 1 aC);have f2:=h1 2 aC (A 2 aC);have f3:=h1 3 aC (A 3 aC);rw [if_neg (λe=>by have:=e.1;omega)] at f0;rw [if_neg (λe=>by have:=e.1;omega)] at f1;rw [if_pos ⟨rfl,A 4 aC⟩] at f2;rw [if_neg (λe=>by have:=e.1;omega)] at f3;have ne:=λi j (hi:i<4) (hj:j<4)=>h2 i j hi hj (A i aA) (A j aA);exact fin (rs 0) (rs 1) (rs 2) (rs 3) σ' h' l1' ⟨f0.1,f0.2.1,f0.2.2 a0 d0 rfl e0⟩ ⟨f1.1,f1.2.1,f1.2.2 a1 d1 rfl e1⟩ ⟨f2.1,f2.2.1,f2.2.2 a2 d2 rfl e2⟩ ⟨f3.1,f3.2.1,f3.2.2 a3 d3 rfl e3⟩
   ⟨ne 0 1 aC aC aC,ne 0 2 aC aC aC,ne 0 3 aC aC aC,ne 1 2 aC aC aC,ne 1 3 aC aC aC,ne 2 3 aC aC aC⟩ h3
section
variable {h h' h0:GH} {r:Nat}
theorem GH.cut_ne{b:Nat}(e:b≠r):h.cut r b=h b:=if_neg e
theorem GH.Le.cut(l:h0.Le h)(n:h0 r=none):h0.Le (h.cut r):=λb p o hb=>by
 rw [GH.cut_ne λe=>by subst e;rw [n] at hb;cases hb];exact l b p o hb
theorem AT.cut{V:Type}{v:Value}{t:TypeId}{n:Nat}{enc:V->Array Value}{xs:List V}(x:AT h0 h v t n enc xs)(f:BC v r):AT h0 (h.cut r) v t n enc xs:=
 x.keep λb o hb ho=>by rw [GH.cut_ne λe=>by subst e;exact f hb];exact ho
theorem AT.del'{V:Type}{v:Value}{t:TypeId}{n:Nat}{enc:V->Array Value}{xs:List V}(x:AT h0 h v t n enc xs)(f:BC v r):AT h0 (h.del r) v t n enc xs:=
 x.keep λb o hb ho=>by rw [GH.del_ne λe=>by subst e;exact f hb];exact ho
theorem Dm.keep3{X:Nat->Prop}{t0 T t:TypeId}{n l:Nat}{w v:Value}{p q:Bool}{c:Array Value}{f:Nat×Nat}{lo:Loop}{ys:List Sl}{hB:GH}{ys':List Int}(x:Dm h t0 v ys')(k:Bb X h h')(hX:∀b,X b->(b=r\/CY w=some b)\/b=l)(hr:h r=some (p,.cells c T f))(ow:AT hB h w t n JP ys)(hl:h l=some (q,.loop lo))(n1:T≠t0)(n2:t≠t0):Dm h' t0 v ys':=
 x.keepX k λb hb q2=>by
  obtain ⟨p2,c2,f2,e⟩:=x.2 b hb;rcases hX b q2 with (rfl | q3) | rfl
  ·rw [hr] at e;cases e;exact n1 rfl
  ·rcases ow with ⟨rfl,_⟩ | ⟨b1,cap,c1,rfl,_,h2,_⟩
   ·cases q3
   ·simp only [CY,Option.some.injEq] at q3;subst q3;rw [h2] at e;cases e;exact n2 rfl
  ·rw [hl] at e;cases e
theorem Bb.mono{X Y:Nat->Prop}(k:Bb X h h')(s:∀b,X b->Y b):Bb Y h h':=λb p o hb hn=>k b p o hb λx=>hn (s b x)
end
theorem ZD{n:Nat}{fl:List Sl}(h:A3 fl=DO (Cr n))(hn:n<=4)(i:Nat):TC n (fl.getD i Sl.z).2:=by
 by_cases hi:i<fl.length
 ·refine Jk (λx hx=>PT hx) (by rw [DH];exact hn) (r:=(fl.getD i Sl.z).2) ?_;rw [<-h,<-Fb hi];exact Br (by rw [CA];exact hi)
 ·rw [CF aA];exact ⟨λk hk=>absurd hk (Nat.not_lt_zero _),Nat.zero_le _⟩
theorem Dm.storeD{h h':GH}{t:TypeId}{v:Value}{xs:List Int}{r:Nat}{p:Bool}{q:Option (List Deferred)}(x:Dm h t v xs)(hr:h r=some (p,.deferred q))(ho:∀b,b≠r->h' b=h b):Dm h' t v xs:=
 x.same λb hb=>ho b λe=>by
  obtain ⟨p2,c2,f2,z⟩:=x.2 b hb;rw [e,hr] at z;cases z
theorem B1.storeD{h h':GH}{t:TypeId}{l:List Sl}{r:Nat}{p:Bool}{q:Option (List Deferred)}(x:B1 h t l)(hr:h r=some (p,.deferred q))(ho:∀b,b≠r->h' b=h b):B1 h' t l:=λk=>
 (x k).same λb hb=>ho b λe=>by
  obtain ⟨p2,c2,f2,z⟩:=(x k).2 b hb;rw [e,hr] at z;cases z
theorem selS_all{fl:List Sl}{G:List Int->Bool}{all:List (List Int)}{k:Nat}(h:A3 fl=all)(h1:k<=fl.length)(h2:fl.length<=k):A3 (I6 fl (λi=>G (fl.getD i Sl.z).2) k)=all.filter G:=by
 rw [PX k h1,List.take_of_length_le (by rw [CA];exact h2),h]
theorem B1.sel{h:GH}{t:TypeId}{fl:List Sl}{ok:Nat->Bool}{k:Nat}(a:B1 h t fl):B1 h t (I6 fl ok k):=by
 induction k with
 | zero=>exact B1.nil h t
 | succ k ih=>
  unfold I6;split
  ·exact B1.app ih (B1.one (a k))
  ·exact ih
end Go.Ns
namespace Go.Ns
theorem TF{P:Program}{O:Nat->Value}{h:GH}{fn:Func}{R:Value->GH->Prop}{a u s:Tmp}{t:TypeId}{b off:Nat}{v v' v2:Value}(hr:fn.results=#[.tmp u,.cell a t,.tmp s])(hv:O u=v)(ha:O a=.pointer (some ⟨b,off,none⟩))(hv':Rd P h t b off v')(hv2:O s=v2)(x:R (.tuple #[v,v',v2]) h):GN P fn O R [] h:=by
 unfold GN;rw [hr];subst hv;subst hv2;exact ⟨b,off,v',ha,hv',x⟩
section
variable (np:Nat) (ws:List AE) (js:List AM) (pq:List AG) (bag kinds:Int)
def Hq:List (List Int):=(DO (Cr js.length)).filter (λq=>B6 np ws js pq q bag kinds)
end
def OH(g:List (List Int))(x:List Int):List (List Int):=if 0<g.length/\(g.getD 0 []).length<x.length then [] else g
def OI(g:List (List Int))(x:List Int):List (List Int):=if g.length=0\/x.length=(g.getD 0 []).length then g++[x] else g
def Uc(g:List (List Int))(x:List Int):List (List Int):=OI (OH g x) x
def TG(l:List (List Int)):Nat->List (List Int)
 | 0=>[]
 | k+1=>Uc (TG l k) (l.getD k [])
def Gz(g:List Sl)(x:Sl):List Sl:=if 0<g.length/\(g.getD 0 Sl.z).2.length<x.2.length then [] else g
def Hr(g:List Sl)(x:Sl):List Sl:=if g.length=0\/x.2.length=(g.getD 0 Sl.z).2.length then g++[x] else g
def C6(g:List Sl)(x:Sl):List Sl:=Hr (Gz g x) x
def BF(l:List Sl):Nat->List Sl
 | 0=>[]
 | k+1=>C6 (BF l k) (l.getD k Sl.z)
section
variable {l g:List Sl} {x:Sl} {k:Nat}
theorem PZ(h0:0<g.length)(h1:(g.getD 0 Sl.z).2.length<x.2.length):C6 g x=[x]:=by
 unfold C6 Gz;rw [if_pos ⟨h0,h1⟩];rfl
theorem Pa(h0:0<g.length)(h1:x.2.length=(g.getD 0 Sl.z).2.length):C6 g x=g++[x]:=by
 unfold C6 Gz;rw [if_neg (λe=>by have:=e.2;omega)];unfold Hr;rw [if_pos (.inr h1)]
theorem Pb(h0:0<g.length)(h1:x.2.length<(g.getD 0 Sl.z).2.length):C6 g x=g:=by
 unfold C6 Gz;rw [if_neg (λe=>by have:=e.2;omega)];unfold Hr;rw [if_neg];rintro (e | e) <;> omega
theorem Pc(h0:g.length=0):C6 g x=g++[x]:=by
 unfold C6 Gz;rw [if_neg (λe=>by have:=e.1;omega)];unfold Hr;rw [if_pos (.inl h0)]
theorem goodS_a(h0:0<(BF l k).length)(h1:((BF l k).getD 0 Sl.z).2.length<(l.getD k Sl.z).2.length):BF l (k+1)=[l.getD k Sl.z]:=PZ h0 h1
theorem goodS_b(h0:0<(BF l k).length)(h1:(l.getD k Sl.z).2.length=((BF l k).getD 0 Sl.z).2.length):BF l (k+1)=BF l k++[l.getD k Sl.z]:=Pa h0 h1
theorem goodS_c(h0:0<(BF l k).length)(h1:¬((BF l k).getD 0 Sl.z).2.length<(l.getD k Sl.z).2.length)(h2:¬(l.getD k Sl.z).2.length=((BF l k).getD 0 Sl.z).2.length):BF l (k+1)=BF l k:=Pb h0 aA
theorem goodS_d(h0:(BF l k).length=0):BF l (k+1)=BF l k++[l.getD k Sl.z]:=Pc h0
theorem goodS_t(h1:¬(0<(BF l k).length/\((BF l k).getD 0 Sl.z).2.length<(l.getD k Sl.z).2.length))(h2:(BF l k).length=0\/(l.getD k Sl.z).2.length=((BF l k).getD 0 Sl.z).2.length):BF l (k+1)=BF l k++[l.getD k Sl.z]:=by
 by_cases h0:(BF l k).length=0
 ·exact goodS_d h0
 ·exact goodS_b aA aA
theorem goodS_f(h1:¬(0<(BF l k).length/\((BF l k).getD 0 Sl.z).2.length<(l.getD k Sl.z).2.length))(h2:¬((BF l k).length=0\/(l.getD k Sl.z).2.length=((BF l k).getD 0 Sl.z).2.length)):BF l (k+1)=BF l k:=goodS_c aA aA aA
theorem Hs(g:List Sl)(x:Sl):C6 g x=[x]\/C6 g x=g++[x]\/(C6 g x=g/\0<g.length):=by
 by_cases h0:g.length=0
 ·exact .inr (.inl (Pc h0))
 ·by_cases h1:(g.getD 0 Sl.z).2.length<x.2.length
  ·exact .inl (PZ aA h1)
  ·by_cases h2:x.2.length=(g.getD 0 Sl.z).2.length
   ·exact .inr (.inl (Pa aA h2))
   ·exact .inr (.inr ⟨Pb aA aA,aA⟩)
theorem ZE:∀k,0<k->0<(BF l k).length
 | k+1,_=>by
  show 0<(C6 (BF l k) (l.getD k Sl.z)).length;rcases Hs (BF l k) (l.getD k Sl.z) with e | e | ⟨e,h⟩ <;> rw [e]
  ·exact Nat.zero_lt_one
  ·rw [List.length_append];exact Nat.succ_pos _
  ·exact h
theorem Re:∀k,(BF l k).length<=k
 | 0=>Nat.le_refl _
 | k+1=>by
  have ih:=Re k;show (C6 (BF l k) (l.getD k Sl.z)).length<=_;rcases Hs (BF l k) (l.getD k Sl.z) with e | e | ⟨e,_⟩ <;> rw [e]
  ·simp
  ·rw [List.length_append,List.length_singleton];omega
  ·omega
theorem MV:∀k,k<=l.length->∀y ∈ BF l k,y ∈ l
 | 0,_,y,hy=>by cases hy
 | k+1,hk,y,hy=>by
  have ih:=MV k aA;have hx:l.getD k Sl.z ∈ l:=Br aA;change y ∈ C6 (BF l k) (l.getD k Sl.z) at hy;rcases Hs (BF l k) (l.getD k Sl.z) with e | e | ⟨e,_⟩ <;> rw [e] at hy
  ·rw [List.mem_singleton.1 hy];exact hx
  ·rcases List.mem_append.1 hy with hy | hy
   ·exact ih y hy
   ·rw [List.mem_singleton.1 hy];exact hx
  ·exact ih y hy
theorem Nf:∀k,k<=l.length->A3 (BF l k)=TG (A3 l) k
 | 0,_=>rfl
 | k+1,hk=>by
  have ih:=Nf k aA;have hg:∀g:List Sl,(g.getD 0 Sl.z).2=(A3 g).getD 0 []:=λg=>by cases g <;> rfl
  show A3 (C6 (BF l k) (l.getD k Sl.z))=Uc (TG (A3 l) k) ((A3 l).getD k []);rw [<-ih,Fb aA];have hc:A3 (Gz (BF l k) (l.getD k Sl.z))=OH (A3 (BF l k)) (l.getD k Sl.z).2:=by
   unfold Gz OH;rw [hg,CA];split <;> rfl
  have ha:∀g:List Sl,A3 (Hr g (l.getD k Sl.z))=OI (A3 g) (l.getD k Sl.z).2:=λg=>by
   unfold Hr OI;rw [hg,CA];split
   ·rw [MR];rfl
   ·rfl
  show A3 (Hr (Gz (BF l k) (l.getD k Sl.z)) (l.getD k Sl.z))=OI (OH (A3 (BF l k)) _) _;rw [ha,hc]
end
theorem B1.good{h:GH}{t:TypeId}{l:List Sl}{k:Nat}(a:B1 h t l)(hk:k<=l.length):B1 h t (BF l k):=.of λx hx=>a.at (MV k hk x hx)
section
variable {np:Nat} {ws:List AE} {js:List AM} {pq:List AG} {bag kinds:Int} {fs:List Sl}
theorem X9(h:A3 fs=Hq np ws js pq bag kinds)(hn:js.length<=4):∀x ∈ fs,TC js.length x.2:=λx hx=>by
 have:x.2 ∈ A3 fs:=List.mem_map_of_mem hx
 rw [h] at this;exact Jk (λy hy=>PT hy) (by rw [DH];exact hn) (List.mem_filter.1 this).1
theorem Ud(h:A3 fs=Hq np ws js pq bag kinds)(hn:js.length<=4)(i:Nat):TC js.length (fs.getD i Sl.z).2:=by
 by_cases hi:i<fs.length
 ·exact X9 h hn _ (Br hi)
 ·rw [CF aA];exact ⟨λk hk=>absurd hk (Nat.not_lt_zero _),Nat.zero_le _⟩
theorem safe_nil(hb:0<=bag):B6 np ws js pq [] bag kinds=true:=by
 unfold B6;have e:(Cj kinds js []).sum=0:=by
  show (List.replicate kinds.toNat (0:Int)).sum=0;generalize kinds.toNat=n
  induction n with
  | zero=>rfl
  | succ n ih=>rw [List.replicate_succ,List.sum_cons,ih];rfl
 rw [e,decide_eq_true hb];rfl
theorem WD(hb:0<=bag):0<(Hq np ws js pq bag kinds).length:=by
 refine List.length_pos_of_mem (a:=[]) (List.mem_filter.2 ⟨?_,safe_nil hb⟩);unfold DO;rw [Gn];exact List.mem_cons_self
theorem Pd(hn:js.length<=4):(Hq np ws js pq bag kinds).length<=625:=
 Nat.le_trans (List.length_filter_le _ _) (HO (by rw [DH];exact hn))
theorem Rf{G:List Int->Int}:∀(l:List (List Int)),0<l.length->∀k,k<=l.length-1->(Du G l k).1 ∈ l
 | l,h,0,_=>Br h
 | l,h,k+1,hk=>by
  unfold Du;split
  ·exact List.mem_of_mem_drop (Br (by rw [List.length_drop];omega))
  ·exact Rf l h k aA
theorem Lc{n:Nat}{G:List Int->Int}{l:List Sl}(h:∀x ∈ l,TC n x.2)(hl:0<l.length):TC n (DP G (A3 l)):=by
 have:=Rf (G:=G) (A3 l) (by rw [CA];exact hl) ((A3 l).length-1) (Nat.le_refl _)
 obtain ⟨x,hx,e⟩:=List.mem_map.1 this;unfold DP;rw [<-e];exact h x hx
end
section
variable (bag kinds:Int) (ps:List ByteArray) (ws:List AE) (js:List AM) (ns:List AK)
def WE:List Int:=DP (λl=>Be (λx=>AZ ps.length ws js x l) (AB ws js ns)) (TG (Hq ps.length ws js (AB ws js ns) bag kinds) (Hq ps.length ws js (AB ws js ns) bag kinds).length)
def KV:List Int:=if¬AO bag kinds ps ws js ns 0=0 then [] else WE bag kinds ps ws js ns
end
section
variable {bag kinds:Int} {ps:List ByteArray} {ws:List AE} {js:List AM} {ns:List AK} {fs:List Sl} {k:Nat}
theorem best_end(h:A3 fs=Hq ps.length ws js (AB ws js ns) bag kinds)(h1:k<=fs.length)(h2:fs.length<=k):WE bag kinds ps ws js ns=DP (λl=>Be (λx=>AZ ps.length ws js x l) (AB ws js ns)) (A3 (BF fs k)):=by
 unfold WE;rw [Nf k h1,h,<-h,CA,show fs.length=k by omega]
theorem Ue(h0:¬¬AO bag kinds ps ws js ns 0=0)(h:A3 fs=Hq ps.length ws js (AB ws js ns) bag kinds)(h1:k<=fs.length)(h2:fs.length<=k):KV bag kinds ps ws js ns=DP (λl=>Be (λx=>AZ ps.length ws js x l) (AB ws js ns)) (A3 (BF fs k)):=(if_neg h0).trans (best_end h h1 h2)
end
def TH(c:Hm)(l:List Int):Nat->Hm
 | 0=>c
 | i+1=>(TH c l i).set (l.getD i 0).toNat true
def GX(ls:List (List Int)):Nat->Hm
 | 0=>Hm.none
 | k+1=>TH (GX ls k) (ls.getD k []) (ls.getD k []).length
def Er(c:Hm):Nat->List Int
 | 0=>[]
 | q+1=>if c q=true then Er c q else Er c q++[(q:Int)]
theorem neverL_t{c:Hm}{q:Nat}(h:c q=true):Er c (q+1)=Er c q:=if_pos h
theorem neverL_f{c:Hm}{q:Nat}(h:c q=false):Er c (q+1)=Er c q++[(q:Int)]:=if_neg (by rw [h];simp)
theorem Pe(c:Hm):∀q,(Er c q).length<=q
 | 0=>Nat.le_refl _
 | q+1=>by
  have:=Pe c q
  unfold Er;split
  ·omega
  ·rw [List.length_append,List.length_singleton];omega
section
variable (bag kinds:Int) (ps:List ByteArray) (ws:List AE) (js:List AM) (ns:List AK)
def MW:List Int:=if¬AO bag kinds ps ws js ns 0=0 then [] else Er (GX (Hq ps.length ws js (AB ws js ns) bag kinds) (Hq ps.length ws js (AB ws js ns) bag kinds).length) js.length
end
section
variable {bag kinds:Int} {ps:List ByteArray} {ws:List AE} {js:List AM} {ns:List AK} {fs:List Sl} {k q:Nat}
theorem ZF{i:Nat}(hk:k<fs.length)(h1:i<=(fs.getD k Sl.z).2.length)(h2:(fs.getD k Sl.z).2.length<=i):GX (A3 fs) (k+1)=TH (GX (A3 fs) k) (fs.getD k Sl.z).2 i:=by
 unfold GX;rw [Fb hk,show (fs.getD k Sl.z).2.length=i by omega];cases k <;> rfl
theorem ZG(h0:¬¬AO bag kinds ps ws js ns 0=0)(h:A3 fs=Hq ps.length ws js (AB ws js ns) bag kinds)(h1:k<=fs.length)(h2:fs.length<=k)(h3:q<=js.length)(h4:js.length<=q):MW bag kinds ps ws js ns=Er (GX (A3 fs) k) q:=
 (if_neg h0).trans (by rw [<-h,CA,show fs.length=k by omega,show js.length=q by omega])
end
end Go.Ns
namespace Go.Ns
theorem Uf{nj:Nat}{l:List Int}(h:Ag nj l=0):l.Nodup:=by
 rw [List.nodup_iff_pairwise_ne];rw [List.pairwise_iff_getElem];intro i j hi hj hij e;have h1:=DN h j (Nat.zero_le _) aA;unfold HM at h1;split at h1
 ·rename_i a;exact a h1
 ·split at h1
  ·cases h1
  ·rename_i a
   refine a (List.any_eq_true.2 ⟨l[i],List.mem_take_iff_getElem.2 ⟨i,aA,rfl⟩,?_⟩);rw [List.getD_eq_getElem?_getD,List.getElem?_eq_getElem hj];exact decide_eq_true e.symm
theorem Ng{jobs:List Int}(nd:jobs.Nodup):∀(rest done:List Int),jobs=done++rest->jobs ∈ BU jobs rest.length done
 | [],done,e=>by rw [e,List.append_nil];exact List.mem_singleton.2 rfl
 | k ::rest,done,e=>by
  have ih:=Ng nd rest (done++[k]) (by rw [e];simp);show jobs ∈ done ::jobs.flatMap _;refine List.mem_cons_of_mem _ (List.mem_flatMap.2 ⟨k,by rw [e];simp,?_⟩);have hn:IO done k=false:=by
   cases hh:IO done k with
   | false=>rfl
   | true=>
    exfalso;obtain ⟨x,hx,hk⟩:=List.any_eq_true.1 hh;have hk':k=x:=of_decide_eq_true hk;rw [e,List.nodup_append] at nd;exact nd.2.2 x hx k List.mem_cons_self hk'.symm
  rw [if_neg (by rw [hn];simp)];exact ih
def YA(jobs:List Int)(n:Nat):List (List Int):=(DO jobs).filter λq=>decide (q.length=n)
theorem ZH{l:List Int}(nd:l.Nodup):0<(YA (Eb l) l.length).length:=by
 have hs:(Eb l).Nodup:=by rw [LM];exact (List.mergeSort_perm l _).nodup_iff.2 nd
 have:=Ng hs (Eb l) [] rfl
 exact List.length_pos_of_mem (List.mem_filter.2 ⟨this,decide_eq_true (Dt l)⟩)
section
variable (bag kinds:Int) (ps:List ByteArray) (ws:List AE) (js:List AM) (ns:List AK) (l:List Int)
def swiftL:List Int:=DP (λl=>Be (λx=>AZ ps.length ws js x l) (AB ws js ns)) (YA (Eb l) l.length)
def IP:List Int:=if¬AO bag kinds ps ws js ns (Ag js.length l)=0 then [] else swiftL ps ws js ns l
end
section
variable {bag kinds:Int} {ps:List ByteArray} {ws:List AE} {js:List AM} {ns:List AK} {l:List Int} {fl:List Sl} {nj:Nat}
theorem Rh(h0:¬¬AO bag kinds ps ws js ns (Ag js.length l)=0)(h:A3 fl=YA (Eb l) l.length):IP bag kinds ps ws js ns l=DP (λl=>Be (λx=>AZ ps.length ws js x l) (AB ws js ns)) (A3 fl):=(if_neg h0).trans (by unfold swiftL;rw [h])
theorem full_ok(h:A3 fl=YA (Eb l) l.length)(hr:∀k,k<l.length->0<=l.getD k 0/\l.getD k 0<nj)(h4:l.length<=4):∀x ∈ fl,TC nj x.2:=λx hx=>by
 have:x.2 ∈ A3 fl:=List.mem_map_of_mem hx
 rw [h] at this;refine Jk (λy hy=>?_) (by rw [Dt];exact h4) (List.mem_filter.1 this).1;rw [LM,List.mem_mergeSort] at hy;obtain ⟨i,hi,e⟩:=List.mem_iff_getElem.1 hy
 have:=hr i hi
 rw [List.getD_eq_getElem?_getD,List.getElem?_eq_getElem hi,Option.getD_some,e] at this;exact this
end
end Go.Ns
namespace Go.Ns
def PV(h:GH)(t:TypeId)(f:Nat->Value)(L:Nat->List Int)(k:Nat):Prop:=∀i,i<k->Dm h t (f i) (L i)
section
variable {h h' h0:GH} {t t':TypeId} {f:Nat->Value} {L:Nat->List Int} {k r:Nat} {w v v':Value} {p:Bool} {c:Array Value} {g:Nat×Nat}
theorem PV.zero:PV h t f L 0:=λ_ hi=>absurd hi (Nat.not_lt_zero _)
theorem PV.le(x:PV h t f L k)(l:h.Le h'):PV h' t f L k:=λi hi=>(x i hi).le l
theorem PV.store(x:PV h t f L k)(hr:h r=some (p,.cells c t' g))(ne:t'≠t)(ho:∀b,b≠r->h' b=h b):PV h' t f L k:=λi hi=>(x i hi).store hr ne ho
theorem PV.next(x:PV h t f L k)(y:Dm h t w (L k)):PV h t (λi=>if i=k then w else f i) L (k+1):=λi hi=>by
 show Dm h t (if i=k then w else f i) (L i);by_cases e:i=k
 ·rw [if_pos e,e];exact y
 ·rw [if_neg e];exact x i aA
end
def AM.re(j:AM)(v:Value):AM:={ j with pv:=v }
def AK.re(j:AK)(v:Value):AK:={ j with wv:=v }
def HY(js:List AM)(f:Nat->Value)(k:Nat):List AM:=(List.range js.length).map λi=>if i<k then (js.getD i AM.z).re (f i) else js.getD i AM.z
def IQ(ns:List AK)(f:Nat->Value)(k:Nat):List AK:=(List.range ns.length).map λi=>if i<k then (ns.getD i AK.z).re (f i) else ns.getD i AK.z
section
variable {V:Type} {z:V} {l:List V} {F:Nat->V->V} {k:Nat}
def reL(z:V)(l:List V)(F:Nat->V->V)(k:Nat):List V:=(List.range l.length).map λi=>if i<k then F i (l.getD i z) else l.getD i z
theorem J9:(reL z l F k).length=l.length:=by unfold reL;rw [List.length_map,List.length_range]
theorem H4{i:Nat}(hi:i<l.length):(reL z l F k).getD i z=if i<k then F i (l.getD i z) else l.getD i z:=by
 unfold reL;rw [List.getD_eq_getElem?_getD,List.getElem?_map,List.getElem?_range hi];rfl
theorem TJ{i:Nat}(hi:i<(reL z l F k).length):(reL z l F k)[i]=if i<k then F i (l.getD i z) else l.getD i z:=by
 have e:=H4 (z:=z) (F:=F) (k:=k) (show i<l.length by rw [<-J9 (z:=z) (F:=F) (k:=k)];exact hi);rw [List.getD_eq_getElem?_getD,List.getElem?_eq_getElem hi] at e;exact e
theorem reL_0:reL z l F 0=l:=by
 refine List.ext_getElem J9 λi h1 h2=>?_;rw [TJ,if_neg (Nat.not_lt_zero _),List.getD_eq_getElem?_getD,List.getElem?_eq_getElem h2];rfl
theorem YB{G:Nat->V->V}(hk:k<l.length)(hG:∀i,i<k->∀x,G i x=F i x):(reL z l F k).set k (G k ((reL z l F k).getD k z))=reL z l G (k+1):=by
 rw [H4 hk,if_neg (Nat.lt_irrefl _)];refine List.ext_getElem (by rw [List.length_set,J9,J9]) λi h1 h2=>?_;rw [List.getElem_set,TJ];by_cases e:k=i
 ·subst e;rw [if_pos rfl,TJ,if_pos aA]
 ·rw [if_neg e,TJ];by_cases e2:i<k
  ·rw [if_pos e2,if_pos aA,hG i e2]
  ·rw [if_neg e2,if_neg aA]
end
section
variable {h:GH} {t:TypeId} {f:Nat->Value} {js:List AM} {ns:List AK} {k:Nat} {w:Value}
theorem Pf:HY js f k=reL AM.z js (λi j=>j.re (f i)) k:=rfl
theorem Pg:IQ ns f k=reL AK.z ns (λi j=>j.re (f i)) k:=rfl
theorem OJ(js:List AM)(f:Nat->Value)(k:Nat):(HY js f k).length=js.length:=by rw [Pf];exact J9
theorem OK(ns:List AK)(f:Nat->Value)(k:Nat):(IQ ns f k).length=ns.length:=by rw [Pg];exact J9
theorem reJ_0:HY js f 0=js:=by rw [Pf];exact reL_0
theorem reN_0:IQ ns f 0=ns:=by rw [Pg];exact reL_0
theorem reJ_put(hk:k<js.length):(HY js f k).set k (((HY js f k).getD k AM.z).re w)=HY js (λi=>if i=k then w else f i) (k+1):=by
 have:=YB (z:=AM.z) (l:=js) (F:=λi j=>j.re (f i)) (G:=λi j=>j.re (if i=k then w else f i)) hk (λi hi x=>by rw [if_neg aA])
 rw [if_pos rfl] at this;exact this
theorem reN_put(hk:k<ns.length):(IQ ns f k).set k (((IQ ns f k).getD k AK.z).re w)=IQ ns (λi=>if i=k then w else f i) (k+1):=by
 have:=YB (z:=AK.z) (l:=ns) (F:=λi j=>j.re (f i)) (G:=λi j=>j.re (if i=k then w else f i)) hk (λi hi x=>by rw [if_neg aA])
 rw [if_pos rfl] at this;exact this
theorem Ri(js:List AM)(f:Nat->Value)(k i:Nat):((HY js f k).getD i AM.z).parts=(js.getD i AM.z).parts:=by
 by_cases hi:i<js.length
 ·rw [Pf,H4 hi];split <;> rfl
 ·rw [CF (by rw [OJ];omega),CF aA]
theorem Ug(ns:List AK)(f:Nat->Value)(k i:Nat):((IQ ns f k).getD i AK.z).ways=(ns.getD i AK.z).ways:=by
 by_cases hi:i<ns.length
 ·rw [Pg,H4 hi];split <;> rfl
 ·rw [CF (by rw [OK];omega),CF aA]
theorem At.re(x:At h js)(y:PV h t f (λi=>(js.getD i AM.z).parts) k):At h (HY js f k):=λi=>by
 by_cases hi:i<js.length
 ·rw [Pf,H4 hi];by_cases e:i<k
  ·rw [if_pos e];exact (y i e).1
  ·rw [if_neg e];exact x i
 ·rw [CF (by rw [OJ];omega)];exact AD.nil _ _ _
theorem AW.re(x:AW h ns)(y:PV h t f (λi=>(ns.getD i AK.z).ways) k):AW h (IQ ns f k):=λi=>by
 by_cases hi:i<ns.length
 ·rw [Pg,H4 hi];by_cases e:i<k
  ·rw [if_pos e];exact (y i e).1
  ·rw [if_neg e];exact x i
 ·rw [CF (by rw [OK];omega)];exact AD.nil _ _ _
def C3(h:GH)(t:TypeId)(js:List AM):Prop:=∀k,Dm h t (js.getD k AM.z).pv (js.getD k AM.z).parts
def EA(h:GH)(t:TypeId)(ns:List AK):Prop:=∀k,Dm h t (ns.getD k AK.z).wv (ns.getD k AK.z).ways
theorem C3.jobs(x:C3 h t js):At h js:=λk=>(x k).1
theorem EA.notes(x:EA h t ns):AW h ns:=λk=>(x k).1
theorem C3.le{h':GH}(x:C3 h t js)(l:h.Le h'):C3 h' t js:=λk=>(x k).le l
theorem EA.le{h':GH}(x:EA h t ns)(l:h.Le h'):EA h' t ns:=λk=>(x k).le l
theorem C3.store{h':GH}{t':TypeId}{r:Nat}{p:Bool}{c:Array Value}{g:Nat×Nat}(x:C3 h t js)(hr:h r=some (p,.cells c t' g))(ne:t'≠t)(ho:∀b,b≠r->h' b=h b):C3 h' t js:=λk=>(x k).store hr ne ho
theorem EA.store{h':GH}{t':TypeId}{r:Nat}{p:Bool}{c:Array Value}{g:Nat×Nat}(x:EA h t ns)(hr:h r=some (p,.cells c t' g))(ne:t'≠t)(ho:∀b,b≠r->h' b=h b):EA h' t ns:=λk=>(x k).store hr ne ho
theorem C3.of(y:PV h t f (λi=>(js.getD i AM.z).parts) k)(hk:js.length<=k):C3 h t (HY js f k):=λi=>by
 by_cases hi:i<js.length
 ·rw [Pf,H4 hi,if_pos aA];exact y i aA
 ·rw [CF (by rw [OJ];omega)];exact Dm.nil _ _
theorem EA.of(y:PV h t f (λi=>(ns.getD i AK.z).ways) k)(hk:ns.length<=k):EA h t (IQ ns f k):=λi=>by
 by_cases hi:i<ns.length
 ·rw [Pg,H4 hi,if_pos aA];exact y i aA
 ·rw [CF (by rw [OK];omega)];exact Dm.nil _ _
theorem At.fine1(x:At h js)(k:Nat):(BA (js.getD k AM.z)).toList.all (·.oneCell')=true:=by
 show (true && (true && (true && (true && (((js.getD k AM.z).pv.oneCell') && true)))))=true;rw [(AD.one (x k)).2];rfl
theorem At.fine(x:At h js):∀y ∈ js,(BA y).toList.all (·.oneCell')=true:=λy hy=>by
 obtain ⟨i,hi,e⟩:=List.mem_iff_getElem.1 hy
 have:=x.fine1 i
 rw [List.getD_eq_getElem?_getD,List.getElem?_eq_getElem hi] at this;rw [<-e];exact this
theorem AW.snoc{x:AK}(a:AW h ns)(b:AD h x.wv 1 eI x.ways):AW h (ns++[x]):=λk=>by
 rw [PQ];split
 ·exact a k
 ·cases hk:k-ns.length with
  | zero=>exact b
  | succ n=>rw [CF aD];exact AD.nil _ _ _
end
theorem BR.copy{bag kinds:Int}{ps:List ByteArray}{ws:List AE}{js:List AM}{ns:List AK}(b:BR bag kinds ps ws js ns):(∀i,(js.getD i AM.z).parts.length<=1000)/\∀i,(ns.getD i AK.z).ways.length<=1000:=by
 refine ⟨λi=>?_,λi=>Nat.le_trans (PG b.note i).1 aC⟩;by_cases hi:i<js.length
 ·have:=(PB (b.job i hi)).len
  have:=b.hkin
  omega
 ·rw [CF aA];exact Nat.zero_le _
end Go.Ns
namespace Go.Ns
section
variable {P:Program} {E:GM P} {O:Nat->Value} {ds:List Deferred} {h:GH} {T:(Nat->Value)->List Deferred->GH->Prop} {dst:Option Nat} {ty:TypeId} {pos:String} {af:Array Edge} {gd:Option (Nat×Bool)}
theorem WF{s:ByteArray}{i:Nat}(h:i<s.size):((s[i]'h).toNat:Int)=(bytesOf s).getD i 0:=by
 have h2:i<(bytesOf s).length:=by rw [C2];exact h
 rw [Ea 0 h2];exact (List.getElem_map (l:=s.data.toList) (f:=λb=>(b.toNat:Int)) (h:=h2)).symm
theorem Ph{t:TypeId}{x ix:Operand}{s:ByteArray}{kd:IntKind}{i:Int}(ht:OV P t=true)(hx:AP O x=.string s)(hi:AP O ix=.int kd i)(h0:0<=i)(h1:i<s.size)(k:T (putS O dst (.int .u8 ((bytesOf s).getD i.toNat 0))) ds h) :
  BV E ⟨dst,.index t x ix,ty,pos,af,gd⟩ O ds h T:=RC ht hx hi h0 h1 (by rw [WF];exact k)
end
theorem Uh{s:ByteArray}(h:¬(1<=(s.size:Int)/\(s.size:Int)<=10)):Ej s=false:=by unfold Ej;rw [decide_eq_false h,Bool.and_false]
theorem Ui{a b:List UInt8}{v:Bool}(h:(a==b)=v):(b==a)=v:=by rw [<-h];exact BEq.comm
def IR(l:List Int)(k:Nat)(p q:Int):List Int:=if p=l.getD k 0/\¬q ∈ l then l++[q] else l
def C7(l:List Int)(k:Nat)(x:AE):List Int:=IR (IR l k x.a x.b) k x.b x.a
def Ah(ws:List AE)(l:List Int)(k:Nat):Nat->List Int
 | 0=>l
 | j+1=>C7 (Ah ws l k j) k (ws.getD j AE.z)
def Ax(ws:List AE):Nat->List Int
 | 0=>[0]
 | k+1=>if k<(Ax ws k).length then Ah ws (Ax ws k) k ws.length else Ax ws k
def G7(ws:List AE):List Int:=Ax ws 4
def Ht(np:Nat)(l:List Int):Prop:=l.Nodup/\(∀x ∈ l,0<=x/\x<np)/\0<l.length
def Pi(np:Nat)(ws:List AE):Prop:=∀k,k<ws.length->(0<=(ws.getD k AE.z).a/\(ws.getD k AE.z).a<np)/\0<=(ws.getD k AE.z).b/\(ws.getD k AE.z).b<np
section
variable {np:Nat} {l:List Int} {ws:List AE} {k j:Nat} {x:Int} {w:AE}
theorem Ht.len(h:Ht np l):l.length<=np:=by
 refine V1 np l.length (λk=>(l.getD k 0).toNat) (λi hi=>?_) λi j hij hj=>?_
 ·have:=h.2.1 _ (Br (d:=(0:Int)) hi)
  show (l.getD i 0).toNat<np;omega
 ·have h1:=h.2.1 _ (Br (d:=(0:Int)) hj);have h2:=h.2.1 _ (Br (d:=(0:Int)) (show i<l.length by omega));show (l.getD i 0).toNat≠(l.getD j 0).toNat;intro e;have e2:l.getD i 0=l.getD j 0:=aA
  rw [List.getD_eq_getElem?_getD,List.getD_eq_getElem?_getD,List.getElem?_eq_getElem aA,List.getElem?_eq_getElem hj,Option.getD_some,Option.getD_some] at e2
  have:=(List.pairwise_iff_getElem.1 (List.nodup_iff_pairwise_ne.1 h.1)) i j aA hj hij
  exact this e2
theorem Ht.snoc(h:Ht np l)(hx:0<=x/\x<np)(n:¬x ∈ l):Ht np (l++[x]):=
 ⟨List.nodup_append.2 ⟨h.1,aD,λa ha b hb e=>by rw [List.mem_singleton.1 hb] at e;exact n (e▸ha)⟩,λy hy=>by
  rcases List.mem_append.1 hy with hy | hy
  ·exact h.2.1 y hy
  ·rw [List.mem_singleton.1 hy];exact hx,aD⟩
theorem Lf{p q:Int}(h1:p=l.getD k 0)(h2:¬q ∈ l):IR l k p q=l++[q]:=if_pos ⟨h1,h2⟩
theorem Lg{p q:Int}(h:¬(p=l.getD k 0/\¬q ∈ l)):IR l k p q=l:=if_neg h
theorem rs_tt(h1:w.a=l.getD k 0/\¬w.b ∈ l)(h2:w.b=(l++[w.b]).getD k 0/\¬w.a ∈ l++[w.b]):C7 l k w=l++[w.b]++[w.a]:=by unfold C7;rw [Lf h1.1 h1.2,Lf h2.1 h2.2]
theorem rs_tf(h1:w.a=l.getD k 0/\¬w.b ∈ l)(h2:¬(w.b=(l++[w.b]).getD k 0/\¬w.a ∈ l++[w.b])):C7 l k w=l++[w.b]:=by unfold C7;rw [Lf h1.1 h1.2,Lg h2]
theorem rs_ft(h1:¬(w.a=l.getD k 0/\¬w.b ∈ l))(h2:w.b=l.getD k 0/\¬w.a ∈ l):C7 l k w=l++[w.a]:=by unfold C7;rw [Lg h1,Lf h2.1 h2.2]
theorem rs_ff(h1:¬(w.a=l.getD k 0/\¬w.b ∈ l))(h2:¬(w.b=l.getD k 0/\¬w.a ∈ l)):C7 l k w=l:=by unfold C7;rw [Lg h1,Lg h2]
theorem Rj{p q:Int}(h:Ht np l)(hq:0<=q/\q<np):Ht np (IR l k p q):=by
 unfold IR;split
 ·rename_i c;exact h.snoc hq c.2
 ·exact h
theorem Kp(l:List Int)(k:Nat)(p q:Int):l<+:IR l k p q:=by
 unfold IR;split
 ·exact List.prefix_append _ _
 ·exact List.prefix_refl _
theorem TK(h:Ht np l)(ha:0<=w.a/\w.a<np)(hb:0<=w.b/\w.b<np):Ht np (C7 l k w):=Rj (Rj h hb) ha
theorem QW(l:List Int)(k:Nat)(w:AE):l<+:C7 l k w:=(Kp _ _ _ _).trans (Kp _ _ _ _)
theorem I8(h:Ht np l)(hw:Pi np ws):∀j,j<=ws.length->Ht np (Ah ws l k j)
 | 0,_=>h
 | j+1,hj=>TK (I8 h hw j aA) (hw j aA).1 (hw j aA).2
theorem IS:∀j,l<+:Ah ws l k j
 | 0=>List.prefix_refl _
 | j+1=>(IS j).trans (QW _ _ _)
theorem KA(hn:0<np)(hw:Pi np ws):∀k,Ht np (Ax ws k)
 | 0=>⟨by simp [Ax],λx hx=>by rw [List.mem_singleton.1 hx];omega,Nat.zero_lt_one⟩
 | k+1=>by
  unfold Ax;split
  ·exact I8 (KA hn hw k) hw _ (Nat.le_refl _)
  ·exact KA hn hw k
theorem Nh(hk:k<(Ax ws k).length):Ax ws (k+1)=Ah ws (Ax ws k) k ws.length:=if_pos hk
theorem Ni(hk:(Ax ws k).length<=k):∀m,k<=m->Ax ws m=Ax ws k
 | 0,h=>by rw [show k=0 by omega]
 | m+1,h=>by
  by_cases e:m+1=k
  ·rw [e]
  ·have ih:=Ni hk m aA
   have:Ax ws (m+1)=Ax ws m:=by
    conv=>lhs;unfold Ax
    rw [if_neg (by rw [ih];omega)]
   rw [this,ih]
theorem ZI(hk:(Ax ws k).length<=k)(hk4:k<=4):G7 ws=Ax ws k:=Ni hk 4 hk4
end
def FQ(np:Nat)(ws:List AE):Int:=if (5:Int)<ws.length then 2 else if¬Cx (C9 np ws) 0 ws.length=0 then Cx (C9 np ws) 0 ws.length else if (G7 ws).length<np then 8 else 0
def Do(bag kinds:Int)(ps:List ByteArray)(ws:List AE)(js:List AM)(ns:List AK):Int:=
 if¬Gi bag kinds=0 then Gi bag kinds else if¬BQ ps=0 then BQ ps else if¬FQ ps.length ws=0 then FQ ps.length ws else if¬B8 ps.length kinds js=0 then B8 ps.length kinds js else Ce ws.length ns
section
variable {V:Type} {p:V->Bool} {l:List V} {d:V} {k j:Nat}
theorem MX(hk:k<l.length)(e:p (l.getD k d)=true):l.any p=true:=List.any_eq_true.2 ⟨_,Br hk,e⟩
theorem KB(h:(l.take k).any p=false)(hk:l.length<=k):l.any p=false:=by rwa [List.take_of_length_le hk] at h
theorem Uj(hj:j<k)(hk:k<=l.length)(e:p (l.getD j d)=true):(l.take k).any p=true:=by
 refine MX (k:=j) (d:=d) (by rw [List.length_take];omega) ?_;rw [List.getD_eq_getElem?_getD,List.getElem?_take,if_pos hj,<-List.getD_eq_getElem?_getD];exact e
end
section
variable {np nw:Nat} {ws:List AE} {js:List AM} {ns:List AK} {k:Nat} {kinds:Int}
theorem Lh{a b:Int}(ha:0<=a/\a<=(np:Int)-1)(hb:0<=b/\b<=(np:Int)-1):B4 np [a,b]=0:=by
 have h0:EZ np [a,b] 0=0:=if_neg (λe=>e ha);have h1:EZ np [a,b] 1=0:=if_neg (λe=>e hb);show Cx (EZ np [a,b]) 0 2=0;simp [Cx,h0,h1]
theorem miss_no{a b:Int}(h:¬(0<=a/\a<=(np:Int)-1)\/¬(0<=b/\b<=(np:Int)-1)):B4 np [a,b]=6:=by
 show Cx (EZ np [a,b]) 0 2=6;by_cases ha:0<=a/\a<=(np:Int)-1
 ·have h0:EZ np [a,b] 0=0:=if_neg (λe=>e ha);have h1:EZ np [a,b] 1=6:=if_pos (h.resolve_left λe=>e ha);simp [Cx,h0,h1]
 ·have h0:EZ np [a,b] 0=6:=if_pos ha;simp [Cx,h0]
theorem Pj{a:Int}(ha:0<=a/\a<=(np:Int)-1):B4 np [a]=0:=by
 have h0:EZ np [a] 0=0:=if_neg (λe=>e ha);show Cx (EZ np [a]) 0 1=0;simp [Cx,h0]
theorem miss_no1{a:Int}(ha:¬(0<=a/\a<=(np:Int)-1)):B4 np [a]=6:=by
 have h0:EZ np [a] 0=6:=if_pos ha;show Cx (EZ np [a]) 0 1=6;simp [Cx,h0]
variable (ws k) in
def waP(np:Nat):Prop:=(0<=(ws.getD k AE.z).a/\(ws.getD k AE.z).a<=(np:Int)-1)/\(0<=(ws.getD k AE.z).b/\(ws.getD k AE.z).b<=(np:Int)-1)
theorem wy6(h:¬(0<=(ws.getD k AE.z).a/\(ws.getD k AE.z).a<=(np:Int)-1)\/¬(0<=(ws.getD k AE.z).b/\(ws.getD k AE.z).b<=(np:Int)-1)):C9 np ws k=6:=by
 unfold C9;rw [miss_no h,if_pos aC]
theorem wyP(h:¬(¬(0<=(ws.getD k AE.z).a/\(ws.getD k AE.z).a<=(np:Int)-1)\/¬(0<=(ws.getD k AE.z).b/\(ws.getD k AE.z).b<=(np:Int)-1))):waP ws k np:=⟨Decidable.byContradiction λe=>h (.inl e),Decidable.byContradiction λe=>h (.inr e)⟩
theorem wy7(h:waP ws k np)(h2:(ws.getD k AE.z).b<=(ws.getD k AE.z).a):C9 np ws k=7:=by
 unfold C9;rw [Lh h.1 h.2,if_neg aD,if_pos h2]
theorem wy5(h:waP ws k np)(h2:¬(ws.getD k AE.z).b<=(ws.getD k AE.z).a)(h3:(ws.take k).any (λy=>decide (y.a=(ws.getD k AE.z).a/\y.b=(ws.getD k AE.z).b))=true):C9 np ws k=5:=by
 unfold C9;rw [Lh h.1 h.2,if_neg aD,if_neg h2,if_pos h3]
theorem wy1(h:waP ws k np)(h2:¬(ws.getD k AE.z).b<=(ws.getD k AE.z).a)(h3:(ws.take k).any (λy=>decide (y.a=(ws.getD k AE.z).a/\y.b=(ws.getD k AE.z).b))=false)(h4:¬(((0<=(ws.getD k AE.z).low/\(ws.getD k AE.z).low<=(ws.getD k AE.z).high)/\(ws.getD k AE.z).high<=30)/\(ws.getD k AE.z).high-(ws.getD k AE.z).low<2)):C9 np ws k=1:=by
 unfold C9;rw [Lh h.1 h.2,if_neg aD,if_neg h2,if_neg (by rw [h3];simp)];exact if_pos h4
theorem wy0(h:waP ws k np)(h2:¬(ws.getD k AE.z).b<=(ws.getD k AE.z).a)(h3:(ws.take k).any (λy=>decide (y.a=(ws.getD k AE.z).a/\y.b=(ws.getD k AE.z).b))=false)(h4:(((0<=(ws.getD k AE.z).low/\(ws.getD k AE.z).low<=(ws.getD k AE.z).high)/\(ws.getD k AE.z).high<=30)/\(ws.getD k AE.z).high-(ws.getD k AE.z).low<2)):C9 np ws k=0:=by
 unfold C9;rw [Lh h.1 h.2,if_neg aD,if_neg h2,if_neg (by rw [h3];simp)];exact if_neg (λe=>e h4)
theorem WG(h:∀k,k<ws.length->C9 np ws k=0):Pi np ws:=λk hk=>by
 have:=h k hk
 unfold C9 at this;split at this
 ·rename_i a;exact absurd this a
 ·rename_i a
  have q:=FO (Decidable.not_not.1 a);have q1:=q _ List.mem_cons_self;have q2:=q _ (List.mem_cons_of_mem _ List.mem_cons_self);omega
theorem rw2(h:(5:Int)<ws.length):FQ np ws=2:=if_pos h
theorem TL{c:Int}(h5:¬(5:Int)<ws.length)(hs:∀j,j<k->C9 np ws j=0)(hk:k<ws.length)(e:C9 np ws k=c)(hc:c≠0):FQ np ws=c:=by
 have h1:=BO hs hk e hc;rw [FQ,if_neg h5,h1,if_pos hc]
theorem rw8(h5:¬(5:Int)<ws.length)(hs:∀j,j<k->C9 np ws j=0)(hk:ws.length<=k)(h:((G7 ws).length:Int)<np):FQ np ws=8:=by
 rw [FQ,if_neg h5,CH hs hk,if_neg aD,if_pos aA]
theorem rw0(h5:¬(5:Int)<ws.length)(hs:∀j,j<k->C9 np ws j=0)(hk:ws.length<=k)(h:¬((G7 ws).length:Int)<np):FQ np ws=0:=by
 rw [FQ,if_neg h5,CH hs hk,if_neg aD,if_neg aA]
theorem jb6(h:¬(0<=(js.getD k AM.z).place/\(js.getD k AM.z).place<=(np:Int)-1)):Fh np kinds js k=6:=by
 unfold Fh;rw [miss_no1 h,if_pos aC]
theorem jb1(h:0<=(js.getD k AM.z).place/\(js.getD k AM.z).place<=(np:Int)-1)(h2:¬(((0<=(js.getD k AM.z).low/\(js.getD k AM.z).low<=(js.getD k AM.z).high)/\(js.getD k AM.z).high<=30)/\(js.getD k AM.z).high-(js.getD k AM.z).low<2)\/¬(0<=(js.getD k AM.z).due/\(js.getD k AM.z).due<=200)):Fh np kinds js k=1:=by
 unfold Fh;rw [Pj h,if_neg aD];exact if_pos h2
theorem jb2(h:0<=(js.getD k AM.z).place/\(js.getD k AM.z).place<=(np:Int)-1)(h2:¬(¬(((0<=(js.getD k AM.z).low/\(js.getD k AM.z).low<=(js.getD k AM.z).high)/\(js.getD k AM.z).high<=30)/\(js.getD k AM.z).high-(js.getD k AM.z).low<2)\/¬(0<=(js.getD k AM.z).due/\(js.getD k AM.z).due<=200)))(h3:¬((js.getD k AM.z).parts.length:Int)=kinds):Fh np kinds js k=2:=by
 unfold Fh;rw [Pj h,if_neg aD];exact (if_neg h2).trans (if_pos h3)
theorem jb3(h:0<=(js.getD k AM.z).place/\(js.getD k AM.z).place<=(np:Int)-1)(h2:¬(¬(((0<=(js.getD k AM.z).low/\(js.getD k AM.z).low<=(js.getD k AM.z).high)/\(js.getD k AM.z).high<=30)/\(js.getD k AM.z).high-(js.getD k AM.z).low<2)\/¬(0<=(js.getD k AM.z).due/\(js.getD k AM.z).due<=200)))(h3:((js.getD k AM.z).parts.length:Int)=kinds):Fh np kinds js k=if (js.getD k AM.z).parts.any (λn=>decide (¬(0<=n/\n<=5))) then 1 else 0:=by
 unfold Fh;rw [Pj h,if_neg aD];exact (if_neg h2).trans (if_neg (λe=>e h3))
theorem nt2(h:(5:Int)<(ns.getD k AK.z).ways.length):Dz nw ns k=2:=if_pos h
theorem nt6(h:¬(5:Int)<(ns.getD k AK.z).ways.length)(h2:(ns.getD k AK.z).ways.any (λn=>decide (¬(0<=n/\n<=(nw:Int)-1)))=true):Dz nw ns k=6:=by
 unfold Dz;rw [if_neg h,if_pos h2]
theorem nt1(h:¬(5:Int)<(ns.getD k AK.z).ways.length)(h2:(ns.getD k AK.z).ways.any (λn=>decide (¬(0<=n/\n<=(nw:Int)-1)))=false)(h3:¬((0<=(ns.getD k AK.z).low/\(ns.getD k AK.z).low<=(ns.getD k AK.z).high)/\(ns.getD k AK.z).high<=200)):Dz nw ns k=1:=by
 unfold Dz;rw [if_neg h,if_neg (by rw [h2];simp),if_pos (λe=>h3 e.1)]
theorem nt0(h:¬(5:Int)<(ns.getD k AK.z).ways.length)(h2:(ns.getD k AK.z).ways.any (λn=>decide (¬(0<=n/\n<=(nw:Int)-1)))=false)(h3:(0<=(ns.getD k AK.z).low/\(ns.getD k AK.z).low<=(ns.getD k AK.z).high)/\(ns.getD k AK.z).high<=200):Dz nw ns k=0:=by
 unfold Dz;rw [if_neg h,if_neg (by rw [h2];simp),if_neg (λe=>e ⟨h3,aA⟩)]
end
section
variable {ps:List ByteArray} {k:Nat} {a b:List (Int×Int)}
theorem pa4(h:Ej (ps.getD k (⟨#[]⟩:ByteArray))=false):E6 ps k=4:=by unfold E6;rw [if_pos h]
theorem pa5(h:Ej (ps.getD k (⟨#[]⟩:ByteArray))=true)(h2:0<=idxOf (λx=>(ps.getD k (⟨#[]⟩:ByteArray)).toList==x.toList) (ps.take k)):E6 ps k=5:=by
 unfold E6;rw [if_neg (by rw [h];simp),if_pos ((E4 _ _).1 h2)]
theorem pa0(h:Ej (ps.getD k (⟨#[]⟩:ByteArray))=true)(h2:¬0<=idxOf (λx=>(ps.getD k (⟨#[]⟩:ByteArray)).toList==x.toList) (ps.take k)):E6 ps k=0:=by
 unfold E6;rw [if_neg (by rw [h];simp),if_neg λe=>h2 ((E4 _ _).2 e)]
theorem QX(hs:a.take k=b.take k)(hk:k<=a.length)(h:¬(k:Int)<a.length)(hl:(a.length:Int)=b.length):a=b:=by
 rw [List.take_of_length_le aA,List.take_of_length_le aA] at hs;exact hs
theorem eq_getDP{k:Nat}(h:((a.getD k (0,0)).1==(b.getD k (0,0)).1 && ((a.getD k (0,0)).2==(b.getD k (0,0)).2 && true))=true):a.getD k (0,0)=b.getD k (0,0):=by
 simp only [Bool.and_true,Bool.and_eq_true,beq_iff_eq] at h;exact Prod.ext h.1 h.2
theorem ne_getDP{k:Nat}(h:(!((a.getD k (0,0)).1==(b.getD k (0,0)).1 && ((a.getD k (0,0)).2==(b.getD k (0,0)).2 && true)))=true):¬a=b:=λe=>by rw [e] at h;simp at h
end
section
variable (bag kinds:Int) (ps:List ByteArray) (ws:List AE) (js:List AM) (ns:List AK)
def EB:Bool:=decide ((((20:Int)<ps.length\/(20:Int)<ws.length)\/(20:Int)<js.length)\/(20:Int)<ns.length) || ps.any (λs=>decide ((100:Int)<s.size)) || js.any (λj=>decide ((20:Int)<j.parts.length)) || ns.any λn=>decide ((20:Int)<n.ways.length)
def fit9:Bool:= !EB ps ws js ns && decide (Do bag kinds ps ws js ns=0)
end
section
variable {ps:List ByteArray} {ws:List AE} {js:List AM} {ns:List AK} {k:Nat}
theorem Li(h:EB ps ws js ns=false)(k:Nat):(ps.getD k (⟨#[]⟩:ByteArray)).size<=1000:=by
 unfold EB at h;simp only [Bool.or_eq_false_iff] at h;by_cases hk:k<ps.length
 ·have:=List.any_eq_false.1 h.1.1.2 _ (Br (d:=(⟨#[]⟩:ByteArray)) hk)
  have:=of_decide_eq_false (Bool.eq_false_iff.2 this)
  omega
 ·rw [CF aA];decide
end
section
variable {bag kinds:Int} {ps:List ByteArray} {ws:List AE} {js:List AM} {ns:List AK}
theorem Jn(h:BQ ps=0):0<ps.length/\ps.length<=4:=by
 unfold BQ at h;split at h
 ·cases h
 ·omega
theorem rc1(h:¬(0<=bag/\bag<=9)\/¬(0<=kinds/\kinds<=3)):Do bag kinds ps ws js ns=1:=by
 have e:Gi bag kinds=1:=if_pos h;unfold Do;rw [e,if_pos aC]
theorem tb0(h:¬(¬(0<=bag/\bag<=9)\/¬(0<=kinds/\kinds<=3))):Gi bag kinds=0:=if_neg h
theorem rc2(h0:¬(¬(0<=bag/\bag<=9)\/¬(0<=kinds/\kinds<=3)))(h:¬BQ ps=0):Do bag kinds ps ws js ns=BQ ps:=by unfold Do;rw [tb0 h0,if_neg aD,if_pos h]
theorem rc3(h0:¬(¬(0<=bag/\bag<=9)\/¬(0<=kinds/\kinds<=3)))(h1:¬¬BQ ps=0)(h:¬FQ ps.length ws=0):Do bag kinds ps ws js ns=FQ ps.length ws:=by unfold Do;rw [tb0 h0,if_neg aD,if_neg h1,if_pos h]
theorem rc4(h0:¬(¬(0<=bag/\bag<=9)\/¬(0<=kinds/\kinds<=3)))(h1:¬¬BQ ps=0)(h2:¬¬FQ ps.length ws=0)(h:¬B8 ps.length kinds js=0):Do bag kinds ps ws js ns=B8 ps.length kinds js:=by unfold Do;rw [tb0 h0,if_neg aD,if_neg h1,if_neg h2,if_pos h]
theorem rc5(h0:¬(¬(0<=bag/\bag<=9)\/¬(0<=kinds/\kinds<=3)))(h1:¬¬BQ ps=0)(h2:¬¬FQ ps.length ws=0)(h:¬¬B8 ps.length kinds js=0):Do bag kinds ps ws js ns=Ce ws.length ns:=by unfold Do;rw [tb0 h0,if_neg aD,if_neg h1,if_neg h2,if_neg h]
theorem gr_len(h:(((20:Int)<ps.length\/(20:Int)<ws.length)\/(20:Int)<js.length)\/(20:Int)<ns.length):EB ps ws js ns=true:=by unfold EB;rw [decide_eq_true h];rfl
theorem gr_p(h:ps.any (λs=>decide ((100:Int)<s.size))=true):EB ps ws js ns=true:=by unfold EB;rw [h];simp
theorem gr_j(h:js.any (λj=>decide ((20:Int)<j.parts.length))=true):EB ps ws js ns=true:=by unfold EB;rw [h];simp
theorem gr_n(h:ns.any (λn=>decide ((20:Int)<n.ways.length))=true):EB ps ws js ns=true:=by unfold EB;rw [h];simp
theorem gr_0(h:¬((((20:Int)<ps.length\/(20:Int)<ws.length)\/(20:Int)<js.length)\/(20:Int)<ns.length))(h1:ps.any (λs=>decide ((100:Int)<s.size))=false)(h2:js.any (λj=>decide ((20:Int)<j.parts.length))=false)(h3:ns.any (λn=>decide ((20:Int)<n.ways.length))=false):EB ps ws js ns=false:=by
 unfold EB;rw [decide_eq_false h,h1,h2,h3];rfl
end
end Go.Ns
namespace Go.Ns
def CU:List ByteArray:=[⟨#[119,111,114,107,115]⟩,⟨#[97,121,114]⟩,⟨#[98,117,116,101]⟩]
theorem C8:∀k,(CU.getD k (⟨#[]⟩:ByteArray)).size<=1000
 | 0=>aC
 | 1=>aC
 | 2=>aC
 | k+3=>by rw [CF (by simp [CU])];decide
def CP:List AE:=[⟨0,1,2,3⟩,⟨1,2,4,4⟩,⟨0,2,5,5⟩]
def B5(a b c:Value):List AM:=[⟨1,1,1,5,a,[2]⟩,⟨2,1,2,12,b,[1]⟩,⟨0,1,1,20,c,[1]⟩]
theorem C3.ex{h:GH}{t:TypeId}{a b c:Value}(x:Dm h t a [2])(y:Dm h t b [1])(z:Dm h t c [1]):C3 h t (B5 a b c):=λk=>by
 match k with
 | 0=>exact x
 | 1=>exact y
 | 2=>exact z
 | k+3=>rw [CF (by show 3<=_;omega)];exact Dm.nil _ _
theorem AD.isSl{V:Type}{h:GH}{v:Value}{n:Nat}{enc:V->Array Value}{xs:List V}(x:AD h v n enc xs):∀k i,v≠.int k i:=by
 obtain ⟨a,cap,rfl,_⟩:=x;intro k i e;cases e
theorem AD.across9{h h':GH}{v:Value}{xs:List Int}{r:Nat}{a b c d:Value}{T:TypeId}(x:AD h v 1 eI xs)(hb:h r=some (true,.cells #[.int .i64 3,.int .i64 1,a,b,c,d] T (0,0)))(ho:∀y,y≠r->h' y=h y)
  (ha:∀k i,a≠.int k i) (hb':∀k i,b≠.int k i) (hc:∀k i,c≠.int k i) (hd:∀k i,d≠.int k i) (hx:∀o,o<6->∃i:Fin xs.length,(o+i.val=0->xs[i.val]≠3)/\(o+i.val=1->xs[i.val]≠1)):AD h' v 1 eI xs:=by
 obtain ⟨ad,cap,hv,hcap,hm,he⟩:=x;refine ⟨ad,cap,hv,hcap,hm,λi hi=>?_⟩;obtain ⟨y,off,h1,h2⟩:=he i hi;refine ⟨y,off,h1,h2.same (ho y ?_)⟩;rintro rfl;have key:∀j (hj:j<xs.length),off+j<6/\(#[Value.int .i64 3,.int .i64 1,a,b,c,d]:Array Value).extract (off+j) (off+j+1)=eI xs[j]:=λj hj=>by
  obtain ⟨y2,off2,h3,h4⟩:=he j hj;rw [h1] at h3;simp only [Option.some.injEq,Addr.mk.injEq,and_true] at h3;obtain ⟨rfl,rfl⟩:=h3;obtain ⟨p,cc,t,f,q1,q2,q3⟩:=h4;rw [hb] at q1;simp only [Option.some.injEq,Prod.mk.injEq,Obj.cells.injEq] at q1;obtain ⟨_,rfl,_⟩:=q1;rw [Nat.mul_one] at q2 q3;exact ⟨by simp at q2;omega,q3⟩
 obtain ⟨⟨j,hj⟩,e0,e1⟩:=hx off (by have:=(key i hi).1;omega);obtain ⟨k1,k2⟩:=key j hj;simp only at e0 e1;generalize off+j=o at k1 k2 e0 e1;generalize xs[j]=z at k2 e0 e1
 have:o=0\/o=1\/o=2\/o=3\/o=4\/o=5:=aA
 rcases this with rfl | rfl | rfl | rfl | rfl | rfl
 ·have k3:(#[.int .i64 3]:Array Value)=#[.int .i64 z]:=k2;simp at k3;exact e0 rfl k3.symm
 ·have k3:(#[.int .i64 1]:Array Value)=#[.int .i64 z]:=k2;simp at k3;exact e1 rfl k3.symm
 ·have k3:(#[a]:Array Value)=#[.int .i64 z]:=k2;simp at k3;exact ha _ _ k3
 ·have k3:(#[b]:Array Value)=#[.int .i64 z]:=k2;simp at k3;exact hb' _ _ k3
 ·have k3:(#[c]:Array Value)=#[.int .i64 z]:=k2;simp at k3;exact hc _ _ k3
 ·have k3:(#[d]:Array Value)=#[.int .i64 z]:=k2;simp at k3;exact hd _ _ k3
end Go.Ns
namespace Go.Ns
section
variable {m:EH} {b np i k n:Nat}
structure EH.Sym(m:EH):Prop where
 ok:m.ok
 diag:∀i,m i i=0
 sym:∀i k,m i k=m k i
theorem Uk(b i:Nat)(m:EH)(hd:m b b=0)(h0:m.ok):∀n x y,HL b i m n x y=if x=i/\y<n then min (m i y) (m i b+m b y) else m x y
 | 0,x,y=>by rw [if_neg aA];rfl
 | n+1,x,y=>by
  have ih:=Uk b i m hd h0 n;have e:HL b i m (n+1)=OE b i (HL b i m n) n:=A4 _ _ _;rw [e];unfold OE EH.set;by_cases hxy:x=i/\y=n
  ·obtain ⟨rfl,rfl⟩:=hxy;rw [if_pos ⟨rfl,rfl⟩,if_pos ⟨rfl,Nat.lt_succ_self _⟩,ih x y,if_neg aA,ih x b,ih b y];have hb:=h0 x b;have hby:=h0 b y;have hd2:=hd;by_cases h1:x=x/\b<y
   ·rw [if_pos h1];by_cases h2:b=x/\y<y
    ·omega
    ·rw [if_neg h2];rw [hd2];omega
   ·rw [if_neg h1];by_cases h2:b=x/\y<y
    ·omega
    ·rw [if_neg h2]
  ·rw [if_neg hxy,ih x y];by_cases h1:x=i/\y<n
   ·rw [if_pos h1,if_pos ⟨h1.1,aA⟩]
   ·rw [if_neg h1,if_neg (λe=>h1 ⟨e.1,aA⟩)]
theorem ZJ(b i:Nat)(m:EH)(hd:m b b=0)(h0:m.ok)(x y:Nat):NQ b np m i x y=if x=i/\y<np then min (m i y) (m i b+m b y) else m x y:=by
 unfold NQ;split
 ·rename_i e
  by_cases h1:x=i/\y<np
  ·obtain ⟨rfl,h2⟩:=h1;rw [if_pos ⟨rfl,h2⟩,e]
   have:=h0 x y
   have:=h0 b y
   omega
  ·rw [if_neg h1]
 ·exact Uk b i m hd h0 np x y
theorem Ul(b:Nat)(m:EH)(hd:m b b=0)(h0:m.ok):∀n x y,Ec b np m n x y=if x<n/\y<np then min (m x y) (m x b+m b y) else m x y
 | 0,x,y=>by rw [if_neg aA];rfl
 | n+1,x,y=>by
  have ih:=Ul b m hd h0 n;have e:Ec b np m (n+1)=NQ b np (Ec b np m n) n:=A4 _ _ _;have hd2:Ec b np m n b b=0:=by rw [ih b b,hd];split <;> omega
  rw [e,ZJ b n _ hd2 (OF h0)];by_cases h1:x=n/\y<np
  ·obtain ⟨rfl,h2⟩:=h1;rw [if_pos ⟨rfl,h2⟩,if_pos ⟨Nat.lt_succ_self _,h2⟩,ih x y,if_neg aA,ih x b,if_neg aA,ih b y];have h3:=h0 x b;have h4:=h0 b y;by_cases h5:b<x/\y<np
   ·rw [if_pos h5,hd];omega
   ·rw [if_neg h5]
  ·rw [if_neg h1,ih x y];by_cases h2:x<n/\y<np
   ·rw [if_pos h2,if_pos ⟨aA,h2.2⟩]
   ·rw [if_neg h2,if_neg (λe=>aA)]
structure FW(np n:Nat)(m0 m:EH):Prop where
 s:m.Sym
 tri:∀c,c<n->∀i k,i<np->k<np->m i k<=m i c+m c k
 le:∀i k,m i k<=m0 i k
theorem FW.step{m0:EH}(h:FW np n m0 m)(hn:n<np):FW np (n+1) m0 (Ec n np m np):=by
 have g:=Ul (np:=np) n m (h.s.diag n) h.s.ok np;have s:=h.s;have p:=λi k=>s.ok i k;refine ⟨⟨OF s.ok,λi=>?_,λi k=>?_⟩,λc hc i k hi hk=>?_,λi k=>?_⟩
 ·rw [g i i];have:=p i n;have:=p n i;have:=s.diag i;split <;> omega
 ·rw [g i k,g k i];have h1:=s.sym i k;have h2:=s.sym i n;have h3:=s.sym k n;by_cases c:i<np/\k<np
  ·rw [if_pos c,if_pos ⟨c.2,c.1⟩];omega
  ·rw [if_neg c,if_neg (λe=>c ⟨e.2,e.1⟩)];exact h1
 ·rw [g i k,g i c,g c k,if_pos ⟨hi,hk⟩,if_pos ⟨hi,aA⟩,if_pos ⟨aA,hk⟩];have d:=s.diag n
  have:=p i n
  have:=p n k
  have:=p n c
  have:=p c n
  rcases Nat.lt_or_ge c n with q | q
  ·have t1:=h.tri c q i k hi hk;have t2:=h.tri c q i n hi hn;have t3:=h.tri c q n k hn hk;omega
  ·have:c=n:=aA
   subst this;omega
 ·rw [g i k];have:=h.le i k;split <;> omega
theorem FW.all{m0:EH}(s:m0.Sym):∀n,n<=np->FW np n m0 (DD np m0 n)
 | 0,_=>⟨s,λc hc=>absurd hc (Nat.not_lt_zero _),λ_ _=>Int.le_refl _⟩
 | n+1,h=>by
  have ih:=FW.all s n aA;have e:DD np m0 (n+1)=Ec n np (DD np m0 n) np:=A4 _ _ _;rw [e];exact ih.step aA
end
theorem Rk(i:Nat)(m:EH):∀n x y,Gx i m n x y=if x=i/\y<n/\i≠y then 1048576 else m x y
 | 0,x,y=>by rw [if_neg aA];rfl
 | n+1,x,y=>by
  have ih:=Rk i m n;have e:Gx i m (n+1)=Kj i (Gx i m n) n:=A4 _ _ _;rw [e];unfold Kj;by_cases h:(i:Int)=(n:Int)
  ·rw [if_neg (λq=>q h),ih x y];by_cases c:x=i/\y<n/\i≠y
   ·rw [if_pos c,if_pos ⟨c.1,aA,c.2.2⟩]
   ·rw [if_neg c,if_neg (λq=>c ⟨q.1,aA,q.2.2⟩)]
  ·rw [if_pos h];show (if x=i/\y=n then 1048576 else Gx i m n x y)=_;by_cases c:x=i/\y=n
   ·rw [if_pos c,if_pos ⟨c.1,aA,aA⟩]
   ·rw [if_neg c,ih x y];by_cases d:x=i/\y<n/\i≠y
    ·rw [if_pos d,if_pos ⟨d.1,aA,d.2.2⟩]
    ·rw [if_neg d,if_neg (λq=>d ⟨q.1,aA,q.2.2⟩)]
theorem Lj:∀n x y,Ic n x y=if x<n/\y<4/\x≠y then 1048576 else 0
 | 0,x,y=>by rw [if_neg aA];rfl
 | n+1,x,y=>by
  have ih:=Lj n;have e:Ic (n+1)=Gx n (Ic n) 4:=A4 _ _ _;rw [e,Rk,ih x y];by_cases c:x=n/\y<4/\n≠y
  ·rw [if_pos c,if_pos ⟨aA,c.2.1,aA⟩]
  ·rw [if_neg c];by_cases d:x<n/\y<4/\x≠y
   ·rw [if_pos d,if_pos ⟨aA,d.2⟩]
   ·rw [if_neg d,if_neg (λq=>aA)]
theorem far0_sym:(Ic 4).Sym:=⟨Xx,λi=>by rw [Lj,if_neg (λq=>q.2.2 rfl)],λi k=>by
 rw [Lj,Lj];by_cases c:i<4/\k<4/\i≠k
 ·rw [if_pos c,if_pos ⟨c.2.1,c.1,c.2.2.symm⟩]
 ·rw [if_neg c,if_neg (λq=>c ⟨q.2.1,q.1,q.2.2.symm⟩)]⟩
section
variable {p:AG} {ws:List AE} {np:Nat}
structure TM(ws:List AE):Prop where
 rng:∀k,k<ws.length->0<=(ws.getD k AE.z).a/\(ws.getD k AE.z).a<(ws.getD k AE.z).b
 one:∀j k,j<k->k<ws.length->¬((ws.getD j AE.z).a=(ws.getD k AE.z).a/\(ws.getD j AE.z).b=(ws.getD k AE.z).b)
theorem wayFine(h:∀k,k<ws.length->C9 np ws k=0):TM ws:=by
 have key:∀k,k<ws.length->(0<=(ws.getD k AE.z).a)/\¬(ws.getD k AE.z).b<=(ws.getD k AE.z).a/\(ws.take k).any (λy=>decide (y.a=(ws.getD k AE.z).a/\y.b=(ws.getD k AE.z).b))=false:=λk hk=>by
  have w:=(WG h k hk).1.1
  have:=h k hk
  unfold C9 at this;split at this
  ·rename_i a;exact absurd this a
  ·split at this
   ·cases this
   ·rename_i b
    split at this
    ·cases this
    ·rename_i c
     exact ⟨w,b,by simpa using c⟩
 refine ⟨λk hk=>⟨(key k hk).1,by have:=(key k hk).2.1;omega⟩,λj k hj hk e=>?_⟩
 have:=(key k hk).2.2
 rw [Uj (d:=AE.z) hj aA (decide_eq_true e)] at this;cases this
theorem WH(m:EH)(k x y:Nat)(hk:(ws.getD k AE.z).a.toNat≠(ws.getD k AE.z).b.toNat):MN p ws m k x y=if (x=(ws.getD k AE.z).a.toNat/\y=(ws.getD k AE.z).b.toNat)\/(x=(ws.getD k AE.z).b.toNat/\y=(ws.getD k AE.z).a.toNat) then p.ways k else m x y:=by
 unfold MN EH.set;by_cases c:x=(ws.getD k AE.z).b.toNat/\y=(ws.getD k AE.z).a.toNat
 ·rw [if_pos c,if_pos (.inr c)]
 ·rw [if_neg c];by_cases d:x=(ws.getD k AE.z).a.toNat/\y=(ws.getD k AE.z).b.toNat
  ·rw [if_pos d,if_pos (.inl d)]
  ·rw [if_neg d,if_neg (λq=>q.elim d c)]
theorem Nj(hp:Bw p)(hw:TM ws):∀n,n<=ws.length->(BM p ws n).Sym
 | 0,_=>far0_sym
 | n+1,h=>by
  have ih:=Nj hp hw n aA;have r:=hw.rng n aA;have g:=λx y=>WH (p:=p) (ws:=ws) (BM p ws n) n x y aA;have e:BM p ws (n+1)=MN p ws (BM p ws n) n:=A4 _ _ _;refine ⟨Kk hp,λi=>?_,λi k=>?_⟩
  ·rw [e,g,if_neg aA];exact ih.diag i
  ·rw [e,g,g];by_cases c:(i=(ws.getD n AE.z).a.toNat/\k=(ws.getD n AE.z).b.toNat)\/(i=(ws.getD n AE.z).b.toNat/\k=(ws.getD n AE.z).a.toNat)
   ·rw [if_pos c,if_pos aA]
   ·rw [if_neg c,if_neg aA];exact ih.sym i k
theorem WI(hp:Bw p)(hw:TM ws):FW np np (BM p ws ws.length) (Av np ws p):=FW.all (Nj hp hw _ (Nat.le_refl _)) np (Nat.le_refl _)
end
end Go.Ns
namespace Go.Ns
section
variable {ws:List AE} {c:Hm} {x:AE} {i n k np:Nat}
theorem Jo(h:c i=true):Hn c x i=true:=by
 unfold Hn Hm.set;by_cases e:i=x.b.toNat
 ·rw [if_pos e];by_cases e2:x.b.toNat=x.a.toNat
  ·rw [if_pos e2];rw [e,e2] at h;rw [h];simp
  ·rw [if_neg e2,<-e,h];simp
 ·rw [if_neg e];by_cases e2:i=x.a.toNat
  ·rw [if_pos e2,<-e2,h];simp
  ·rw [if_neg e2];exact h
theorem Um(h:c x.a.toNat=true\/c x.b.toNat=true):Hn c x x.a.toNat=true/\Hn c x x.b.toNat=true:=by
 unfold Hn Hm.set;rcases h with h | h
 ·constructor
  ·by_cases e:x.a.toNat=x.b.toNat
   ·rw [if_pos e];simp [h]
   ·rw [if_neg e];simp [h]
  ·rw [if_pos rfl];simp [h]
 ·constructor
  ·by_cases e:x.a.toNat=x.b.toNat
   ·rw [if_pos e];simp [h]
   ·rw [if_neg e];simp [h]
  ·rw [if_pos rfl];simp [h]
theorem HQ:∀(l:List AE)(c:Hm),c i=true->l.foldl Hn c i=true
 | [],_,h=>h
 | x ::l,c,h=>HQ l _ (Jo h)
theorem I9:∀(l:List AE)(c:Hm),x ∈ l->(c x.a.toNat=true\/c x.b.toNat=true)->l.foldl Hn c x.a.toNat=true/\l.foldl Hn c x.b.toNat=true
 | y ::l,c,hx,h=>by
  rcases List.mem_cons.1 hx with e | hx
  ·subst e;have b:=Um h;exact ⟨HQ l _ b.1,HQ l _ b.2⟩
  ·exact I9 l _ hx (h.imp Jo Jo)
theorem Jp:∀n (c:Hm),Ek ws (n+1) c=Gu ws (Ek ws n c)
 | 0,_=>rfl
 | n+1,c=>Jp n (Gu ws c)
theorem MY{m:Nat}(h:Ek ws n c i=true):∀d,m=n+d->Ek ws m c i=true
 | 0,e=>by rw [e];exact h
 | d+1,e=>by
  rw [e,show n+(d+1)=(n+d)+1 by omega,Jp];exact HQ ws _ (MY h d rfl)
def c0:Hm:=Hm.none.set 0 true
def Id(ws:List AE)(l:List Int):Prop:=∀i,i<l.length->Ek ws i c0 (l.getD i 0).toNat=true
theorem Id.snoc{l:List Int}{q:Int}(h:Id ws l)(hq:Ek ws l.length c0 q.toNat=true):Id ws (l++[q]):=λi hi=>by
 rw [List.length_append,List.length_singleton] at hi;rw [PQ];by_cases e:i<l.length
 ·rw [if_pos e];exact h i e
 ·rw [if_neg e,show i=l.length by omega,Nat.sub_self];exact hq
theorem Id.step{l:List Int}(h:Id ws l)(hk:k<l.length)(hx:x ∈ ws):Id ws (C7 l k x):=by
 have one:∀{l:List Int}{p q:Int},Id ws l->k<l.length->(x.a=p/\x.b=q\/x.b=p/\x.a=q)->Id ws (IR l k p q):=by
  intro l p q h hk hpq;unfold IR;split
  ·rename_i e
   have f:=h k hk;rw [<-e.1] at f;have g:Ek ws (k+1) c0 q.toNat=true:=by
    rw [Jp];rcases hpq with ⟨rfl,rfl⟩ | ⟨rfl,rfl⟩
    ·exact (I9 ws _ hx (.inl f)).2
    ·exact (I9 ws _ hx (.inr f)).1
   exact h.snoc (MY g (l.length-(k+1)) aA)
  ·exact h
 have h1:=one h hk (.inl ⟨rfl,rfl⟩);have hl:=(Kp l k x.a x.b).length_le;exact one h1 aA (.inr ⟨rfl,rfl⟩)
theorem Id.ways{l:List Int}(h:Id ws l)(hk:k<l.length):∀j,j<=ws.length->Id ws (Ah ws l k j)
 | 0,_=>h
 | j+1,hj=>(Id.ways h hk j aA).step (Nat.lt_of_lt_of_le hk (IS j).length_le) (Br aA)
theorem MZ:∀k,Id ws (Ax ws k)
 | 0=>λi hi=>by
  have:i=0:=by
   have:i<1:=hi
   omega
  subst this;rfl
 | k+1=>by
  unfold Ax;split
  ·rename_i e;exact (MZ k).ways e _ (Nat.le_refl _)
  ·exact MZ k
theorem TN(hn:0<np)(hw:Pi np ws)(h:¬(G7 ws).length<np):Gj np ws=0:=by
 have ok:Ht np (G7 ws):=KA hn hw 4;have hl:=ok.len;have all:∀y,y<np->Ek ws np c0 y=true:=λy hy=>by
  have mem:(y:Int) ∈ G7 ws:=Decidable.byContradiction λe=>by
   have:=(ok.snoc (x:=(y:Int)) ⟨aA,aA⟩ e).len
   rw [List.length_append,List.length_singleton] at this;omega
  obtain ⟨i,hi,e⟩:=List.mem_iff_getElem.1 mem;have f:Ek ws i c0 ((G7 ws).getD i 0).toNat=true:=MZ (ws:=ws) 4 i hi;have e2:(G7 ws).getD i 0=(y:Int):=by
   rw [List.getD_eq_getElem?_getD,List.getElem?_eq_getElem hi];exact e
  rw [e2] at f;exact MY f (np-i) (by have hi':i<(G7 ws).length:=hi;omega)
 unfold Gj;rw [if_neg];intro e;obtain ⟨b,hb,hf⟩:=List.any_eq_true.1 e;unfold O9 at hb;obtain ⟨y,hy,rfl⟩:=List.mem_map.1 hb
 have:Ek ws np (Hm.none.set 0 true) y=true:=all y (List.mem_range.1 hy)
 rw [this] at hf;cases hf
end
section
variable {bag kinds:Int} {ps:List ByteArray} {ws:List AE} {js:List AM} {ns:List AK}
theorem WJ(hn:0<ps.length)(h:FQ ps.length ws=0):El ps.length ws=0:=by
 unfold FQ at h;split at h
 ·cases h
 ·rename_i a
  split at h
  ·rename_i b;exact absurd h b
  ·rename_i b
   split at h
   ·cases h
   ·rename_i c
    unfold El;rw [if_neg a,if_neg b];have z:=DN (Decidable.not_not.1 b);exact TN hn (WG λk hk=>z k (Nat.zero_le _) aA) c
theorem Un(h:Do bag kinds ps ws js ns=0):BP bag kinds ps ws js ns=0:=by
 unfold Do at h;split at h
 ·rename_i a;exact absurd h a
 ·rename_i a
  split at h
  ·rename_i b;exact absurd h b
  ·rename_i b
   split at h
   ·rename_i c;exact absurd h c
   ·rename_i c
    split at h
    ·rename_i d;exact absurd h d
    ·rename_i d
     have h1:=Decidable.not_not.1 a;have h2:=Decidable.not_not.1 b;have h3:=WJ (Jn h2).1 (Decidable.not_not.1 c);have h4:=Decidable.not_not.1 d;unfold BP;refine CH (k:=5) (λj hj=>?_) (Nat.le_refl _)
     match j with
     | 0=>exact h1
     | 1=>exact h2
     | 2=>exact h3
     | 3=>exact h4
     | 4=>exact h
     | j+5=>omega
theorem fit9_ok(h:fit9 bag kinds ps ws js ns=true):BP bag kinds ps ws js ns=0/\∀k,(ps.getD k (⟨#[]⟩:ByteArray)).size<=1000:=by
 unfold fit9 at h;rw [Bool.and_eq_true] at h;exact ⟨Un (of_decide_eq_true h.2),Li (by simpa using h.1)⟩
end
end Go.Ns
namespace Go.Ns
open Go.Conc
section
variable {P:Program} {E:GM P} {O:Nat->Value} {ds:List Deferred} {h:GH} {T:(Nat->Value)->List Deferred->GH->Prop} {dst:Option Nat} {ty:TypeId} {pos:String} {af:Array Edge} {gd:Option (Nat×Bool)}
end
section
variable {F G:AG->Int} {l:List AG} {x:AG}
theorem YC(h:0<l.length):∀k,k<=l.length-1->∃x ∈ l,UK F l k=F x
 | 0,_=>⟨_,Br h,rfl⟩
 | k+1,hk=>by
  obtain ⟨x,hx,e⟩:=YC h k aA;rcases Int.le_total (UK F l k) (F ((l.drop 1).getD k AG.zero)) with q | q
  ·exact ⟨x,hx,(Int.min_eq_left q).trans e⟩
  ·exact ⟨_,MO aA,Int.min_eq_right q⟩
theorem YD(h:0<l.length):∀k,k<=l.length-1->∃x ∈ l,UL F l k=F x
 | 0,_=>⟨_,Br h,rfl⟩
 | k+1,hk=>by
  obtain ⟨x,hx,e⟩:=YD h k aA;rcases Int.le_total (UL F l k) (F ((l.drop 1).getD k AG.zero)) with q | q
  ·exact ⟨_,MO aA,Int.max_eq_right q⟩
  ·exact ⟨x,hx,(Int.max_eq_left q).trans e⟩
theorem Uo{k:Nat}:(l.drop 1).getD k AG.zero=l.getD (k+1) AG.zero:=by
 rw [List.getD_eq_getElem?_getD,List.getElem?_drop,<-List.getD_eq_getElem?_getD,Nat.add_comm]
theorem fLo_le:∀k j,j<=k->UK F l k<=F (l.getD j AG.zero)
 | 0,j,h=>by rw [show j=0 by omega];exact Int.le_refl _
 | k+1,j,h=>by
  show min (UK F l k) (F ((l.drop 1).getD k AG.zero))<=_;rcases Nat.lt_or_ge j (k+1) with q | q
  ·have:=fLo_le k j aA;omega
  ·have e:j=k+1:=aA
   subst e;rw [Uo];omega
theorem fHi_ge:∀k j,j<=k->F (l.getD j AG.zero)<=UL F l k
 | 0,j,h=>by rw [show j=0 by omega];exact Int.le_refl _
 | k+1,j,h=>by
  show _<=max (UL F l k) (F ((l.drop 1).getD k AG.zero));rcases Nat.lt_or_ge j (k+1) with q | q
  ·have:=fHi_ge k j aA;omega
  ·have e:j=k+1:=aA
   subst e;rw [Uo];omega
theorem YE(hx:x ∈ l):∃j,j<=l.length-1/\x=l.getD j AG.zero:=by
 obtain ⟨j,hj,e⟩:=List.mem_iff_getElem.1 hx;exact ⟨j,aA,by rw [List.getD_eq_getElem?_getD,List.getElem?_eq_getElem hj];exact e.symm⟩
theorem TO(hx:x ∈ l):CT F l<=F x:=by obtain ⟨j,hj,rfl⟩:=YE hx;exact fLo_le _ j hj
theorem TP(hx:x ∈ l):F x<=Be F l:=by obtain ⟨j,hj,rfl⟩:=YE hx;exact fHi_ge _ j hj
theorem Pm(h:0<l.length):∃x ∈ l,CT F l=F x:=YC h _ (Nat.le_refl _)
theorem Pn(h:0<l.length):∃x ∈ l,Be F l=F x:=YD h _ (Nat.le_refl _)
theorem WK(h:0<l.length)(e:∀x ∈ l,F x=G x):CT F l=CT G l:=by
 obtain ⟨x,hx,e1⟩:=Pm (F:=F) h;obtain ⟨y,hy,e2⟩:=Pm (F:=G) h
 have:=TO (F:=F) hy
 have:=TO (F:=G) hx
 have:=e x hx
 have:=e y hy
 omega
theorem WL(h:0<l.length)(e:∀x ∈ l,F x=G x):Be F l=Be G l:=by
 obtain ⟨x,hx,e1⟩:=Pn (F:=F) h;obtain ⟨y,hy,e2⟩:=Pn (F:=G) h
 have:=TP (F:=F) hy
 have:=TP (F:=G) hx
 have:=e x hx
 have:=e y hy
 omega
end
section
variable {bag kinds:Int} {ps:List ByteArray} {ws:List AE} {js:List AM} {ns:List AK} {a b c:Int}
theorem openB_09(bk:BP bag kinds ps ws js ns=0):(AO bag kinds ps ws js ns 0=0/\0<(AB ws js ns).length)\/(AO bag kinds ps ws js ns 0=9/\(AB ws js ns).length=0):=by
 unfold AO;rw [if_neg (λe=>e bk),if_neg aD];by_cases e:(AB ws js ns).length=0
 ·rw [if_pos e];exact .inr ⟨rfl,e⟩
 ·rw [if_neg e];exact .inl ⟨rfl,aA⟩
end
section
variable {bag kinds:Int} {ps:List ByteArray} {ws:List AE} {js:List AM} {ns:List AK} {a b c s:Int}
end
end Go.Ns
namespace Go.Ns
open Go.Conc
section
variable {P:Program} {Post:Value->World->Prop}
def YF(P:Program)(Post:Value->World->Prop):Wk P:=⟨true,Dv P Post,KL⟩
theorem TQ:Kh (YF P Post):=⟨Post,rfl⟩
theorem ZK{f:FuncId}{fn:Func}{c:Code}{args:Array Value}{h:GH}{R:Value->GH->Prop}(hf:P.funcs[f]? =some fn)(hb:fn.body=some c)(hsz:args.size<=fn.ntmps)(hin:P.inits.idxOf? f=none)(hpost:∀v h',R v h'->∀w,D3 w h'->Post v w)
  (x:Tr ⟨YF P Post,f,none,fn.ntmps⟩ c (λi=>args.getD i undef) [] h (λe O ds h'=>(e=.normal\/e=.ret)/\GN P fn O R ds h')):Dv P Post (G (Frame.enter P f args .normal) []) h:=by
 have e0:Frame.enter P f args .normal=Cg (Frame.enter P f args .normal) (args++Array.replicate (fn.ntmps-args.size) undef) [] [.code c]:=by
  simp [Frame.enter,Cg,hf,hb]
 rw [e0];let L:Lv:=λj t ds h'=>(j=none\/j=some .ret)/\∃O,BZ t fn.ntmps O/\GN P fn O R ds h';have fin:∀O ds h' t k,BZ t fn.ntmps O->GN P fn O R ds h'->(YF P Post).K (G (EV (Frame.enter P f args .normal) t ds k) []) h':=by
  intro O ds h' t k hs ho;refine M5 (W:=YF P Post) (R:=R) hf (b:=Frame.enter P f args .normal) rfl (λt k v h h' hr hrun=>?_) ds h' t k hs ho;refine VO rfl λw fw=>?_;obtain ⟨w',es,r1,r2⟩:=hrun w fw;refine ⟨v,w',seen P f es++ #[],h',?_,r2.sub (es':=seen P f es++ #[]) λe he=>?_,hpost v h' hr w' r2.fits⟩
  ·rw [KY];unfold unwind;have hfn:(EV (Frame.enter P f args .normal) t [] k).fn=f:=rfl;have hk:(EV (Frame.enter P f args .normal) t [] k).kind=.normal:=rfl;have hm:(EV (Frame.enter P f args .normal) t [] k).mode=.returning:=rfl;have hd:(EV (Frame.enter P f args .normal) t [] k).defers=[]:=rfl;have ht:(EV (Frame.enter P f args .normal) t [] k).tmps=t:=rfl;simp only [hd,hm,hfn,hf,ht,r1,GStep.after,doReturn,hk,hin];rfl
  ·rw [Array.append_empty] at he;exact mem_seen he
 refine x (Frame.enter P f args .normal) [] [] L _ rfl rfl ⟨?_,?_,?_⟩ ⟨by simp;omega,λi=>?_⟩ ?_
 ·rintro t ds h' ⟨_,O,hs,ho⟩;exact Wk.go (EV (Frame.enter P f args .normal) t ds []) (λw=>by rw [A7];simp [stepG.exec,Cg,EV,G,Frame.enter]) (fin O ds h' t [] hs ho)
 ·rintro t ds h' k ⟨_,O,hs,ho⟩;exact Wk.go (EV (Frame.enter P f args .normal) t ds (.code .ret ::k)) (λw=>by rw [A7];simp [stepG.exec,Cg,EV,G,Frame.enter]) (fin O ds h' t _ hs ho)
 ·rintro id t ds h' k _ ⟨h1 | h1,_⟩ <;> cases h1
 ·by_cases hi:i<args.size
  ·simp [Array.getD_eq_getD_getElem?,Array.getElem?_append_left hi]
  ·simp only [Array.getD_eq_getD_getElem?];rw [Array.getElem?_append_right aA,Array.getElem?_eq_none (show args.size<=i by omega),Array.getElem?_replicate];split <;> rfl
 ·rintro e O ds h' ⟨he,ho⟩ t' ht';rcases he with rfl | rfl
  ·exact Wk.go (EV (Frame.enter P f args .normal) t' ds []) (λw=>by rw [A7];simp [stepG.exec,Cg,EV,G,Frame.enter]) (fin O ds h' t' [] ht' ho)
  ·exact ⟨.inr rfl,O,ht',ho⟩
def GH.of(W:World):GH:=λb=>(W.heap[b]?).map λo=>(false,o)
theorem GH.of_some{W:World}{b:Nat}{o:Obj}(h:W.heap[b]? =some o):GH.of W b=some (false,o):=by unfold GH.of;rw [h];rfl
theorem fits_of(W:World):D3 W (GH.of W):=λb p o h=>by
 unfold GH.of at h;cases e:W.heap[b]? with
 | none=>rw [e] at h;cases h
 | some x=>rw [e] at h;cases h;rfl
theorem kept_of{W w:World}{h:GH}(l:(GH.of W).Le h)(f:D3 w h){b:Nat}{o:Obj}(hb:W.heap[b]? =some o):w.heap[b]? =some o:=f b _ _ (l.keep (GH.of_some hb) rfl)
theorem WM{g:Goroutine}{W:World}(hg:Dv P Post g (GH.of W)):Bp P (In Post W.os W.output) (solo g W) #[]:=by
 have hno:∀k a,touchAt (#[]:Trace) k=some a->False:=λk a h=>by
  obtain ⟨op,h1,_⟩:=touch_of h;simp at h1
 refine hg #[g] W none (λ_=>0) #[] ⟨rfl,?_,fits_of W,?_,?_,λk a b hk=>(hno k a hk).elim,?_,λk a hk=>(hno k a hk).elim,λb p o k a _ _ hk=>(hno k a hk).elim⟩
 ·intro j x hj hx;rw [Array.getElem?_eq_none (by simp;omega)] at hx;cases hx
 ·intro op hop;simp at hop
 ·rintro said ⟨i,j,hij,⟨a,b,ha,_⟩,_⟩;exact hno i a ha
 ·intro op hop;simp at hop
end
end Go.Ns
namespace Go.Ns
open Go.Conc Go.ChangeShapes Go.WideShapes Go.ChangeAt Go.RowKit
section
variable {P:Program} {W:World}
theorem WN{b off n:Nat}{cs:List Value}(h:W.cells? 0 ⟨b,off,none⟩ n=some cs)(hn:0<n):Aa (GH.of W) b off n cs.toArray:=by
 obtain ⟨_,hl,hc⟩:=World.cells?_some h;have hcell:∀i,i<n->W.cell? ⟨b,off+i,none⟩=cs[i]? :=λi hi=>by
  have:=hc i hi
  unfold Addr.add at this;split at this
  ·rename_i e;subst e;exact this
  ·exact this
 have h0:=hcell 0 hn;unfold World.cell? at h0;cases hb:W.heap[b]? with
 | none=>simp [hb,List.getElem?_eq_getElem (show 0<cs.length by omega)] at h0
 | some o=>
  cases o with
  | cells c t f=>
   have hall:∀i,i<n->c[off+i]? =cs[i]? :=λi hi=>by
    have:=hcell i hi
    unfold World.cell? at this;simpa [hb] using this
   have hlast:=hall (n-1) aA;rw [List.getElem?_eq_getElem (show n-1<cs.length by omega)] at hlast;have hsz:=(Array.getElem?_eq_some_iff.1 hlast).1;refine ⟨false,c,t,f,GH.of_some hb,aA,?_⟩;apply Array.ext
   ·simp;omega
   ·intro i h1 h2;have hi:i<n:=by simp at h2;omega
    have:=hall i hi
    rw [Array.getElem?_eq_getElem aA,List.getElem?_eq_getElem aA] at this;simpa using this
  | _=>simp [hb,List.getElem?_eq_getElem (show 0<cs.length by omega)] at h0
def Ma(P:Program)(W:World)(e:TypeId){V:Type}(enc:V->Array Value)(good:V->Prop):Prop:=
 ∀{H:Type}(en:TypeId×Value->H)(sp:Nat->Bool)(held:Bool)(fuel:Nat)(cs:List Value)(x:DataW H×List MemPlace),DataW.trod en P W 0 sp held fuel e cs=some x->(∀y ∈ x.1.weights P e,y<=reachBytes)->∃a:V,cs=(enc a).toList/\good a
theorem Jq{H:Type}{e:TypeId}{d:DataW H}{y:Nat}:∀{l:List (DataW H)},d ∈ l->y ∈ d.weights P e->y ∈ DataW.weightsAll P e l
 | c ::l,hd,hy=>by
  unfold DataW.weightsAll;rcases List.mem_cons.1 hd with rfl | hd
  ·exact List.mem_append_left _ hy
  ·exact List.mem_append_right _ (Jq hd hy)
theorem Ie{H:Type}{en:TypeId×Value->H}{sp:Nat->Bool}{held:Bool}{fuel:Nat}{t e:TypeId}{n:Nat}{V:Type}{enc:V->Array Value}{good:V->Prop}{v:Value}{d:DataW H}{ps:List MemPlace}(ht:P.underlying t=some (.slice e))(hc:P.cellsOf e=n)(hn:0<n)
  (hb:1<=P.bytesOf e) (ho:Ma P W e enc good) (h:DataW.trod en P W 0 sp held fuel t [v]=some (d,ps)) (hw:∀y ∈ d.weights P t,y<=reachBytes):∃xs:List V,AD (GH.of W) v n enc xs/\∀x ∈ xs,good x:=by
 rcases DataW.trod_slice ht h with ⟨h1,_⟩ | ⟨a,len,cap,elems,rest,m,rfl,h1,h2,_,hl,_,hlen,hel,_,_⟩
 ·simp at h1;subst h1;exact ⟨[],AD.nil _ _ _,λx hx=>by cases hx⟩
 ·simp only [List.cons.injEq,and_true] at h1;subst h1;simp only [Prod.mk.injEq] at h2;have hd:d=.slice (elems.map (·.1)) (rest.map (·.1)):=h2.1;have hlim:len<=140737488355328:=by
   have:=hw ((elems.map (·.1)).length+(rest.map (·.1)).length |>.mul (P.bytesOf e)) (by rw [hd];unfold DataW.weights;rw [ht];exact List.mem_cons_self ..)
   have h3:(elems.map (·.1)).length+(rest.map (·.1)).length<=((elems.map (·.1)).length+(rest.map (·.1)).length)*P.bytesOf e:=Nat.le_mul_of_pos_right _ hb;have h4:((elems.map (·.1)).length+(rest.map (·.1)).length)*P.bytesOf e<=reachBytes:=this;rw [List.length_map] at h3 h4;unfold reachBytes at h4;omega
  have each:∀i,i<len->∃x:V,∃b off,a=⟨b,off,none⟩/\Aa (GH.of W) b (off+i*n) n (enc x)/\good x:=λi hi=>by
   have:=hel i hi
   rw [List.getElem?_eq_getElem aA,hc] at this;simp only [Option.bind_eq_some_iff] at this;obtain ⟨cs,hcs,hx⟩:=this;obtain ⟨x,e1,e2⟩:=ho _ _ _ _ _ _ hx λy hy=>hw y (by rw [hd];unfold DataW.weights;rw [ht];exact List.mem_cons_of_mem _ (List.mem_append_left _ (Jq (List.mem_map.2 ⟨_,List.getElem_mem (show i<elems.length by omega),rfl⟩) hy)));have hc0:=(World.cells?_some hcs).2.2 0 hn;have hlen2:=(World.cells?_some hcs).2.1;rw [List.getElem?_eq_getElem (show 0<cs.length by omega)] at hc0;have hsp:=World.cell?_spot hc0;obtain ⟨b,off,spot⟩:=a;have hspot:spot=none\/i≠0:=by
    by_cases e0:i=0
    ·subst e0;left;simpa [Addr.add] using hsp
    ·exact .inr e0
   have hfirst:spot=none:=by
    rcases hspot with e | e
    ·exact e
    ·have h00:=hel 0 aA;rw [List.getElem?_eq_getElem aA,hc] at h00;simp only [Option.bind_eq_some_iff] at h00;obtain ⟨c0,hc00,_⟩:=h00;have z:=(World.cells?_some hc00).2.2 0 hn;have zl:=(World.cells?_some hc00).2.1;rw [List.getElem?_eq_getElem (show 0<c0.length by omega)] at z
     have:=World.cell?_spot z
     simpa [Addr.add] using this
   subst hfirst;refine ⟨x,b,off,rfl,?_,e2⟩;have ea:(Addr.add ⟨b,off,none⟩ (i*n))=⟨b,off+i*n,none⟩:=by
    unfold Addr.add;split
    ·rename_i e;rw [e];rfl
    ·rfl
   rw [ea] at hcs
   have:=WN hcs hn
   rw [e1] at this;simpa using this
  by_cases hz:len=0
  ·subst hz;exact ⟨[],⟨some a,cap,rfl,Nat.zero_le _,Nat.zero_le _,λi hi=>by simp at hi⟩,λx hx=>by cases hx⟩
  ·have hch:∀i:Fin len,∃x:V,∃b off,a=⟨b,off,none⟩/\Aa (GH.of W) b (off+i.val*n) n (enc x)/\good x:=λi=>each i.val i.isLt;refine ⟨List.ofFn λi=>Classical.choose (hch i),⟨some a,cap,by rw [List.length_ofFn],by rw [List.length_ofFn];exact hl,by rw [List.length_ofFn];exact hlim,λi hi=>?_⟩,λx hx=>?_⟩
   ·rw [List.length_ofFn] at hi;obtain ⟨b,off,e1,e2,_⟩:=Classical.choose_spec (hch ⟨i,hi⟩);refine ⟨b,off,by rw [e1],?_⟩;rw [List.getElem_ofFn];exact e2
   ·obtain ⟨i,rfl⟩:=List.mem_ofFn.1 hx;obtain ⟨_,_,_,_,e3⟩:=Classical.choose_spec (hch i);exact e3
theorem Mb{H:Type}{en:TypeId×Value->H}{t:TypeId}(hl:laidOutB P=true)(hr:P.readableRec t=true)(hrow:t<P.types.size){W':World}{v:Value}{d:DataW H}{ps:List MemPlace}(h:DataW.Trod en P W 0 (λ_=>true) true t v d ps)
  (hk:∀(b:Nat)(o:Obj),W.heap[b]? =some o->W'.heap[b]? =some o) (hlt:∀x ∈ ps,x.block<W.heap.size):DataW.Trod en P W' 0 (λb=>decide (b<W.heap.size)) true t v d ps:=by
 let W2:World:={ W' with os:=W.os,tape:=W.tape,output:=W.output };have hsz:W.heap.size<=W'.heap.size:=by
  rcases Nat.lt_or_ge W'.heap.size W.heap.size with x | x
  ·have:=hk W'.heap.size _ (Array.getElem?_eq_getElem x)
   rw [Array.getElem?_eq_none (Nat.le_refl _)] at this;cases this
  ·exact x
 have hb:Below W.heap.size W W2:=⟨rfl,rfl,rfl,hsz,λk hk'=>by
  show W'.heap[k]? =_;rw [Array.getElem?_eq_getElem hk'];exact hk k _ (Array.getElem?_eq_getElem hk')⟩
 exact DataW.Trod.of_heap (w:=W2) (w':=W') rfl (Below.trod hl hr hrow h hb hlt)
theorem kept_but{W':World}(hk:∀(b:Nat)(o:Obj),W.heap[b]? =some o->W'.heap[b]? =some o)(ho:W'.os=W.os)(hp:W'.output=W.output)(may:MemPlace->Prop):W.keptBut W' may:=by
 refine ⟨ho,hp,λi hi=>?_⟩;rw [hk i _ (Array.getElem?_eq_getElem hi),Array.getElem?_eq_getElem hi];split <;> simp_all
end
end Go.Ns
namespace Go.Ns
open Go.Conc
theorem Po{P:Program}{E:GM P}{O:Nat->Value}{ds:List Deferred}{h:GH}{T:(Nat->Value)->List Deferred->GH->Prop}{dst:Option Nat}{ty:TypeId}{pos:String}{af:Array Edge}{gd:Option (Nat×Bool)}{V:Type}
  {s x:TypeId} {o1 o2:Operand} {h0:GH} {w:Value} {r e n bytes:Nat} {enc:V->Array Value} {ys:List V} (ht:IV P s x=some (e,n,bytes)) (h1:AP O o1=.slice (some ⟨r,0,none⟩) 0 0) (h2:AP O o2=w)
  (hv:AT h0 h (.slice (some ⟨r,0,none⟩) 0 0) e n enc ([]:List V)) (hw:AD h w n enc ys) (l0:∀q,h q=none->h0 q=none) (hb:(2*(([]:List V).length+ys.length)+512)*bytes<=2 ^ 48) (hfine:∀y ∈ ys,(enc y).toList.all (·.oneCell')=true)
  (k:∀v' h',AT h0 h' v' e n enc ys->GK h h' (.slice (some ⟨r,0,none⟩) 0 0) v'->h.Le h'->T (putS O dst v') ds h'):BV E ⟨dst,.call ⟨.builtin .append,#[o1,o2],#[s,x]⟩,ty,pos,af,gd⟩ O ds h T:=
 OY ht h1 h2 hv hw l0 hb hfine λv' h' o g1 g2 g3=>k v' h' o ⟨g1,g2⟩ (.of λb y hb=>by
  by_cases e:b=r
  ·subst e;rcases hv with ⟨q,_⟩ | ⟨b1,cap,c,q,_,q2,q3,_⟩
   ·cases q
   ·simp only [Value.slice.injEq,Option.some.injEq,Addr.mk.injEq,and_true] at q;obtain ⟨rfl,_,rfl⟩:=q;obtain ⟨c',q5,q6⟩:=g3 b c rfl q2;rw [q2] at hb;cases hb;rw [q5,Array.eq_empty_of_size_eq_zero (show c.size=0 by omega),Array.eq_empty_of_size_eq_zero (show c'.size=0 by omega)]
  ·exact g1 b y hb λq=>e (by simpa [CY] using q.symm))
def Fm(n:Nat)(l:List Int):Prop:=l.Nodup/\∀x ∈ l,0<=x/\x<n
section
variable {n i:Nat} {l kn rest:List Int}
theorem Fm.at(h:Fm n l)(k:Nat)(hk:k<l.length):0<=l.getD k 0/\l.getD k 0<n:=h.2 _ (Br hk)
theorem Fm.bell(h:Fm n l):Ag n l=0:=CH (k:=l.length) (λj hj=>by
 have r:=h.at j hj;have e:E8 n (l.getD j 0)=0:=by unfold E8;rw [if_neg aA]
 unfold HM;rw [if_neg (λq=>q e),if_neg];intro q;obtain ⟨x,hx,e2⟩:=List.any_eq_true.1 q;have e3:l.getD j 0=x:=of_decide_eq_true e2;obtain ⟨t,ht,e4⟩:=List.mem_iff_getElem.1 hx;rw [List.length_take] at ht;rw [List.getElem_take] at e4
 have:=(List.pairwise_iff_getElem.1 (List.nodup_iff_pairwise_ne.1 h.1)) t j aA hj aA
 rw [Ea 0 hj] at e3;exact this (e4.trans e3.symm)) (Nat.le_refl _)
theorem Fm.len(h:Fm n l):l.length<=n:=HX h.bell
theorem Fm.erase(h:Fm n l)(i:Nat):Fm n (l.eraseIdx i):=⟨h.1.sublist (List.eraseIdx_sublist ..),λx hx=>h.2 x ((List.eraseIdx_sublist ..).subset hx)⟩
theorem Fm.left(h:Fm n (kn++rest)):Fm n kn:=⟨(List.nodup_append.1 h.1).1,λx hx=>h.2 x (List.mem_append_left _ hx)⟩
theorem perm_out{l:List Int}:∀{i:Nat}(hi:i<l.length),([l[i]]++l.eraseIdx i).Perm l:=by
 induction l with
 | nil=>intro i hi;cases hi
 | cons x l ih=>
  intro i hi;cases i with
  | zero=>exact List.Perm.refl _
  | succ i=>exact (List.Perm.swap _ _ _).trans ((ih (Nat.lt_of_succ_lt_succ hi)).cons x)
theorem Fm.next(h:Fm n (kn++rest))(hi:i<rest.length):Fm n (kn++[rest.getD i 0]++rest.eraseIdx i):=by
 have p:(kn++[rest.getD i 0]++rest.eraseIdx i).Perm (kn++rest):=by
  rw [List.append_assoc];refine List.Perm.append_left kn ?_;rw [Ea 0 hi];exact perm_out hi
 exact ⟨p.nodup_iff.2 h.1,λx hx=>h.2 x (p.mem_iff.1 hx)⟩
theorem Fm.first(n:Nat):Fm n (Cr n):=by
 induction n with
 | zero=>exact ⟨List.nodup_nil,λx hx=>by cases hx⟩
 | succ n ih=>
  have m:∀x ∈ Cr n,0<=x/\x<(n:Int):=ih.2;refine ⟨List.nodup_append.2 ⟨ih.1,aD,λa ha b hb e=>?_⟩,λx hx=>?_⟩
  ·rw [List.mem_singleton.1 hb] at e
   have:=m a ha
   omega
  ·rcases List.mem_append.1 hx with hx | hx
   ·have:=m x hx
    omega
   ·rw [List.mem_singleton.1 hx];omega
end
def FA:Nat->Nat
 | 0=>1
 | n+1=>1+(n+1)*FA n
theorem Pp:∀n,n<=4->FA n<=65
 | 0,_=>aC
 | 1,_=>aC
 | 2,_=>aC
 | 3,_=>aC
 | 4,_=>aC
 | n+5,h=>aA
theorem WO{n i:Nat}(hn:n<=4)(hi:i<=n):1+i*FA (n-1)<=65:=by
 rcases Nat.eq_zero_or_pos n with e | e
 ·subst e
  have:i=0:=aA
  subst this;decide
 ·have h:=Pp n hn;have e2:FA n=1+n*FA (n-1):=by
   cases n with
   | zero=>omega
   | succ n=>rfl
  have:=Nat.mul_le_mul_right (FA (n-1)) hi
  omega
theorem Up{n i:Nat}(hi:i=n){m:Nat}(h:m<=1+i*FA (n-1)):m<=FA n:=by
 subst hi;cases i with
 | zero=>simp at h;exact h
 | succ i=>exact h
def HD(n:Nat)(xl:List Sl):Prop:=∀x ∈ xl,Fm n x.2
section
variable {n:Nat} {a b:List Sl}
theorem HD.app(ha:HD n a)(hb:HD n b):HD n (a++b):=λx hx=>(List.mem_append.1 hx).elim (ha x) (hb x)
theorem HD.one{v:Value}{l:List Int}(h:Fm n l):HD n [(v,l)]:=λx hx=>by rw [List.mem_singleton.1 hx];exact h
theorem HD.at(h:HD n a){k:Nat}(hk:k<a.length):Fm n (a.getD k Sl.z).2:=h _ (Br hk)
end
section
variable {l:List Int} {i q:Nat}
theorem Pq(hq:q<i):(l.eraseIdx i).getD q 0=l.getD q 0:=by
 rw [List.getD_eq_getElem?_getD,List.getElem?_eraseIdx,if_pos hq,<-List.getD_eq_getElem?_getD]
theorem Lk(hq:i<=q):(l.eraseIdx i).getD q 0=l.getD (q+1) 0:=by
 rw [List.getD_eq_getElem?_getD,List.getElem?_eraseIdx,if_neg aA,<-List.getD_eq_getElem?_getD]
end
section
variable {bag kinds:Int} {ps:List ByteArray} {ws:List AE} {js:List AM} {ns:List AK} {l:List Int} {p:AG} {i:Nat}
theorem Pr(np:Nat):∀q,q<=i->BW np ws js p (l.eraseIdx i) q=BW np ws js p l q/\DE js (l.eraseIdx i) q=DE js l q
 | 0,_=>⟨rfl,rfl⟩
 | q+1,h=>by
  have ih:=Pr np q aA;have e:=Pq (l:=l) (show q<i by omega);constructor
  ·unfold BW;rw [ih.1,ih.2,e]
  ·show (js.getD ((l.eraseIdx i).getD q 0).toNat AM.z).place=(js.getD (l.getD q 0).toNat AM.z).place;rw [e]
theorem Uq(bk:BR bag kinds ps ws js ns)(hp:Bw p)(hr:Fm js.length l)(hi:i<l.length):∀q,i<=q->q+1<=l.length->∀x,x<ps.length->
  BW ps.length ws js p (l.eraseIdx i) q+Av ps.length ws p (DE js (l.eraseIdx i) q).toNat x<=BW ps.length ws js p l (q+1)+Av ps.length ws p (DE js l (q+1)).toNat x:=by
 have fw:=WI (np:=ps.length) hp (wayFine bk.way);have rng:=PL bk hr.at;intro q
 induction q with
 | zero=>
  intro h1 h2 x hx;have e0:i=0:=aA
  subst e0;have r0:=rng 0 aA;have r1:=rng 1 aA;have t:=fw.tri (DE js l 1).toNat aA (DE js l 0).toNat x aA hx;have w:=hp.works (l.getD 0 0).toNat;show BW ps.length ws js p _ 0+Av ps.length ws p (DE js l 0).toNat x<=(BW ps.length ws js p l 0+(Av ps.length ws p (DE js l 0).toNat (DE js l 1).toNat+p.works (l.getD 0 0).toNat))+Av ps.length ws p (DE js l 1).toNat x;show (0:Int)+_<=(0+_)+_;omega
 | succ q ih=>
  intro h1 h2 x hx;rcases Nat.lt_or_ge q i with c | c
  ·have e:q+1=i:=aA
   obtain ⟨a1,a2⟩:=Pr (ws:=ws) (js:=js) (p:=p) (l:=l) (i:=i) ps.length (q+1) aA;rw [a1,a2];have r0:=rng (q+1) aA;have r1:=rng (q+2) aA;have t:=fw.tri (DE js l (q+2)).toNat aA (DE js l (q+1)).toNat x aA hx;have w:=hp.works (l.getD (q+1) 0).toNat;show _<=(BW ps.length ws js p l (q+1)+(Av ps.length ws p (DE js l (q+1)).toNat (DE js l (q+2)).toNat+p.works (l.getD (q+1) 0).toNat))+Av ps.length ws p (DE js l (q+2)).toNat x;omega
  ·have r2:=rng (q+2) aA;have e:=Lk (l:=l) c;have b:=ih c aA (DE js l (q+2)).toNat aA;have e2:DE js (l.eraseIdx i) (q+1)=DE js l (q+2):=by show (js.getD ((l.eraseIdx i).getD q 0).toNat AM.z).place=(js.getD (l.getD (q+1) 0).toNat AM.z).place;rw [e]
   rw [e2];show (BW ps.length ws js p (l.eraseIdx i) q+(Av ps.length ws p (DE js (l.eraseIdx i) q).toNat (DE js (l.eraseIdx i) (q+1)).toNat+p.works ((l.eraseIdx i).getD q 0).toNat))+Av ps.length ws p (DE js l (q+2)).toNat x<=(BW ps.length ws js p l (q+1)+(Av ps.length ws p (DE js l (q+1)).toNat (DE js l (q+2)).toNat+p.works (l.getD (q+1) 0).toNat))+Av ps.length ws p (DE js l (q+2)).toNat x;rw [e,e2];omega
theorem Ur(bk:BR bag kinds ps ws js ns)(hp:Bw p)(hr:Fm js.length l)(hi:i<l.length):AZ ps.length ws js p (l.eraseIdx i)<=AZ ps.length ws js p l:=by
 have e:(l.eraseIdx i).length=l.length-1:=List.length_eraseIdx_of_lt hi
 have:=Uq bk hp hr hi (l.length-1) aA aA 0 bk.plen.1
 unfold AZ;rw [e]
 rwa [show l.length-1+1=l.length by omega] at this
theorem WP(bk:BR bag kinds ps ws js ns)(hp:Bw p)(hr:Fm js.length l)(hi:i<l.length){k:Nat}(hk:i<=k)(hk2:k+1<l.length):BW ps.length ws js p (l.eraseIdx i) (k+1)<=BW ps.length ws js p l (k+2):=by
 have r2:=PL bk hr.at (k+2) aA;have b:=Uq bk hp hr hi k hk aA (DE js l (k+2)).toNat aA;have e:=Lk (l:=l) hk;have e2:DE js (l.eraseIdx i) (k+1)=DE js l (k+2):=by show (js.getD ((l.eraseIdx i).getD k 0).toNat AM.z).place=(js.getD (l.getD (k+1) 0).toNat AM.z).place;rw [e]
 show BW ps.length ws js p (l.eraseIdx i) k+(Av ps.length ws p (DE js (l.eraseIdx i) k).toNat (DE js (l.eraseIdx i) (k+1)).toNat+p.works ((l.eraseIdx i).getD k 0).toNat)<=BW ps.length ws js p l (k+1)+(Av ps.length ws p (DE js l (k+1)).toNat (DE js l (k+2)).toNat+p.works (l.getD (k+1) 0).toNat);rw [e,e2];omega
theorem addP_all(out ps:List Int)(hl:ps.length=out.length)(j:Nat):(GI out ps ps.length).getD j 0=out.getD j 0+ps.getD j 0:=by
 rw [LX out ps hl _ (Nat.le_refl _) j];split
 ·rfl
 ·rw [show ps.getD j 0=0 from CF aA];omega
theorem H5(bk:BR bag kinds ps ws js ns){l:List Int}{q:Nat}(hq:0<=l.getD q 0/\l.getD q 0<js.length)(j:Nat):(CD kinds js l (q+1)).getD j 0=(CD kinds js l q).getD j 0+(js.getD (l.getD q 0).toNat AM.z).parts.getD j 0:=by
 have x:=(Ji bk hq).len;exact addP_all _ _ (by rw [Hp bk q];omega) j
theorem Rn:∀q,q<=i->CD kinds js (l.eraseIdx i) q=CD kinds js l q
 | 0,_=>rfl
 | q+1,h=>by unfold CD;rw [Rn q aA,Pq (show q<i by omega)]
theorem ZL(bk:BR bag kinds ps ws js ns)(hr:Fm js.length l)(j:Nat):∀q,i<=q->q+1<=l.length->(CD kinds js l (q+1)).getD j 0=(CD kinds js (l.eraseIdx i) q).getD j 0+(js.getD (l.getD i 0).toNat AM.z).parts.getD j 0:=by
 intro q
 induction q with
 | zero=>
  intro h1 h2;have e0:i=0:=aA
  subst e0;rw [H5 bk (hr.at 0 aA) j];rfl
 | succ q ih=>
  intro h1 h2;rcases Nat.lt_or_ge q i with c | c
  ·have e:q+1=i:=aA
   rw [H5 bk (hr.at (q+1) aA) j,Rn (q+1) aA,e]
  ·have g:=Lk (l:=l) c;rw [H5 bk (hr.at (q+1) aA) j,ih c aA,H5 bk (by rw [g];exact hr.at (q+1) aA) j,g];omega
theorem Ro(bk:BR bag kinds ps ws js ns)(hr:Fm js.length l)(hi:i<l.length)(j:Nat):(Cj kinds js l).getD j 0=(Cj kinds js (l.eraseIdx i)).getD j 0+(js.getD (l.getD i 0).toNat AM.z).parts.getD j 0:=by
 have e:(l.eraseIdx i).length=l.length-1:=List.length_eraseIdx_of_lt hi
 have:=ZL bk hr j (l.length-1) (i:=i) aA aA
 unfold Cj;rw [e]
 rwa [show l.length-1+1=l.length by omega] at this
theorem sum_le:∀(a b:List Int),a.length=b.length->(∀j,a.getD j 0<=b.getD j 0)->a.sum<=b.sum
 | [],[],_,_=>Int.le_refl _
 | x ::a,y ::b,h,k=>by
  have h0:x<=y:=k 0;have h1:=sum_le a b (by simpa using h) λj=>k (j+1);rw [List.sum_cons,List.sum_cons];omega
 | [],y ::b,h,_=>by cases h
 | x ::a,[],h,_=>by cases h
end
section
variable {F G:AG->Int} {l:List AG}
theorem Rp(h:0<l.length)(e:∀x ∈ l,F x<=G x):CT F l<=CT G l:=by
 obtain ⟨y,hy,e2⟩:=Pm (F:=G) h
 have:=TO (F:=F) hy
 have:=e y hy
 omega
theorem Rq(h:0<l.length)(e:∀x ∈ l,F x<=G x):Be F l<=Be G l:=by
 obtain ⟨x,hx,e1⟩:=Pn (F:=F) h
 have:=TP (F:=G) hx
 have:=e x hx
 omega
end
section
variable {bag kinds:Int} {ps:List ByteArray} {ws:List AE} {js:List AM} {ns:List AK} {l:List Int} {i k:Nat}
theorem ZM(bk:BR bag kinds ps ws js ns)(h:0<(AB ws js ns).length)(hr:Fm js.length l)(hi:i<l.length) :
  CT (λx=>AZ ps.length ws js x (l.eraseIdx i)) (AB ws js ns)<=CT (λx=>AZ ps.length ws js x l) (AB ws js ns)/\Be (λx=>AZ ps.length ws js x (l.eraseIdx i)) (AB ws js ns)<=Be (λx=>AZ ps.length ws js x l) (AB ws js ns):=
 have e:∀x ∈ AB ws js ns,AZ ps.length ws js x (l.eraseIdx i)<=AZ ps.length ws js x l:=λx hx=>Ur bk (FP bk x hx) hr hi
 ⟨Rp h e,Rq h e⟩
theorem end_lt(h:0<(AB ws js ns).length)(hk:k<i):PM ps.length ws js (AB ws js ns) (l.eraseIdx i) k=PM ps.length ws js (AB ws js ns) l k/\NX ps.length ws js (AB ws js ns) (l.eraseIdx i) k=NX ps.length ws js (AB ws js ns) l k:=
 have e:∀x ∈ AB ws js ns,BW ps.length ws js x (l.eraseIdx i) (k+1)=BW ps.length ws js x l (k+1):=λx _=>(Pr ps.length (k+1) aA).1
 ⟨WK h e,WL h e⟩
theorem end_ge(bk:BR bag kinds ps ws js ns)(h:0<(AB ws js ns).length)(hr:Fm js.length l)(hi:i<l.length)(hk:i<=k)(hk2:k+1<l.length) :
  PM ps.length ws js (AB ws js ns) (l.eraseIdx i) k<=PM ps.length ws js (AB ws js ns) l (k+1)/\NX ps.length ws js (AB ws js ns) (l.eraseIdx i) k<=NX ps.length ws js (AB ws js ns) l (k+1):=
 have e:∀x ∈ AB ws js ns,BW ps.length ws js x (l.eraseIdx i) (k+1)<=BW ps.length ws js x l (k+2):=λx hx=>WP bk (FP bk x hx) hr hi hk hk2
 ⟨Rp h e,Rq h e⟩
theorem ZN(bk:BR bag kinds ps ws js ns)(h:0<(AB ws js ns).length)(hr:Fm js.length l)(hi:i<l.length)(hs:B6 ps.length ws js (AB ws js ns) l bag kinds=true):B6 ps.length ws js (AB ws js ns) (l.eraseIdx i) bag kinds=true:=by
 have el:(l.eraseIdx i).length=l.length-1:=List.length_eraseIdx_of_lt hi;unfold B6 at hs ⊢;rw [Bool.and_eq_true] at hs ⊢;refine ⟨decide_eq_true ?_,List.all_eq_true.2 λk hk=>?_⟩
 ·have a:=of_decide_eq_true hs.1;have b:=sum_le (Cj kinds js (l.eraseIdx i)) (Cj kinds js l) (by rw [Iz bk,Iz bk]) λj=>by
   have:=Ro bk hr hi j
   have:=(Ji bk (hr.at i hi)).part j
   omega
  omega
 ·have hk':=List.mem_range.1 hk;have a:=λk hk=>of_decide_eq_true (List.all_eq_true.1 hs.2 k (List.mem_range.2 hk));refine decide_eq_true ?_;rcases Nat.lt_or_ge k i with c | c
  ·rw [(end_lt h c).2,Pq c];exact a k aA
  ·have e:=(end_ge bk h hr hi c aA).2
   have:=a (k+1) aA
   rw [Lk c];omega
theorem Hu(np:Nat)(pq:List AG):∀q i,i<q->(G6 np ws js pq l q).getD i (0,0)=(PM np ws js pq l i,NX np ws js pq l i)
 | 0,i,h=>absurd h (Nat.not_lt_zero _)
 | q+1,i,h=>by
  have hl:=I2 np ws js pq l q;rw [G6,List.getD_eq_getElem?_getD];by_cases e:i<q
  ·rw [List.getElem?_append_left aA,<-List.getD_eq_getElem?_getD];exact Hu np pq q i e
  ·have e2:i=q:=aA
   subst e2;rw [List.getElem?_append_right aA,hl,Nat.sub_self];rfl
end
end Go.Ns
namespace Go.Ns
section
variable {bag kinds:Int} {ps:List ByteArray} {ws:List AE} {js:List AM} {ns:List AK} {r l:List Int} {i k:Nat} {s:Int}
theorem WQ(hz:BP bag kinds ps ws js ns=0)(hr:Fm js.length l):Fl bag kinds ps ws js ns l=0:=(if_neg (λe=>e hz)).trans hr.bell
theorem Ll(hz:BP bag kinds ps ws js ns=0)(hr:Fm js.length l):D2 bag kinds ps ws js ns l=Cj kinds js l:=if_neg (λe=>e (WQ hz hr))
theorem Fo(hz:BP bag kinds ps ws js ns=0)(hr:Fm js.length l):((D2 bag kinds ps ws js ns l).length:Int)=kinds:=by
 have bk:=CI hz
 have:=bk.hkin
 rw [Ll hz hr,Iz bk];omega
theorem ZO(hz:BP bag kinds ps ws js ns=0)(hr:Fm js.length l)(j:Nat):0<=(D2 bag kinds ps ws js ns l).getD j 0/\(D2 bag kinds ps ws js ns l).getD j 0<=20:=by
 have:=PJ (CI hz) hr.at j
 have:=hr.len
 have:=(CI hz).jlen
 rw [Ll hz hr];omega
theorem WR(hz:BP bag kinds ps ws js ns=0)(hr:Fm js.length r)(hi:i<r.length)(j:Nat):(D2 bag kinds ps ws js ns r).getD j 0=(D2 bag kinds ps ws js ns (r.eraseIdx i)).getD j 0+(js.getD (r.getD i 0).toNat AM.z).parts.getD j 0:=by
 rw [Ll hz hr,Ll hz (hr.erase i)];exact Ro (CI hz) hr hi j
theorem Jr(h0:AO bag kinds ps ws js ns 0=0)(hr:Fm js.length l):Ar bag kinds ps ws js ns l=G6 ps.length ws js (AB ws js ns) l l.length:=by
 unfold Ar;rw [hr.bell];exact if_neg (λe=>e h0)
theorem Rr(h0:AO bag kinds ps ws js ns 0=0)(hr:Fm js.length l):(Ar bag kinds ps ws js ns l).length=l.length:=by rw [Jr h0 hr,I2]
theorem ends_lt(h0:AO bag kinds ps ws js ns 0=0)(h:0<(AB ws js ns).length)(hr:Fm js.length r)(hi:i<r.length)(hk:k<i):(Ar bag kinds ps ws js ns (r.eraseIdx i)).getD k (0,0)=(Ar bag kinds ps ws js ns r).getD k (0,0):=by
 have el:(r.eraseIdx i).length=r.length-1:=List.length_eraseIdx_of_lt hi;have e:=end_lt (ps:=ps) (l:=r) h hk;rw [Jr h0 hr,Jr h0 (hr.erase i),Hu _ _ _ _ aA,Hu _ _ _ _ aA,e.1,e.2]
theorem ends_ge(hz:BP bag kinds ps ws js ns=0)(h0:AO bag kinds ps ws js ns 0=0)(h:0<(AB ws js ns).length)(hr:Fm js.length r)(hi:i<r.length)(hk:i<=k)(hk2:k+1<r.length) :
  ((Ar bag kinds ps ws js ns (r.eraseIdx i)).getD k (0,0)).1<=((Ar bag kinds ps ws js ns r).getD (k+1) (0,0)).1/\((Ar bag kinds ps ws js ns (r.eraseIdx i)).getD k (0,0)).2<=((Ar bag kinds ps ws js ns r).getD (k+1) (0,0)).2:=by
 have el:(r.eraseIdx i).length=r.length-1:=List.length_eraseIdx_of_lt hi;rw [Jr h0 hr,Jr h0 (hr.erase i),Hu _ _ _ _ aA,Hu _ _ _ _ aA];exact end_ge (CI hz) h hr hi hk hk2
theorem WT(hz:BP bag kinds ps ws js ns=0)(h0:AO bag kinds ps ws js ns 0=0)(h:0<(AB ws js ns).length)(hr:Fm js.length r)(hi:i<r.length) :
  FG (AO bag kinds ps ws js ns 0) (CT (λx=>AZ ps.length ws js x (r.eraseIdx i)) (AB ws js ns))<=FG (AO bag kinds ps ws js ns 0) (CT (λx=>AZ ps.length ws js x r) (AB ws js ns))/\
  FG (AO bag kinds ps ws js ns 0) (Be (λx=>AZ ps.length ws js x (r.eraseIdx i)) (AB ws js ns))<=FG (AO bag kinds ps ws js ns 0) (Be (λx=>AZ ps.length ws js x r) (AB ws js ns)):=by
 rw [h0];simp only [LY];exact ZM (CI hz) h hr hi
theorem WU(hz:BP bag kinds ps ws js ns=0)(h0:AO bag kinds ps ws js ns 0=0)(h:0<(AB ws js ns).length)(hr:Fm js.length r)(hi:i<r.length):(Cw bag kinds ps ws js ns r && !Cw bag kinds ps ws js ns (r.eraseIdx i))=false:=by
 unfold Cw;rw [hr.bell,(hr.erase i).bell,if_neg (λe=>e h0),if_neg (λe=>e h0)];cases e:B6 ps.length ws js (AB ws js ns) r bag kinds with
 | false=>rfl
 | true=>rw [ZN (CI hz) h hr hi e];rfl
end
end Go.Ns
namespace Go.Ns
open Go.Conc
universe u
theorem Z{V:Sort u}{a:V}:a=a:=rfl
theorem Lr{h:GH}:GH.Le h h:=GH.Le.refl h
theorem Ln{h h':GH}(l:h.Le h'){r:Nat}(hr:h' r=none):h r=none:=l.nothing hr
theorem Cf{h:GH}{b r:Nat}{p:Bool}{o:Obj}(hb:h b=some (p,o))(hr:h r=none):b≠r:=GH.ne_of hb hr
theorem Nb{a b:Nat}(h:Nat.ble a b=true):a<=b:=Nat.le_of_ble_eq_true h
theorem Dn{p:Prop}[Decidable p](h:¬¬p):p:=Decidable.not_not.1 h
theorem Et{V:Sort u}{a b c:V}(x:a=b)(y:b=c):a=c:=x.trans y
theorem Kl{h0 h:GH}(k:KeepD (λb=>h0 b=none) h0 h):h0.Le h:=k.leOf
theorem Bx{h:GH}{b:Nat}{p:Bool}{c:Array Value}{t:TypeId}{f:Nat×Nat}(hb:h b=some (p,.cells c t f)){n:Nat}(hn:c.size=n):Aa h b 0 n c:=Aa.box hb hn
abbrev lE(v:Value):Law2:=λ_ u _=>u=v
abbrev lF(v:Value):RA:=λu _=>u=v
abbrev zP:Array Value:=#[.int .i64 0,.int .i64 0,.slice none 0 0,.slice none 0 0,.slice none 0 0,.slice none 0 0,.map none]
section
variable {P:Program} {E:GM P} {O:Nat->Value} {ds:List Deferred} {h:GH} {Q:Post} {T:(Nat->Value)->List Deferred->GH->Prop}
variable {dst:Option Nat} {ty:TypeId} {pos:String} {af:Array Edge} {ops:Array Oper} {o:Oper} {l:List Oper}
theorem Sq{x y:Code}(a:Tr E x O ds h (λe σ' ds' h'=>match e with | .normal=>Tr E y σ' ds' h' Q | e=>Q e σ' ds' h')):Tr E (.seq x y) O ds h Q:=tr_seq a
theorem Rg{id:Nat}{l:List Oper}(a:DL E l.toArray l O ds h Q):Tr E (.region id l.toArray false) O ds h Q:=YN a
theorem Nl(q:Q .normal O ds h):DL E ops [] O ds h Q:=trL_nil q
abbrev Rt:=@tr_ret
abbrev Bk:=@tr_block
abbrev Sk:=@tr_skip
abbrev Xt:=@tr_exit
def plainB(N:Nat)(o:Oper):Bool:=o.guard.isNone && !C0 o.op && Cy o.dst N
theorem Pl(hp:plainB E.N o=true)(x:BV E o O ds h λσ' ds' h'=>DL E ops l σ' ds' h' Q):DL E ops (o ::l) O ds h Q:=by
 simp only [plainB,Bool.and_eq_true,Option.isNone_iff_eq_none,Bool.not_eq_true'] at hp;exact GO hp.1.1 hp.1.2 hp.2 x
theorem Mv{x:Operand}(v:Value)(hp:Cy dst E.N=true)(hx:AP O x=v)(k:DL E ops l (putS O dst v) ds h Q):DL E ops (⟨dst,.move x,ty,pos,af,none⟩ ::l) O ds h Q:=GO rfl rfl hp (ST hx k)
theorem As{x:Operand}(v:Value)(hp:Cy dst E.N=true)(hx:AP O x=v)(k:DL E ops l (putS O dst v) ds h Q):DL E ops (⟨dst,.assign x,ty,pos,af,none⟩ ::l) O ds h Q:=GO rfl rfl hp (L8 hx k)
theorem Ld{t:TypeId}{x:Operand}{b off:Nat}(v:Value)(hp:Cy dst E.N=true)(hx:AP O x=.pointer (some ⟨b,off,none⟩))(hr:Rd P h t b off v)(k:DL E ops l (putS O dst v) ds h Q):DL E ops (⟨dst,.load t x,ty,pos,af,none⟩ ::l) O ds h Q:=
 GO rfl rfl hp (DA hx hr k)
theorem Fa{s:TypeId}{x:Operand}{f o b off:Nat}(hf:Dr P s f=some o)(hp:Cy dst E.N=true)(hx:AP O x=.pointer (some ⟨b,off,none⟩))(k:DL E ops l (putS O dst (.pointer (some ⟨b,off+o,none⟩))) ds h Q) :
  DL E ops (⟨dst,.fieldAddr s x f,ty,pos,af,none⟩ ::l) O ds h Q:=GO rfl rfl hp (AJ hf hx k)
theorem Pk{c a b:Operand}(t:Bool)(v:Value)(hp:Cy dst E.N=true)(hc:AP O c=.bool t)(hv:(if t then AP O a else AP O b)=v)(k:DL E ops l (putS O dst v) ds h Q):DL E ops (⟨dst,.pick c a b,ty,pos,af,none⟩ ::l) O ds h Q:=
 GO rfl rfl hp (Au hc hv k)
theorem Ad{xt yt:TypeId}{x y:Operand}(a b:Int)(hp:Cy dst E.N=true)(hx:AP O x=.int .i64 a)(hy:AP O y=.int .i64 b)(hr: -9223372036854775808<=a+b/\a+b<=9223372036854775807)(k:DL E ops l (putS O dst (.int .i64 (a+b))) ds h Q) :
  DL E ops (⟨dst,.binOp .add xt x y yt,ty,pos,af,none⟩ ::l) O ds h Q:=GO rfl rfl hp (DM hx hy hr k)
def skipB(N:Nat)(ops:Array Oper)(o:Oper)(j d:Nat)(is:Bool):Bool:=(match o.guard with
 | some (i,w)=>i==j && w !=is
 | none=>false) && (match ops[j]? with
 | some oj=>(match oj.dst with
  | some e=>e==d
  | none=>false)
 | none=>false) && Nat.blt d N && Cy o.dst N
theorem Gs(j d:Nat){is:Bool}(hv:O d=.bool is)(hs:skipB E.N ops o j d is=true)(x:DL E ops l (putS O o.dst undef) ds h Q):DL E ops (o ::l) O ds h Q:=by
 simp only [skipB,Bool.and_eq_true] at hs;obtain ⟨⟨⟨h1,h2⟩,h3⟩,h4⟩:=hs;cases hg:o.guard with
 | none=>rw [hg] at h1;cases h1
 | some q=>
  obtain ⟨i,w⟩:=q;rw [hg] at h1;simp only [Bool.and_eq_true,beq_iff_eq,bne_iff_ne,ne_eq] at h1;obtain ⟨rfl,hne⟩:=h1;cases hj:ops[i]? with
  | none=>rw [hj] at h2;cases h2
  | some oj=>
   cases hd:oj.dst with
   | none=>simp [hj,hd] at h2
   | some e=>
    obtain rfl:e=d:=by simpa [hj,hd] using h2
    exact OP hg hj hd hv h3 hne h4 x
def goB(N:Nat)(ops:Array Oper)(o:Oper)(j d:Nat)(is:Bool):Bool:=(match o.guard with
 | some (i,w)=>i==j && w==is
 | none=>false) && (match ops[j]? with
 | some oj=>(match oj.dst with
  | some e=>e==d
  | none=>false)
 | none=>false) && Nat.blt d N && !C0 o.op && Cy o.dst N
theorem Gg(j d:Nat){is:Bool}(hv:O d=.bool is)(hs:goB E.N ops o j d is=true)(x:BV E o O ds h λσ' ds' h'=>DL E ops l σ' ds' h' Q):DL E ops (o ::l) O ds h Q:=by
 simp only [goB,Bool.and_eq_true,Bool.not_eq_true'] at hs;obtain ⟨⟨⟨⟨h1,h2⟩,h3⟩,h5⟩,h4⟩:=hs;cases hg:o.guard with
 | none=>rw [hg] at h1;cases h1
 | some q=>
  obtain ⟨i,w⟩:=q;rw [hg] at h1;simp only [Bool.and_eq_true,beq_iff_eq] at h1;obtain ⟨rfl,rfl⟩:=h1;cases hj:ops[i]? with
  | none=>rw [hj] at h2;cases h2
  | some oj=>
   cases hd:oj.dst with
   | none=>simp [hj,hd] at h2
   | some e=>
    obtain rfl:e=d:=by simpa [hj,hd] using h2
    exact trL_opg hg hj hd hv h3 (.inr h5) h4 x
end
section
variable {S:Nat->Prop} {Pre:Nat->GH->Prop} {Φ:List Law2} {cl:List Nat} {k d:Nat} {h h':GH} {O:Nat->Value} {ds:List Deferred} {v:Value}
theorem fL{Φ:List RA}(p:LE Φ k v h):ds=ds/\GH.Le h h/\∃w,putS O (some d) v=putS O (some d) w/\LE Φ k w h:=⟨rfl,GH.Le.refl _,_,rfl,p⟩
theorem K1{R:GH->GH->Prop}{Φ:List RA}{a:Value}(x:Fx R Φ):Fx R (lF a ::Φ):=⟨λ_ _ _ _ y=>y,x⟩
theorem K2{R:GH->GH->Prop}{Φ:List RA}{a b:Value}(x:Fx R Φ):Fx R (lF a ::lF b ::Φ):=K1 (K1 x)
theorem K4{R:GH->GH->Prop}{Φ:List RA}{a b c d:Value}(x:Fx R Φ):Fx R (lF a ::lF b ::lF c ::lF d ::Φ):=K2 (K2 x)
theorem K8{R:GH->GH->Prop}{Φ:List RA}{a b c d a' b' c' d':Value}(x:Fx R Φ):Fx R (lF a ::lF b ::lF c ::lF d ::lF a' ::lF b' ::lF c' ::lF d' ::Φ):=K4 (K4 x)
end
end Go.Ns
namespace Go.Ns
open Go.Conc
section
variable {P:Program} {E:GM P} {O:Nat->Value} {ds:List Deferred} {h:GH} {Q:Post} {T:(Nat->Value)->List Deferred->GH->Prop}
variable {dst:Option Nat} {ty:TypeId} {pos:String} {af:Array Edge} {ops:Array Oper} {o:Oper} {l:List Oper} {gd:Option (Nat×Bool)}
theorem Mz{x:Operand}(v:Value)(e:(Cy dst E.N,AP O x)=(true,v))(k:DL E ops l (putS O dst v) ds h Q):DL E ops (⟨dst,.move x,ty,pos,af,none⟩ ::l) O ds h Q:=Mv v (congrArg Prod.fst e) (congrArg Prod.snd e) k
theorem Az{x:Operand}(v:Value)(e:(Cy dst E.N,AP O x)=(true,v))(k:DL E ops l (putS O dst v) ds h Q):DL E ops (⟨dst,.assign x,ty,pos,af,none⟩ ::l) O ds h Q:=As v (congrArg Prod.fst e) (congrArg Prod.snd e) k
theorem Lz{t:TypeId}{x:Operand}{b off:Nat}(v:Value)(e:(Cy dst E.N,AP O x)=(true,.pointer (some ⟨b,off,none⟩)))(hr:Rd P h t b off v)(k:DL E ops l (putS O dst v) ds h Q):DL E ops (⟨dst,.load t x,ty,pos,af,none⟩ ::l) O ds h Q:=
 Ld v (congrArg Prod.fst e) (congrArg Prod.snd e) hr k
theorem Fz{s:TypeId}{x:Operand}{f o b off:Nat}(hf:Dr P s f=some o)(e:(Cy dst E.N,AP O x)=(true,.pointer (some ⟨b,off,none⟩)))(k:DL E ops l (putS O dst (.pointer (some ⟨b,off+o,none⟩))) ds h Q) :
  DL E ops (⟨dst,.fieldAddr s x f,ty,pos,af,none⟩ ::l) O ds h Q:=Fa hf (congrArg Prod.fst e) (congrArg Prod.snd e) k
theorem Pz{c a b:Operand}(t:Bool)(v:Value)(e:(Cy dst E.N,AP O c,(if t then AP O a else AP O b))=(true,.bool t,v))(k:DL E ops l (putS O dst v) ds h Q):DL E ops (⟨dst,.pick c a b,ty,pos,af,none⟩ ::l) O ds h Q:=
 Pk t v (congrArg Prod.fst e) (congrArg (λq=>q.2.1) e) (congrArg (λq=>q.2.2) e) k
theorem Yd{xt yt:TypeId}{x y:Operand}{a b:Int}(e:(Cy dst E.N,AP O x,AP O y)=(true,.int .i64 a,.int .i64 b))(hr: -9223372036854775808<=a+b/\a+b<=9223372036854775807)(k:DL E ops l (putS O dst (.int .i64 (a+b))) ds h Q) :
  DL E ops (⟨dst,.binOp .add xt x y yt,ty,pos,af,none⟩ ::l) O ds h Q:=Ad a b (congrArg Prod.fst e) (congrArg (λq=>q.2.1) e) (congrArg (λq=>q.2.2) e) hr k
theorem Mo{x:Operand}(v:Value)(hx:AP O x=v)(k:T (putS O dst v) ds h):BV E ⟨dst,.move x,ty,pos,af,gd⟩ O ds h T:=ST hx k
theorem Lo{t:TypeId}{x:Operand}{b off:Nat}(v:Value)(hx:AP O x=.pointer (some ⟨b,off,none⟩))(hr:Rd P h t b off v)(k:T (putS O dst v) ds h):BV E ⟨dst,.load t x,ty,pos,af,gd⟩ O ds h T:=DA hx hr k
theorem Ex{x:Operand}{n:Nat}{vs:Array Value}(v:Value)(e:(AP O x,vs[n]?)=(.tuple vs,some v))(k:T (putS O dst v) ds h):BV E ⟨dst,.extract x n,ty,pos,af,gd⟩ O ds h T:=VT (congrArg Prod.fst e) (congrArg Prod.snd e) k
theorem Bo{t:TypeId}{x:Operand}{v:Value}(c:Array Value)(hx:AP O x=v)(hc:v.cells=c)
  (k:∀r h',h r=none->h.Le h'->h' r=some (true,.cells c t (0,0))->(∀b,b≠r->h' b=h b)->T (putS O dst (.pointer (some ⟨r,0,none⟩))) ds h'):BV E ⟨dst,.box t x,ty,pos,af,gd⟩ O ds h T:=SU hx hc k
theorem So{t:TypeId}{a x:Operand}{b off n:Nat}{g:Bool}{c:Array Value}{et:TypeId}(v:Value)(c':Array Value)(ht:Cd P t=some (g,n))(e:(AP O a,AP O x)=(.pointer (some ⟨b,off,none⟩),v))(hb:h b=some (true,.cells c et (0,0)))
  (e2:(v.cells.size,Value.fine v)=(n,true)) (hn:off+n<=c.size) (hc:B0 c off v.cells.toList=c') (k:∀h',h' b=some (true,.cells c' et (0,0))->(∀x,x≠b->h' x=h x)->T (putS O dst undef) ds h') :
  BV E ⟨dst,.store t a x,ty,pos,af,gd⟩ O ds h T:=Aj ht (congrArg Prod.fst e) (congrArg Prod.snd e) hb (congrArg Prod.fst e2) (congrArg Prod.snd e2) hn hc k
theorem Ot{fn:Func}{R:Value->GH->Prop}{t:Tmp}(v:Value)(e:(fn.results,O t)=(#[.tmp t],v))(x:R v h):GN P fn O R [] h:=JT (congrArg Prod.fst e) (congrArg Prod.snd e) x
theorem Ou{fn:Func}{R:Value->GH->Prop}{t u:Tmp}(v v':Value)(e:(fn.results,O t,O u)=(#[.tmp t,.tmp u],v,v'))(x:R (.tuple #[v,v']) h):GN P fn O R [] h:=outs2 (congrArg Prod.fst e) (congrArg (λq=>q.2.1) e) (congrArg (λq=>q.2.2) e) x
theorem Sr{id:Nat}{y:Code}(a:DL E l.toArray l O ds h (λe σ' ds' h'=>match e with | .normal=>Tr E y σ' ds' h' Q | e=>Q e σ' ds' h')):Tr E (.seq (.region id l.toArray false) y) O ds h Q:=Sq (Rg a)
theorem S2{id:Nat}{y z:Code}(a:DL E l.toArray l O ds h (λe σ' ds' h'=>match e with | .normal=>Tr E y σ' ds' h' (λe σ' ds' h'=>match e with | .normal=>Tr E z σ' ds' h' Q | e=>Q e σ' ds' h') | e=>(λe σ' ds' h'=>match e with | .normal=>Tr E z σ' ds' h' Q | e=>Q e σ' ds' h') e σ' ds' h')) :
  Tr E (.seq (.seq (.region id l.toArray false) y) z) O ds h Q:=Sq (Sq (Rg a))
theorem Zr{V:Type}{a b:V}:a=b\/a=a:=.inr rfl
theorem M2{x x':Operand}{dst':Option Nat}{ty':TypeId}{pos':String}{af':Array Edge}(v v':Value)(e:(Cy dst E.N,AP O x,Cy dst' E.N,AP (putS O dst v) x')=(true,v,true,v'))(k:DL E ops l (putS (putS O dst v) dst' v') ds h Q):DL E ops (⟨dst,.move x,ty,pos,af,none⟩ ::⟨dst',.move x',ty',pos',af',none⟩ ::l) O ds h Q:=
 Mv v (congrArg Prod.fst e) (congrArg (λq=>q.2.1) e) (Mv v' (congrArg (λq=>q.2.2.1) e) (congrArg (λq=>q.2.2.2) e) k)
theorem A2{x x':Operand}{dst':Option Nat}{ty':TypeId}{pos':String}{af':Array Edge}(v v':Value)(e:(Cy dst E.N,AP O x,Cy dst' E.N,AP (putS O dst v) x')=(true,v,true,v'))(k:DL E ops l (putS (putS O dst v) dst' v') ds h Q):DL E ops (⟨dst,.assign x,ty,pos,af,none⟩ ::⟨dst',.assign x',ty',pos',af',none⟩ ::l) O ds h Q:=
 As v (congrArg Prod.fst e) (congrArg (λq=>q.2.1) e) (As v' (congrArg (λq=>q.2.2.1) e) (congrArg (λq=>q.2.2.2) e) k)
theorem Ct{W:Wk P}{f:FuncId}{fn:Func}{c:Code}{args:Array Value}{R:Value->GH->Prop}(hf:P.funcs[f]? =some fn)(e:(fn.body,Nat.ble args.size fn.ntmps)=(some c,true))
  (x:Tr ⟨W,f,none,fn.ntmps⟩ c (λi=>args.getD i undef) [] h (λe O ds h'=>(e=.normal\/e=.ret)/\GN P fn O R ds h')):AX W f args h R:=VS hf (congrArg Prod.fst e) (Nat.le_of_ble_eq_true (congrArg Prod.snd e)) x
end
section
variable {P:Program} {E:GM P} {l:List Oper} {n:Nat} {fl:Bool} {hs:GH} {ds:List Deferred} {Lw:Nat->Value->GH->Prop} {F:(Nat->Value)->GH->Prop} {π:List Nat} {O:Nat->Value} {h:GH} {m k g d:Nat} {dst:Option Nat} {op:Op} {ty:TypeId} {pos:String} {af:Array Edge} {v:Value} {w is:Bool} {og:Oper}
theorem Rz(e:(KO m,l[k]?)=((.r,k),some ⟨dst,op,ty,pos,af,none⟩))(x:SZ E ⟨dst,op,ty,pos,af,none⟩ O ds h v)(y:TD E l n fl hs ds Lw F (dK π) (putS O dst v) h):TD E l n fl hs ds Lw F (dK (m ::π)) O h:=tR (congrArg Prod.fst e) (congrArg Prod.snd e) x y
theorem Rm{x:Operand}(v:Value)(e:(KO m,l[k]?,AP O x)=((.r,k),some ⟨dst,.move x,ty,pos,af,none⟩,v))(y:TD E l n fl hs ds Lw F (dK π) (putS O dst v) h):TD E l n fl hs ds Lw F (dK (m ::π)) O h:=
 tR (congrArg Prod.fst e) (congrArg (λq=>q.2.1) e) (ST (congrArg (λq=>q.2.2) e) vz) y
theorem Rl{t:TypeId}{x:Operand}{b off:Nat}(v:Value)(e:(KO m,l[k]?,AP O x)=((.r,k),some ⟨dst,.load t x,ty,pos,af,none⟩,.pointer (some ⟨b,off,none⟩)))(hr:Rd P h t b off v)(y:TD E l n fl hs ds Lw F (dK π) (putS O dst v) h):TD E l n fl hs ds Lw F (dK (m ::π)) O h:=
 tR (congrArg Prod.fst e) (congrArg (λq=>q.2.1) e) (DA (congrArg (λq=>q.2.2) e) hr vz) y
theorem Py(e:(KO m,l[k]?)=((.p,k),some ⟨dst,op,ty,pos,af,none⟩))(x:∀hx,SZ E ⟨dst,op,ty,pos,af,none⟩ O ds hx v)(y:TD E l n fl hs ds Lw F (dK π) (putS O dst v) h):TD E l n fl hs ds Lw F (dK (m ::π)) O h:=tP (congrArg Prod.fst e) (congrArg Prod.snd e) x y
theorem Ry(e:(KO m,l[k]?,l[g]?,og.dst)=((.r,k),some ⟨dst,op,ty,pos,af,some (g,w)⟩,some og,some d))(h3:O d=.bool w)(x:SZ E ⟨dst,op,ty,pos,af,some (g,w)⟩ O ds h v)
  (y:TD E l n fl hs ds Lw F (dK π) (putS O dst v) h):TD E l n fl hs ds Lw F (dK (m ::π)) O h:=tRg (congrArg Prod.fst e) (congrArg (λq=>q.2.1) e) (congrArg (λq=>q.2.2.1) e) (congrArg (λq=>q.2.2.2) e) h3 x y
theorem Sz{kd:Kd}(e:(KO m,l[k]?,l[g]?,og.dst)=((kd,k),some ⟨dst,op,ty,pos,af,some (g,w)⟩,some og,some d))(h3:O d=.bool is)(hne:(is==w)=false)
  (y:TD E l n fl hs ds Lw F (dK π) (putS O dst undef) h) (hl:(kd !=Kd.l)=true:=by rfl):TD E l n fl hs ds Lw F (dK (m ::π)) O h:=tS (congrArg Prod.fst e) (congrArg (λq=>q.2.1) e) (congrArg (λq=>q.2.2.1) e) (congrArg (λq=>q.2.2.2) e) h3 hne y hl
end
end Go.Ns
namespace Go.Ns
open Go.Conc
abbrev J(x:Int):Value:=.int .i64 x
abbrev Pt(b:Nat):Value:=.pointer (some ⟨b,0,none⟩)
abbrev Sc(b:Nat)(n c:Nat):Value:=.slice (some ⟨b,0,none⟩) n c
abbrev Qc:Array Value:=#[J 0,J 0,.slice none 0 0,.slice none 0 0,.slice none 0 0,.slice none 0 0,.slice none 0 0,.map none]
abbrev Qd(a:List AE)(b:List AM)(c:List AK)(d:Nat):Array Value:=#[J (((AB a b c).getD (((d:Int)-1).toNat) AG.zero).ways 0),J (((AB a b c).getD (((d:Int)-1).toNat) AG.zero).ways 1),J (((AB a b c).getD (((d:Int)-1).toNat) AG.zero).ways 2),J (((AB a b c).getD (((d:Int)-1).toNat) AG.zero).ways 3),J (((AB a b c).getD (((d:Int)-1).toNat) AG.zero).ways 4)]
abbrev Qe(a:List AE)(b:List AM)(c:List AK)(d:Nat):Array Value:=#[J (((AB a b c).getD d AG.zero).ways 0),J (((AB a b c).getD d AG.zero).ways 1),J (((AB a b c).getD d AG.zero).ways 2),J (((AB a b c).getD d AG.zero).ways 3),J (((AB a b c).getD d AG.zero).ways 4)]
abbrev Qf(a:List AE)(b:Nat):Array Value:=#[J ((a.getD b AE.z).a),J ((a.getD b AE.z).b),J ((a.getD b AE.z).low),J ((a.getD b AE.z).high)]
abbrev Qg(a:ByteArray)(b:Nat):=decide (¬(((97<=((bytesOf a).getD b 0))/\(((bytesOf a).getD b 0)<=122))\/(((0<(b:Int))/\(48<=((bytesOf a).getD b 0)))/\(((bytesOf a).getD b 0)<=57))))
abbrev Qh(a:Int):=KH (KH a (FI a 13)) ((KH a (FI a 13)) / 128)
abbrev Qi:Value:=.slice none 0 0
abbrev Qj(a:List AK)(b:Nat):Array Value:=#[(a.getD b AK.z).wv,J ((a.getD b AK.z).low),J ((a.getD b AK.z).high)]
abbrev Qk(a:ByteArray)(b:Nat):=(bytesOf a).getD b 0
abbrev Ql(a:List AM)(b:Nat):=decide ((¬(((0<=((a.getD b AM.z).low)/\((a.getD b AM.z).low)<=((a.getD b AM.z).high))/\((a.getD b AM.z).high)<=30)/\((a.getD b AM.z).high)-((a.getD b AM.z).low)<2))\/(¬(0<=((a.getD b AM.z).due)/\((a.getD b AM.z).due)<=200)))
abbrev Qm(a:List AE)(b:Nat):=(a.getD b AE.z).b
abbrev Qn(a:List AM)(b:Nat):Array Value:=#[J ((a.getD b AM.z).place),J ((a.getD b AM.z).low),J ((a.getD b AM.z).high),J ((a.getD b AM.z).due),(a.getD b AM.z).pv]
abbrev Qo(a:List AG)(b:Nat):=(a.drop (1)).getD b AG.zero
abbrev Qp(a:List Value)(b:Array Int)(c:Nat)(d:Nat):=Bm a ((b.setIfInBounds c (b[d]!)).setIfInBounds d (b[c]!))
abbrev Qq(a:Nat)(b:Array Int)(c:Nat):=Sc a b.size c
abbrev Qr(a:List AE)(b:Nat):=(a.getD b AE.z).a
abbrev Qs(a:List ByteArray)(b:List AE)(c:List AM)(d:List AK):=decide ((((20<(a.length:Int))\/(20<(b.length:Int)))\/(20<(c.length:Int)))\/(20<(d.length:Int)))
abbrev Qt(a:Int)(b:Int):=decide ((¬(0<=a/\a<=9))\/(¬(0<=b/\b<=3)))
abbrev Qu(a:Int)(b:Int):Value:=.bool (decide (a<=b))
abbrev Qv(a:List AE)(b:List AM)(c:List AK)(d:Nat):Value:=.agg (Af ((AB a b c).getD d AG.zero))
abbrev Qw(a:Int)(b:Int)(c:Int)(d:Int):=decide ((((0<=a)/\(a<=b))/\(b<=c))/\((b-a)<d))
abbrev Qx(a:List ByteArray)(b:List AE)(c:Nat):=J (B4 a.length [(b.getD c AE.z).a,(b.getD c AE.z).b])
abbrev Qy(a:Nat)(b:Nat)(c:Array Int)(d:Nat):=decide (((a:Int)<=(b:Int))/\(¬((c[b]!)<(c[d]!))))
abbrev Qz(a:List AG):=a.getD 0 AG.zero
abbrev VM(a:List AM)(b:List Int):=Ag a.length b
abbrev Q11(a:List AM)(b:List Int)(c:Int):=(a.getD ((b.getD (c.toNat) 0).toNat) AM.z).due
abbrev Nk(a:List Int)(b:Nat):=J (a.getD b 0)
abbrev YG(a:List ByteArray)(b:Int)(c:Int):=B4 a.length [b,c]
abbrev Q14(a:List AK)(b:Nat):Array Value:=#[J ((a.getD b AK.z).low),J ((a.getD b AK.z).high)]
abbrev YH(a:List AM)(b:Int):=E8 a.length b
abbrev Q16(a:List AE)(b:Nat):Array Value:=#[J ((a.getD b AE.z).low),J ((a.getD b AE.z).high)]
abbrev Q17(a:List AM)(b:Nat):Array Value:=#[J ((a.getD b AM.z).low),J ((a.getD b AM.z).high)]
abbrev Q18(a:List AK)(b:Nat)(c:Nat):=((a.getD b AK.z).ways).getD c 0
abbrev Q19(a:Int)(b:Int):=decide (((0<=a/\a<=b)/\b<=30)/\((b-a)<2))
abbrev Q1a(a:List Value)(b:Array Int)(c:Nat)(d:Nat):=Bm a (b.setIfInBounds c (b[d]!))
abbrev Q1b(a:Nat):=J ((2*(a:Int))+1)
abbrev Q1c(a:Nat)(b:Int)(c:Array Int)(d:Nat):=decide (((((2*(a:Int))+1)+1)<b)/\((c[(d+((2*a)+1))]!)<(c[((d+((2*a)+1))+1)]!)))
abbrev Q1d(a:List AM)(b:List Int)(c:Int):=Ep a.length b c
abbrev Q1e(a:Int)(b:Int)(c:Int):=decide ((a<=b)/\(b<=c))
abbrev Q1f(a:Nat)(b:Nat):Value:=.bool (decide ((a:Int)<=(b:Int)))
abbrev Q1g(a:Nat)(b:Nat):=J ((a:Int)-(b:Int))
abbrev Q1h(a:Int)(b:Int)(c:Int)(d:Int):=decide (((a<=b)/\(b<=c))/\(c<=d))
abbrev Q1i(a:Nat)(b:Nat)(c:Array Int):=decide (((a:Int)<(b:Int))/\((c[b]!)<(c[((b:Int)-1).toNat]!)))
abbrev Q1j(a:List AM)(b:Nat):=(a.getD b AM.z).due
abbrev Q1k(a:List AK)(b:Nat):=(a.getD b AK.z).wv
abbrev Q1l:Array Value:=#[J 0,J 0,.slice none 0 0,.slice none 0 0,.slice none 0 0,.slice none 0 0]
abbrev Q1m(a:Nat):=J (((2*(a:Int))+1)+1)
abbrev Q1n(a:Nat)(b:Array Int)(c:Nat):=decide ((0<(a:Int))/\(¬((b[((a:Int)-1).toNat]!)<(b[c]!))))
abbrev Q1o(a:ByteArray):=decide (((a.size:Int)<1)\/(10<(a.size:Int)))
abbrev Q1p(a:List AM)(b:Nat):=(a.getD b AM.z).high
abbrev Q1q(a:Int):=decide ((97<=a)/\(a<=122))
abbrev Us(a:Int)(b:Int)(c:Value)(d:Value)(e:Value)(f:Value):Array Value:=#[.agg #[J a,J b,c,d,e,f]]
abbrev Q1s(a:Array Int)(b:Nat)(c:Nat):=decide (¬((a[b]!)<(a[c]!)))
abbrev Q1t(a:Int):=decide (¬(0<=a/\a<=3))
abbrev Q1u(a:List Int)(b:Nat)(c:List Int):=J (Sh (a.getD b 0) (c.getD b 0))
abbrev Q1v(a:List Sl)(b:Nat):=((a.drop (1)).getD b Sl.z).1
abbrev Q1w(a:Int):=decide ((48<=a)/\(a<=57))
abbrev Q1x(a:Nat):Value:=.func (.func 90) #[] #[Pt a]
abbrev Q1y(a:Nat):Value:=.func (.func 77) #[] #[Pt a]
abbrev Q1z(a:List AM)(b:Nat):=(a.getD b AM.z).low
abbrev Q20:=Af AG.zero
abbrev Q21(a:Nat)(b:Nat):Value:=.func (.func 46) #[] #[Pt a,Pt b]
abbrev Q22(a:Nat)(b:Nat):Value:=.func (.func 82) #[] #[Pt a,Pt b]
abbrev Q23(a:List AM)(b:List Int)(c:Nat):=J (E8 a.length (b.getD c 0))
end Go.Ns
namespace Go.Ns
open Go.Conc Go.Proofs Go.Proofs.Tryz
theorem ET:IV prog 106 106=some (42,1,24):=aB
theorem Ut:IV prog 22 22=some (9,1,16):=aB
theorem Uu:IV prog 23 23=some (39,4,32):=aB
theorem Uv:IV prog 24 24=some (54,5,56):=aB
theorem Js:IV prog 25 25=some (83,3,40):=aB
theorem Ca:IV prog 42 42=some (3,1,8):=aB
theorem Uw:IV prog 45 45=some (31,2,16):=aB
theorem Ux:IV prog 89 89=some (101,9,72):=aB
theorem ZP:arrOf prog 136=some (5,false,1):=aB
theorem EU:M7 prog 118=some (4,1):=aB
theorem FB:M7 prog 157=some (4,4):=aB
theorem If:M7 prog 98=some (5,1):=aB
theorem EP:M7 prog 99=some (4,1):=aB
theorem fx_bt3:LU prog 3=some 8:=aB
theorem fx_bt4:LU prog 4=some 1:=aB
theorem KC:AN Tryz.f10=true:=aB
theorem WV:AN Tryz.f100=true:=aB
theorem WW:AN Tryz.f101=true:=aB
theorem Kq:AN Tryz.f102=true:=aB
theorem Ps:AN Tryz.f103=true:=aB
theorem WX:AN Tryz.f104=true:=aB
theorem WY:AN Tryz.f105=true:=aB
theorem Pu:AN Tryz.f106=true:=aB
theorem JA:AN Tryz.f107=true:=aB
theorem Kr:AN Tryz.f108=true:=aB
theorem Pv:AN Tryz.f109=true:=aB
theorem Rs:AN Tryz.f11=true:=aB
theorem Pw:AN Tryz.f110=true:=aB
theorem Px:AN Tryz.f111=true:=aB
theorem JB:AN Tryz.f112=true:=aB
theorem P0:AN Tryz.f113=true:=aB
theorem Ks:AN Tryz.f114=true:=aB
theorem WZ:AN Tryz.f115=true:=aB
theorem Wa:AN Tryz.f116=true:=aB
theorem Wb:AN Tryz.f117=true:=aB
theorem Wc:AN Tryz.f118=true:=aB
theorem P1:AN Tryz.f119=true:=aB
theorem ZQ:AN Tryz.f12=true:=aB
theorem Wd:AN Tryz.f120=true:=aB
theorem We:AN Tryz.f121=true:=aB
theorem Wf:AN Tryz.f122=true:=aB
theorem Wg:AN Tryz.f123=true:=aB
theorem Wh:AN Tryz.f124=true:=aB
theorem Cv:AN Tryz.f125=true:=aB
theorem Wi:AN Tryz.f126=true:=aB
theorem Wj:AN Tryz.f127=true:=aB
theorem Wl:AN Tryz.f129=true:=aB
theorem FC:AN Tryz.f13=true:=aB
theorem Wm:AN Tryz.f130=true:=aB
theorem P2:AN Tryz.f131=true:=aB
theorem Wn:AN Tryz.f132=true:=aB
theorem Wo:AN Tryz.f133=true:=aB
theorem Kt:AN Tryz.f134=true:=aB
theorem P3:AN Tryz.f135=true:=aB
theorem Ku:AN Tryz.f136=true:=aB
theorem ZR:AN Tryz.f14=true:=aB
theorem Ru:AN Tryz.f15=true:=aB
theorem Wp:AN Tryz.f153=true:=aB
theorem Wq:AN Tryz.f154=true:=aB
theorem Wr:AN Tryz.f155=true:=aB
theorem Ws:AN Tryz.f156=true:=aB
theorem Wt:AN Tryz.f157=true:=aB
theorem Wu:AN Tryz.f158=true:=aB
theorem Wv:AN Tryz.f159=true:=aB
theorem Mc:AN Tryz.f16=true:=aB
theorem Ww:AN Tryz.f160=true:=aB
theorem Wx:AN Tryz.f161=true:=aB
theorem Wy:AN Tryz.f162=true:=aB
theorem P4:AN Tryz.f163=true:=aB
theorem Wz:AN Tryz.f164=true:=aB
theorem W0:AN Tryz.f165=true:=aB
theorem W1:AN Tryz.f166=true:=aB
theorem W3:AN Tryz.f167=true:=aB
theorem W4:AN Tryz.f168=true:=aB
theorem W5:AN Tryz.f169=true:=aB
theorem Md:AN Tryz.f17=true:=aB
theorem W6:AN Tryz.f170=true:=aB
theorem Me:AN Tryz.f18=true:=aB
theorem Mf:AN Tryz.f19=true:=aB
theorem ZS:AN Tryz.f20=true:=aB
theorem ZT:AN Tryz.f21=true:=aB
theorem Mg:AN Tryz.f23=true:=aB
theorem ZU:AN Tryz.f25=true:=aB
theorem ZV:AN Tryz.f28=true:=aB
theorem GY:AN Tryz.f29=true:=aB
theorem ZW:AN Tryz.f34=true:=aB
theorem ZX:AN Tryz.f35=true:=aB
theorem ZY:AN Tryz.f36=true:=aB
theorem ZZ:AN Tryz.f37=true:=aB
theorem Za:AN Tryz.f38=true:=aB
theorem Zb:AN Tryz.f39=true:=aB
theorem Zc:AN Tryz.f40=true:=aB
theorem Zd:AN Tryz.f41=true:=aB
theorem Ig:AN Tryz.f42=true:=aB
theorem Ze:AN Tryz.f43=true:=aB
theorem Fp:AN Tryz.f44=true:=aB
theorem DI:AN Tryz.f45=true:=aB
theorem Rv:AN Tryz.f46=true:=aB
theorem Mh:AN Tryz.f47=true:=aB
theorem Mi:AN Tryz.f48=true:=aB
theorem Zf:AN Tryz.f49=true:=aB
theorem HZ:AN Tryz.f50=true:=aB
theorem Ih:AN Tryz.f51=true:=aB
theorem Rw:AN Tryz.f52=true:=aB
theorem Zg:AN Tryz.f53=true:=aB
theorem Fq:AN Tryz.f54=true:=aB
theorem Mj:AN Tryz.f55=true:=aB
theorem KD:AN Tryz.f56=true:=aB
theorem Rx:AN Tryz.f57=true:=aB
theorem R0:AN Tryz.f58=true:=aB
theorem R1:AN Tryz.f59=true:=aB
theorem GZ:AN Tryz.f60=true:=aB
theorem R2:AN Tryz.f61=true:=aB
theorem R3:AN Tryz.f62=true:=aB
theorem R4:AN Tryz.f63=true:=aB
theorem Zh:AN Tryz.f64=true:=aB
theorem Zi:AN Tryz.f65=true:=aB
theorem EC:AN Tryz.f66=true:=aB
theorem Ml:AN Tryz.f67=true:=aB
theorem Zj:AN Tryz.f68=true:=aB
theorem Zk:AN Tryz.f69=true:=aB
theorem Zl:AN Tryz.f73=true:=aB
theorem Zm:AN Tryz.f74=true:=aB
theorem Zn:AN Tryz.f75=true:=aB
theorem Zo:AN Tryz.f76=true:=aB
theorem R5:AN Tryz.f77=true:=aB
theorem R6:AN Tryz.f78=true:=aB
theorem R7:AN Tryz.f79=true:=aB
theorem Zp:AN Tryz.f80=true:=aB
theorem R8:AN Tryz.f81=true:=aB
theorem R9:AN Tryz.f82=true:=aB
theorem Mm:AN Tryz.f83=true:=aB
theorem Ii:AN Tryz.f84=true:=aB
theorem SA:AN Tryz.f85=true:=aB
theorem SB:AN Tryz.f86=true:=aB
theorem Zq:AN Tryz.f87=true:=aB
theorem KE:AN Tryz.f88=true:=aB
theorem Zs:AN Tryz.f89=true:=aB
theorem fx_call9:AN Tryz.f9=true:=aB
theorem SC:AN Tryz.f90=true:=aB
theorem Zt:AN Tryz.f91=true:=aB
theorem SD:AN Tryz.f92=true:=aB
theorem Zu:AN Tryz.f93=true:=aB
theorem Zv:AN Tryz.f94=true:=aB
theorem Zw:AN Tryz.f95=true:=aB
theorem Zx:AN Tryz.f96=true:=aB
theorem Zy:AN Tryz.f97=true:=aB
theorem Zz:AN Tryz.f98=true:=aB
theorem Z0:AN Tryz.f99=true:=aB
theorem Hv:prog.eqGuardType prog.depth 31=false:=aB
theorem Uy:prog.eqGuardType prog.depth 98=false:=aB
theorem ED:Ee prog 106=some 1:=aB
theorem Mn:Ee prog 146=some 1:=aB
theorem Z1:Ee prog 206=some 1:=aB
theorem G0:Ee prog 22=some 1:=aB
theorem FR:Ee prog 23=some 4:=aB
theorem Es:Ee prog 24=some 5:=aB
theorem Hw:Ee prog 25=some 3:=aB
theorem AQ:Ee prog 42=some 1:=aB
theorem F8:Ee prog 45=some 2:=aB
theorem F9:Ee prog 89=some 9:=aB
theorem Lm:∀a:E7,ckP prog 4 103 (Em a)=true:=by intros;kernel_rfl
theorem Lp:∀a b:E7,Oa prog 4 103 (Em a) (Em b)=some ((a.1.1==b.1.1 && (a.1.2.1==b.1.2.1 && (a.1.2.2.1==b.1.2.2.1 && (a.1.2.2.2.1==b.1.2.2.2.1 && (a.1.2.2.2.2==b.1.2.2.2.2 && true))))) && (a.2.1==b.2.1 && (a.2.2==b.2.2 && true))):=by intros;kernel_rfl
theorem Cn:Dr prog 101 0=some 0:=aB
theorem Jt:Dr prog 101 1=some 5:=aB
theorem Uz:Dr prog 145 0=some 0:=aB
theorem U0:Dr prog 145 1=some 1:=aB
theorem Kv:Dr prog 27 0=some 0:=aB
theorem Eu:Dr prog 27 1=some 1:=aB
theorem CJ:Dr prog 27 2=some 2:=aB
theorem B2:Dr prog 27 3=some 3:=aB
theorem Bu:Dr prog 27 4=some 4:=aB
theorem CC:Dr prog 27 5=some 5:=aB
theorem Ck:Dr prog 31 0=some 0:=aB
theorem Cl:Dr prog 31 1=some 1:=aB
theorem CS:Dr prog 39 0=some 0:=aB
theorem Cb:Dr prog 39 1=some 1:=aB
theorem Kw:Dr prog 39 2=some 2:=aB
theorem JC:Dr prog 54 0=some 0:=aB
theorem Kx:Dr prog 54 1=some 1:=aB
theorem JD:Dr prog 54 2=some 3:=aB
theorem D0:Dr prog 54 3=some 4:=aB
theorem EI:Dr prog 83 0=some 0:=aB
theorem JE:Dr prog 83 1=some 1:=aB
theorem A0:Dr prog 88 0=some 0:=aB
theorem D1:Dr prog 92 0=some 0:=aB
theorem Hx:Dr prog 92 1=some 6:=aB
theorem JF:Dr prog 92 2=some 7:=aB
theorem W7:(prog.info? 145).isSome=true:=aB
theorem fx_infs3:(prog.info? 3).isSome=true:=aB
theorem fx_infs4:(prog.info? 4).isSome=true:=aB
theorem W8:(prog.info? 145).map (·.zero)=some (some (.agg #[.int .i64 0,.bool false])):=aB
theorem fx_infz3:(prog.info? 3).map (·.zero)=some (some (.int .i64 0)):=aB
theorem fx_infz4:(prog.info? 4).map (·.zero)=some (some (.bool false)):=aB
theorem Ky:MB prog 156=some .u64:=aB
theorem W9:MB prog 177=some .u64:=aB
theorem Ev:MB prog 3=some .i64:=aB
theorem G1:MB prog 5=some .u8:=aB
theorem Mp:LF prog 121=some (3,3):=aB
theorem Lq:LF prog 90=some (103,3):=aB
theorem Mq:∀a:Int,ckP prog 3 3 (Dj a)=true:=by intros;kernel_rfl
theorem Mr:∀a b:Int,Oa prog 3 3 (Dj a) (Dj b)=some (a==b):=by intros;kernel_rfl
theorem Ae:prog.follows .mixedOrders=true:=aB
theorem U1:(prog.info? 3).bind (·.zero)=some (.int .i64 0):=aB
theorem TR:(prog.info? 3).bind (·.zero)=some (.int .i64 0):=aB
theorem Ls:Ef prog 103=some [(0,5),(5,1),(6,1)]:=aB
theorem fx_pl145:Ef prog 145=some [(0,1),(1,1)]:=aB
theorem fx_pl27:Ef prog 27=some [(0,1),(1,1),(2,1),(3,1),(4,1),(5,1)]:=aB
theorem JG:Ef prog 31=some [(0,1),(1,1)]:=aB
theorem TS:Ef prog 39=some [(0,1),(1,1),(2,2)]:=aB
theorem TT:Ef prog 54=some [(0,1),(1,2),(3,1),(4,1)]:=aB
theorem TU:Ef prog 83=some [(0,1),(1,2)]:=aB
theorem H6:Ef prog 88=some [(0,6)]:=aB
theorem H7:Ef prog 92=some [(0,6),(6,1),(7,1)]:=aB
theorem U2:s2bOf prog 9 206=some 5:=aB
theorem Ha:DR prog 106=some (1,#[.slice none 0 0],42):=aB
theorem Z2:DR prog 146=some (1,#[.bool false],4):=aB
theorem U3:DR prog 22=some (1,#[.string ⟨#[]⟩],9):=aB
theorem U4:DR prog 23=some (4,#[.int .i64 0,.int .i64 0,.int .i64 0,.int .i64 0],39):=aB
theorem U5:DR prog 24=some (5,#[.int .i64 0,.int .i64 0,.int .i64 0,.int .i64 0,.slice none 0 0],54):=aB
theorem Lt:DR prog 25=some (3,#[.slice none 0 0,.int .i64 0,.int .i64 0],83):=aB
theorem BT:DR prog 42=some (1,#[.int .i64 0],3):=aB
theorem U6:DR prog 45=some (2,#[.int .i64 0,.int .i64 0],31):=aB
theorem fx_sel89:DR prog 89=some (9,#[.int .i64 0,.int .i64 0,.int .i64 0,.int .i64 0,.int .i64 0,.int .i64 0,.int .i64 0,.int .i64 0,.int .i64 0],101):=aB
theorem FS:KG prog 106=true:=aB
theorem fx_sl146:KG prog 146=true:=aB
theorem fx_sl206:KG prog 206=true:=aB
theorem Dc:KG prog 22=true:=aB
theorem D5:KG prog 23=true:=aB
theorem FD:KG prog 24=true:=aB
theorem FX:KG prog 25=true:=aB
theorem BB:KG prog 42=true:=aB
theorem Lu:KG prog 45=true:=aB
theorem GA:KG prog 89=true:=aB
theorem EJ:OV prog 9=true:=aB
theorem Cc:Cd prog 101=some (true,9):=aB
theorem GB:Cd prog 106=some (false,1):=aB
theorem Lx:Cd prog 112=some (false,1):=aB
theorem fx_ty136:Cd prog 136=some (true,5):=aB
theorem Ly:Cd prog 141=some (false,1):=aB
theorem L0:Cd prog 142=some (false,1):=aB
theorem P5:Cd prog 143=some (false,1):=aB
theorem fx_ty145:Cd prog 145=some (true,2):=aB
theorem fx_ty158:Cd prog 158=some (false,1):=aB
theorem Ju:Cd prog 159=some (false,1):=aB
theorem Ew:Cd prog 177=some (false,1):=aB
theorem Dd:Cd prog 22=some (false,1):=aB
theorem DB:Cd prog 23=some (false,1):=aB
theorem C4:Cd prog 24=some (false,1):=aB
theorem DU:Cd prog 25=some (false,1):=aB
theorem Ap:Cd prog 27=some (true,6):=aB
theorem AI:Cd prog 3=some (false,1):=aB
theorem A8:Cd prog 31=some (true,2):=aB
theorem GC:Cd prog 39=some (true,4):=aB
theorem Ga:Cd prog 4=some (false,1):=aB
theorem Bi:Cd prog 42=some (false,1):=aB
theorem fx_ty5:Cd prog 5=some (false,1):=aB
theorem H8:Cd prog 54=some (true,5):=aB
theorem FY:Cd prog 83=some (true,3):=aB
theorem CZ:Cd prog 88=some (true,6):=aB
theorem H9:Cd prog 89=some (false,1):=aB
theorem Ms:Cd prog 9=some (false,1):=aB
theorem OL:Cd prog 90=some (false,1):=aB
theorem A6:Cd prog 92=some (true,8):=aB
theorem IA:Cd prog 98=some (true,5):=aB
theorem Z3:(prog.underlying 156).isSome=true:=aB
theorem Fs:(prog.underlying 175).isSome=true:=aB
theorem OM:(prog.underlying 3).isSome=true:=aB
theorem fx_und41:(prog.underlying 41).isSome=true:=aB
theorem HR:(prog.underlying 5).isSome=true:=aB
theorem Jv:prog.underlying 141=some (.chan .both 145):=aB
theorem Jw:prog.underlying 142=some (.chan .both 3):=aB
theorem Jx:prog.underlying 143=some (.chan .both 4):=aB
theorem Fe:By prog 101=some #[.int .i64 0,.int .i64 0,.int .i64 0,.int .i64 0,.int .i64 0,.int .i64 0,.int .i64 0,.int .i64 0,.int .i64 0]:=aB
theorem JH:By prog 103=some #[.int .i64 0,.int .i64 0,.int .i64 0,.int .i64 0,.int .i64 0,.int .i64 0,.int .i64 0]:=aB
theorem P6:By prog 106=some #[.slice none 0 0]:=aB
theorem XA:By prog 112=some #[.nilFunc]:=aB
theorem P7:By prog 118=some #[.bool false,.bool false,.bool false,.bool false]:=aB
theorem XB:By prog 141=some #[.chan none]:=aB
theorem XC:By prog 142=some #[.chan none]:=aB
theorem XD:By prog 143=some #[.chan none]:=aB
theorem P8:By prog 145=some #[.int .i64 0,.bool false]:=aB
theorem XE:By prog 157=some #[.int .i64 0,.int .i64 0,.int .i64 0,.int .i64 0,.int .i64 0,.int .i64 0,.int .i64 0,.int .i64 0,.int .i64 0,.int .i64 0,.int .i64 0,.int .i64 0,.int .i64 0,.int .i64 0,.int .i64 0,.int .i64 0]:=aB
theorem XF:By prog 159=some #[.nilFunc]:=aB
theorem XG:By prog 177=some #[.int .u64 0]:=aB
theorem Gb:By prog 27=some #[.int .i64 0,.int .i64 0,.slice none 0 0,.slice none 0 0,.slice none 0 0,.slice none 0 0]:=aB
theorem fx_zero3:By prog 3=some #[.int .i64 0]:=aB
theorem Bs:By prog 31=some #[.int .i64 0,.int .i64 0]:=aB
theorem Ft:By prog 39=some #[.int .i64 0,.int .i64 0,.int .i64 0,.int .i64 0]:=aB
theorem fx_zero4:By prog 4=some #[.bool false]:=aB
theorem fx_zero42:By prog 42=some #[.slice none 0 0]:=aB
theorem Gc:By prog 54=some #[.int .i64 0,.int .i64 0,.int .i64 0,.int .i64 0,.slice none 0 0]:=aB
theorem Fu:By prog 83=some #[.slice none 0 0,.int .i64 0,.int .i64 0]:=aB
theorem Dp:By prog 88=some #[.int .i64 0,.int .i64 0,.slice none 0 0,.slice none 0 0,.slice none 0 0,.slice none 0 0]:=aB
theorem Z4:By prog 89=some #[.slice none 0 0]:=aB
theorem fx_zero9:By prog 9=some #[.string ⟨#[]⟩]:=aB
theorem BL:By prog 92=some #[.int .i64 0,.int .i64 0,.slice none 0 0,.slice none 0 0,.slice none 0 0,.slice none 0 0,.slice none 0 0,.map none]:=aB
end Go.Ns
namespace Go.Ns
open Go.Conc Go.Proofs Go.Proofs.Tryz
attribute [local irreducible] BV DL Tr AX Bz Ba
variable {W:Wk prog} {h:GH} (d m:Int) (gs:List Good) (gsv:Value) (ms:List Cu) (msv:Value) (cs:List CE) (csv:Value)
theorem QY(a:List Int)(av:Value)(b:List Int)(bv:Value)(ha:AD h av 1 eI a)(hb:AD h bv 1 eI b):AX W 87 #[av,bv] h (λv h'=>v=(.bool (decide (a=b)):Value)/\h.Le h'):=by
 have ad:=ha.len;have ae:=hb.len;refine Ct func87 Z (Sr (Az (.bool false) Z (Nl (S2 (Mz av Z (Pl Z (AR BB ha Z (Mz bv Z (Pl Z (AR BB hb Z (Pl Z (A5 Z Z (Nl (AU Z (λar=>?_) (λar=>?_)))))))))))))))
 ·exact Sr (Az (.bool false) Z (Nl (Rt (⟨Zr,Ot (.bool false) Z (⟨(by (rw [decide_eq_false (ne_len aA)];done)),Lr⟩)⟩))))
 ·refine Sk (S2 (Az (J 0) Z (Nl (Bk (Ac (λnn σ' ds' h'=>∃(k:Nat),nn=a.length-k/\(k<=a.length)/\(a.take k=b.take k)/\ds'=[]/\GH.Le h h'/\σ' 0=av/\σ' 1=bv/\σ' 5=J k) ⟨0,Z,aA,(by rfl),Z,Lr,Z,Z,Z⟩ (λnn _ _ _ au=>?_))))));obtain ⟨k,rfl,hk,hs,x8,x9,af,aq,ac⟩:=au;subst x8;refine S2 (Mv (J k) Z ac (Mv av Z af (Pl Z (AR BB (ha.le x9) Z (Pl Z (Am Z Z (Nl (AU Z (λag=>?_) (λag=>?_)))))))))
  ·refine Sk (Sq (Bk (Sq (Bl 8 false [1,6,10,16,21,26,30,36] Ae aB (Rz Z (Mo av af vz) (Rz Z (Mo (J k) ac vz) ?_))))));have ah:(0:Int)<=(k:Int):=aA
   have ai:(k:Int)<((a.length:Nat):Int):=aA
   refine tI Z Z AQ ha Z Z ah ai λaw aa aj=>have ak:Aa _ aw aa 1 (eI (a.getD k 0)):=Aa.getD 0 aj;Rl (Nk a k) Z (BH AI (ak.le x9) Z) (Rz Z (Mo bv aq vz) (Rz Z (Mo (J k) ac vz) ?_));have al:(0:Int)<=(k:Int):=aA
   have am:(k:Int)<((b.length:Nat):Int):=aA
   refine tI Z Z AQ hb Z Z al am λax ab an=>have ao:Aa _ ax ab 1 (eI (b.getD k 0)):=Aa.getD 0 an;Rl (Nk b k) Z (BH AI (ao.le x9) Z) (tN (Pl Z (A5 Z Z (Nl (AU Z (λap=>?_) (λap=>?_))))))
   ·exact Sr (Az (.bool false) Z (Nl (Rt (⟨Zr,Ot (.bool false) Z (⟨(by (rw [decide_eq_false (ne_getD (k:=k) (d:=0) ‹_›)])),x9⟩)⟩))))
   ·exact Sk (Rg (Mv (J k) Z ac (Yd Z aA (Az (J ((k:Int)+1)) Z (Nl (⟨_,aA,k+1,Z,aA,(by exact On 0 hs aA aA aF),Z,x9,af,aq,Z⟩))))))
  ·exact Xt (Sr (Az (.bool true) Z (Nl (Rt (⟨Zr,Ot (.bool true) Z (⟨(by (rw [decide_eq_true (Sf hs hk ‹_› aA)];done)),x9⟩)⟩)))))
theorem P9(a:List Int)(av:Value)(n:Int)(ha:AD h av 1 eI a):AX W 23 #[av,J n] h (λv h'=>v=(.bool (decide (n ∈ a)):Value)/\h.Le h'):=by
 have ab:=ha.len;refine Ct func23 Z (Sr (Az (.bool false) Z (Nl (S2 (Az (J 0) Z (Nl (Bk (Ac (λnn σ' ds' h'=>∃(k:Nat),nn=a.length-k/\(k<=a.length)/\(¬n ∈ a.take k)/\ds'=[]/\GH.Le h h'/\σ' 0=av/\σ' 1=J n/\σ' 5=J k) ⟨0,Z,aA,aD,Z,Lr,Z,Z,Z⟩ (λnn _ _ _ aj=>?_)))))))));obtain ⟨k,rfl,hk,hs,x6,x7,x8,x9,ac⟩:=aj;subst x6;refine S2 (Mv (J k) Z ac (Mv av Z x8 (Pl Z (AR BB (ha.le x7) Z (Pl Z (Am Z Z (Nl (AU Z (λad=>?_) (λad=>?_)))))))))
 ·refine Sk (Sq (Bk (Sr (Mv av Z x8 (Mv (J k) Z ac ?_)))));have ae:(0:Int)<=(k:Int):=aA
  have af:(k:Int)<((a.length:Nat):Int):=aA
  refine Pl Z (Ab AQ ha Z Z ae af λak aa ag=>have ah:Aa _ ak aa 1 (eI (a.getD k 0)):=Aa.getD 0 ag;Lz (Nk a k) Z (BH AI (ah.le x7) Z) (Mv (J n) Z x9 (Pl Z (CM Z Z (Nl (AU Z (λai=>?_) (λai=>?_)))))))
  ·exact Sr (Az (.bool true) Z (Nl (Rt (⟨Zr,Ot (.bool true) Z (⟨(by (rw [decide_eq_true (has_hit (k:=k) ‹_› ‹_›)];done)),x7⟩)⟩))))
  ·exact Sk (Rg (Mv (J k) Z ac (Yd Z aA (Az (J ((k:Int)+1)) Z (Nl (⟨_,aA,k+1,Z,aA,(by exact has_next ‹_› hs ‹_›),Z,x7,x8,x9,Z⟩))))))
 ·exact Xt (Sr (Az (.bool false) Z (Nl (Rt (⟨Zr,Ot (.bool false) Z (⟨(by (rw [decide_eq_false (has_end (k:=k) ‹_› hs)])),x7⟩)⟩)))))
theorem JI(n:Int)(lo:Int)(hi:Int):AX W 29 #[J n,J lo,J hi] h (λv h'=>v=(.bool (decide (lo<=n/\n<=hi)):Value)/\h=h'):=by
 refine Ct func29 Z (Sr (Az (.bool false) Z (Nl (BI (λσ' ds' h'=>ds'=[]/\h=h'/\σ' 6=.bool (Q1e lo n hi)) ?_ ?_))))
 ·refine Rg (Mz (J n) Z (Mz (J lo) Z (Pl Z (CQ Z Z (Mz (Qu lo n) Z (A1 (p:=lo<=n) ?_ ?_))))))
  ·intro aa;exact Gg 3 10 (AC Z aa) Z (Mo (J n) Z (Gg 3 10 (AC Z aa) Z (Mo (J hi) Z (Gg 3 10 (AC Z aa) Z (DZ Z Z (Pk true (Qu n hi) Z (AC Z aa) Z (Az (Qu n hi) Z (Nl (⟨Z,Z,Et (b:=(.bool (decide (n<=hi)):Value)) Z (congrArg Value.bool (by (simp [aa];done):decide (n<=hi)=(Q1e lo n hi)))⟩)))))))))
  ·intro aa;exact Gs 3 10 (AA Z aa) Z (Gs 3 10 (AA Z aa) Z (Gs 3 10 (AA Z aa) Z (Pk false (.bool false) Z (AA Z aa) Z (Az (.bool false) Z (Nl (⟨Z,Z,Et (b:=(.bool false:Value)) Z (congrArg Value.bool (by (simp [aa];done):false=(Q1e lo n hi)))⟩))))))
 ·rintro _ _ _ ⟨ac,ab,ad⟩;subst ac;subst ab;exact Rt (⟨Zr,JT Z (v:=.bool (Q1e lo n hi)) ad (⟨(by rfl),Z⟩)⟩)
theorem Nm(xl:Int)(xh:Int)(lo:Int)(hi:Int):AX W 106 #[.agg #[J xl,J xh],J lo,J hi] h (λv h'=>v=(.bool (decide ((lo<=xl/\xl<=xh)/\xh<=hi)):Value)/\h.Le h'):=by
 refine Ct func106 Z (Sr (Pl Z (Bo #[J xl,J xh] Z Z λ_ h2 _ ae ad _=>Az (.bool false) Z (Nl (BI (λσ' ds' h'=>ds'=[]/\h2=h'/\σ' 6=.bool (Q1h lo xl xh hi)) ?_ ?_)))))
 ·refine Rg (Fz Ck Z (Lz (J xl) Z (Rd.one AI ad Z) (Mz (J lo) Z (Pl Z (CQ Z Z (Mz (Qu lo xl) Z (A1 (p:=lo<=xl) ?_ ?_)))))))
  ·intro aa;refine Gg 4 11 (AC Z aa) Z (AJ Cl Z (Gg 4 11 (AC Z aa) Z (Lo (J xh) Z (Rd.one AI ad Z) (Gg 4 11 (AC Z aa) Z (AJ Ck Z (Gg 4 11 (AC Z aa) Z (Lo (J xl) Z (Rd.one AI ad Z) (Gg 4 11 (AC Z aa) Z (CQ Z Z (Pk true (Qu xl xh) Z (AC Z aa) Z (Mz (Qu xl xh) Z (A1 (p:=xl<=xh) ?_ ?_))))))))))))
   ·intro ab;exact Gg 11 18 (AC Z ab) Z (AJ Cl Z (Gg 11 18 (AC Z ab) Z (Lo (J xh) Z (Rd.one AI ad Z) (Gg 11 18 (AC Z ab) Z (Mo (J hi) Z (Gg 11 18 (AC Z ab) Z (DZ Z Z (Pk true (Qu xh hi) Z (AC Z ab) Z (Az (Qu xh hi) Z (Nl (⟨Z,Z,Et (b:=(.bool (decide (xh<=hi)):Value)) Z (congrArg Value.bool (by (simp [aa,ab];done):decide (xh<=hi)=(Q1h lo xl xh hi)))⟩)))))))))))
   ·intro ab;exact Gs 11 18 (AA Z ab) Z (Gs 11 18 (AA Z ab) Z (Gs 11 18 (AA Z ab) Z (Gs 11 18 (AA Z ab) Z (Pk false (.bool false) Z (AA Z ab) Z (Az (.bool false) Z (Nl (⟨Z,Z,Et (b:=(.bool false:Value)) Z (congrArg Value.bool (by (simp [aa,ab];done):false=(Q1h lo xl xh hi)))⟩)))))))
  ·intro aa;exact Gs 4 11 (AA Z aa) Z (Gs 4 11 (AA Z aa) Z (Gs 4 11 (AA Z aa) Z (Gs 4 11 (AA Z aa) Z (Gs 4 11 (AA Z aa) Z (Pk false (.bool false) Z (AA Z aa) Z (Mz (.bool false) Z (Gs 11 18 Z Z (Gs 11 18 Z Z (Gs 11 18 Z Z (Gs 11 18 Z Z (Pz false (.bool false) Z (Az (.bool false) Z (Nl (⟨Z,Z,Et (b:=(.bool false:Value)) Z (congrArg Value.bool (by (simp [aa];done):false=(Q1h lo xl xh hi)))⟩))))))))))))))
 ·rintro _ _ _ ⟨af,ac,ag⟩;subst af;subst ac;exact Rt (⟨Zr,JT Z (v:=.bool (Q1h lo xl xh hi)) ag (⟨(by rfl),ae⟩)⟩)
theorem U7(c:Int):AX W 117 #[.int .u8 c] h (λv h'=>v=(.bool (decide (Ei c)):Value)/\h=h'):=by
 refine Ct func117 Z (Sr (Az (.bool false) Z (Nl (BI (λσ' ds' h'=>ds'=[]/\h=h'/\σ' 2=.bool (Q1q c)) ?_ ?_))))
 ·refine Rg (Mz (.int .u8 c) Z (Pl Z (CQ Z Z (Mz (.bool (decide (97<=c))) Z (A1 (p:=97<=c) ?_ ?_)))))
  ·intro aa;exact Gg 2 5 (AC Z aa) Z (Mo (.int .u8 c) Z (Gg 2 5 (AC Z aa) Z (DZ Z Z (Pk true (.bool (decide (c<=122))) Z (AC Z aa) Z (Az (.bool (decide (c<=122))) Z (Nl (⟨Z,Z,Et (b:=(.bool (decide (c<=122)):Value)) Z (congrArg Value.bool (by (simp [aa];done):decide (c<=122)=(Q1q c)))⟩)))))))
  ·intro aa;exact Gs 2 5 (AA Z aa) Z (Gs 2 5 (AA Z aa) Z (Pk false (.bool false) Z (AA Z aa) Z (Az (.bool false) Z (Nl (⟨Z,Z,Et (b:=(.bool false:Value)) Z (congrArg Value.bool (by (simp [aa];done):false=(Q1q c)))⟩)))))
 ·rintro _ _ _ ⟨ac,ab,ad⟩;subst ac;subst ab;exact Rt (⟨Zr,JT Z (v:=.bool (Q1q c)) ad (⟨(by rfl),Z⟩)⟩)
theorem XH(c:Int):AX W 118 #[.int .u8 c] h (λv h'=>v=(.bool (decide (E3 c)):Value)/\h=h'):=by
 refine Ct func118 Z (Sr (Az (.bool false) Z (Nl (BI (λσ' ds' h'=>ds'=[]/\h=h'/\σ' 2=.bool (Q1w c)) ?_ ?_))))
 ·refine Rg (Mz (.int .u8 c) Z (Pl Z (CQ Z Z (Mz (.bool (decide (48<=c))) Z (A1 (p:=48<=c) ?_ ?_)))))
  ·intro aa;exact Gg 2 5 (AC Z aa) Z (Mo (.int .u8 c) Z (Gg 2 5 (AC Z aa) Z (DZ Z Z (Pk true (.bool (decide (c<=57))) Z (AC Z aa) Z (Az (.bool (decide (c<=57))) Z (Nl (⟨Z,Z,Et (b:=(.bool (decide (c<=57)):Value)) Z (congrArg Value.bool (by (simp [aa];done):decide (c<=57)=(Q1w c)))⟩)))))))
  ·intro aa;exact Gs 2 5 (AA Z aa) Z (Gs 2 5 (AA Z aa) Z (Pk false (.bool false) Z (AA Z aa) Z (Az (.bool false) Z (Nl (⟨Z,Z,Et (b:=(.bool false:Value)) Z (congrArg Value.bool (by (simp [aa];done):false=(Q1w c)))⟩)))))
 ·rintro _ _ _ ⟨ac,ab,ad⟩;subst ac;subst ab;exact Rt (⟨Zr,JT Z (v:=.bool (Q1w c)) ad (⟨(by rfl),Z⟩)⟩)
theorem QZ(xs:List Int)(xsv:Value)(fv:Value)(p:Int->Bool)(hxs:AD h xsv 1 eI xs)(hf:∀x ∈ xs,∀h1,h.Le h1->Bz W fv #[J x] h1 λv h2=>v=.bool (p x)/\h1.Le h2):AX W 169 #[xsv,fv] h (λv h'=>v=(J (idxOf p xs):Value)/\h.Le h'):=by
 have ac:=hxs.len;refine Ct func169 Z (Sr (Az (J 0) Z (Nl (S2 (Mz xsv Z (Pl Z (AR BB hxs Z (Mz (J 0) Z (Nl (Bk (Ac (λnn σ' ds' h'=>∃(k:Nat),nn=xs.length-k/\(k<=xs.length)/\((xs.take k).any p=false)/\ds'=[]/\GH.Le h h'/\σ' 0=xsv/\σ' 1=fv/\σ' 7=J (xs.length:Int)/\σ' 8=J k) ⟨0,Z,aA,aD,Z,Lr,Z,Z,Z,Z⟩ (λnn _ _ _ am=>?_))))))))))));obtain ⟨k,rfl,hk,hs,x6,x7,x8,x9,al,ad⟩:=am;subst x6;refine Sr (Pl Z (Am ad al (Nl (Sq (AU Z (λae=>?_) (λae=>?_))))))
 ·refine Sk (Sq (Bk (Sr (Mv (J k) Z ad (Az (J k) Z (Nl (Sr (Mv fv Z x9 (Mv xsv Z x8 (Mz (J k) Z ?_))))))))));have af:(0:Int)<=(k:Int):=aA
  have ag:(k:Int)<((xs.length:Nat):Int):=aA
  refine Pl Z (Ab AQ hxs Z Z af ag λan ab ah=>have ai:Aa _ an ab 1 (eI (xs.getD k 0)):=Aa.getD 0 ah;Lz (Nk xs k) Z (BH AI (ai.le x7) Z) (Pl Z (Ke Z (vs:=#[J (xs.getD k 0)]) (by simp only [List.map_toArray,List.map_cons,List.map_nil,AP] <;> rfl) ((hf (xs.getD k 0) (Br aA) _ x7).mono λ_ _ aj=>?_))));obtain ⟨rfl,aa⟩:=aj;refine Nl (CV Z (λak=>?_) (λak=>?_))
  ·exact Sr (Mz (J k) Z (Az (J k) Z (Nl (Rt (⟨Zr,Ot (J k) Z (⟨(by (rw [HW (k:=k) aA hs ‹_›];done)),(x7.trans aa)⟩)⟩)))))
  ·exact Sk (Rg (Ad _ _ Z ad Z aA (Mz (J ((k:Int)+1)) Z (Nl (⟨_,aA,k+1,Z,aA,(by exact EM (d:=0) aA hs ‹_›),Z,(x7.trans aa),x8,x9,al,Z⟩)))))
 ·exact Xt (Sr (Az (J (-1)) Z (Nl (Rt (⟨Zr,Ot (J (-1)) Z (⟨(by (rw [GT (k:=k) aA hs])),x7⟩)⟩)))))
theorem Ij(xs:List Int)(xsv:Value)(fv:Value)(p:Int->Bool)(hxs:AD h xsv 1 eI xs)(hf:∀x ∈ xs,∀h1,h.Le h1->Bz W fv #[J x] h1 λv h2=>v=.bool (p x)/\h1.Le h2):AX W 163 #[xsv,fv] h (λv h'=>v=(.bool (xs.any p):Value)/\h.Le h'):=by
 have aa:=hxs.len;refine Ct func163 Z (Sr (Az (.bool false) Z (Nl (Sr (Mz xsv Z (Mz fv Z (Pl Z (AS func169 W5 Z Z ((QZ xs xsv fv p hxs (λx hx h1 l1=>hf x hx h1 (GH.Le.trans Lr l1))).mono λ_ _ ac=>?_)))))))));obtain ⟨rfl,ab⟩:=ac;exact Pl Z (CQ Z Z (Az (.bool (decide (0<=(idxOf p xs)))) Z (Nl (Rt (⟨Zr,Ot (.bool (decide (0<=(idxOf p xs)))) Z (⟨(by rw [show decide (0<=idxOf p xs)=xs.any p from by rw [Bool.eq_iff_iff];simp [E4]]),ab⟩)⟩)))))
end Go.Ns
