/- Rules and walks, part 3 of 6. No conditions. -/
import Derived.Carry
import Derived.Conc.LeavingOf
import Derived.LaidMore
import Derived.OpenShut
import Derived.Test.YtecpfaceomflkaaGreatDoorPWB
import Derived.Test.YtecpfaceomflkaaGreatDoorProg
set_option linter.unusedVariables false
set_option linter.unusedSimpArgs false
set_option linter.unnecessarySimpa false
set_option linter.unusedSectionVars false
namespace Go.Ns
open Go.Conc
section
variable {P:Program} {E:GG P} {O:Nat->Value} {ds:List Deferred} {h:GH} {T:(Nat->Value)->List Deferred->GH->Prop} {dst:Option Nat} {ty:TypeId} {pos:String} {af:Array Edge} {gd:Option (Nat×Bool)}
theorem ok_eqlB{xt yt:TypeId}{x y:Operand}{a b:Bool}(hx:AR O x=.bool a)(hy:AR O y=.bool b)(he:OP P 1 xt (.bool a) (.bool b)=some (a==b))(k:T (putS O dst (.bool (a==b))) ds h):BV E ⟨dst,.binOp .eql xt x y yt,ty,pos,af,gd⟩ O ds h T:=by
 unfold BV execOp;simp only [hx,hy];refine Ft (AG _ _ ?_);have hg:∀(Q:Unit->GH->Prop),Q () h->(eqGuard .eql xt x y (.bool a) (.bool b)).gh P h Q:=λQ q=>q;refine hg _ ?_;show Sem.gh P (do pure (Value.bool (<-Op.equal xt (.bool a) (.bool b))):Sem Value) h _;refine AG _ _ ?_;exact Iv 1 _ _ _ _ (a==b) h _ aC he k
theorem QE{t:TypeId}{x o:Operand}{m n b off hi:Nat}(ht:M1 P t=some (m,n))(hx:AR O x=.pointer (some ⟨b,off,none⟩))(ho:∃kd,AR O o=.int kd hi)(h2:hi<=m)(k:T (putS O dst (.slice (some ⟨b,off,none⟩) hi m)) ds h) :
  BV E ⟨dst,.slice t x none (some o) none,ty,pos,af,gd⟩ O ds h T:=by
 obtain ⟨kd,e⟩:=ho;unfold BV execOp;simp only [hx];refine Ft ?_;unfold M1 at ht;unfold Instr.sliceAt;cases hu:P.underlying t with
 | none=>rw [hu] at ht;cases ht
 | some d=>
  rw [hu] at ht;cases d <;> first | (cases ht;done) | skip
  rename_i el
  simp only [Option.map_eq_some_iff,Prod.mk.injEq] at ht;obtain ⟨x0,hx0,rfl,rfl⟩:=ht;refine AG _ _ (Aq hu ?_);dsimp only;refine AG _ _ (A1 ?_);unfold Instr.sliceBounds;simp only [Option.map_some,Option.map_none,e,Bool.false_eq_true,↓reduceIte];refine AG _ _ (AG _ _ (A1 (AG _ _ (DL aA aA (AG _ _ (A1 (A1 ?_)))))));refine AG _ _ (EC hx0 (A1 ?_));simp only [Nat.sub_zero,Nat.zero_mul,Is,Nat.add_zero,ite_self,Int.toNat_natCast];exact k
end
def eBo(b:Bool):Array Value:=#[.bool b]
theorem can_sl{h:GH}{r n:Nat}{p:Bool}{c:Hv}{t:TypeId}{f:Nat×Nat}(hb:h r=some (p,.cells (F4 c) t f))(hn:n<=4):AD h (.slice (some ⟨r,0,none⟩) n 4) 1 eBo (Ox c n):=by
 refine ⟨some ⟨r,0,none⟩,4,by simp [Ox],by simpa [Ox] using hn,by simp [Ox];omega,λi hi=>⟨r,0,rfl,p,_,t,f,hb,?_,?_⟩⟩
 ·have:i<n:=by simpa [Ox] using hi
  show 0+i*1+1<=4;omega
 ·have hi':i<n:=by simpa [Ox] using hi
  have h4:i<4:=aA
  have e:(Ox c n)[i]=c i:=by simp [Ox]
  rw [e]
  match i,h4 with
  | 0,_=>rfl
  | 1,_=>rfl
  | 2,_=>rfl
  | 3,_=>rfl
theorem O0{ws:List AH}{c c':Hv}{np k:Nat}(h:Ej ws (np-k) c=c')(hk:np<=k):c=c':=by
 rw [Nat.sub_eq_zero_of_le hk] at h;exact h
theorem UD{ws:List AH}{c c':Hv}{np k:Nat}(h:Ej ws (np-k) c=c')(hk:k<np):Ej ws (np-(k+1)) (Gq ws c)=c':=by
 rw [show np-k=(np-(k+1))+1 by omega] at h;exact h
def BJ(ws:List AH)(c:Hv)(k:Nat):Hv:=(ws.take k).foldl Hw c
theorem Vo{ws:List AH}{c:Hv}{k:Nat}(hk:k<ws.length):BJ ws c (k+1)=Hw (BJ ws c k) (ws.getD k AH.z):=by
 unfold BJ;rw [Dt AH.z hk,List.foldl_append];rfl
theorem Yg{ws:List AH}{c:Hv}{k:Nat}(hk:ws.length<=k):BJ ws c k=Gq ws c:=by
 unfold BJ Gq;rw [List.take_of_length_le hk]
structure AI where
 ways:Nat->Int
 works:Nat->Int
def AI.zero:AI:=⟨λ_=>0,λ_=>0⟩
def Ag(p:AI):Array Value:=#[.int .i64 (p.ways 0),.int .i64 (p.ways 1),.int .i64 (p.ways 2),.int .i64 (p.ways 3),.int .i64 (p.ways 4),
 .int .i64 (p.works 0),.int .i64 (p.works 1),.int .i64 (p.works 2),.int .i64 (p.works 3)]
theorem Fg(p:AI):(Value.agg (Ag p)).cells.size=9:=rfl
theorem Fh(p:AI):Value.fine (.agg (Ag p))=true:=rfl
theorem GQ(p:AI):0+9<=(Ag p).size:=Nat.le_refl 9
theorem GR(p q:AI):B0 (Ag p) 0 (Value.agg (Ag q)).cells.toList=Ag q:=by
 simp [Value.cells,Ag,B0]
def AI.setWay(p:AI)(i:Nat)(n:Int):AI:={ p with ways:=λk=>if k=i then n else p.ways k }
def AI.setWork(p:AI)(i:Nat)(n:Int):AI:={ p with works:=λk=>if k=i then n else p.works k }
theorem GS{p:AI}{i:Nat}(h:i<5):(Ag p)[0+i*1]? =some (.int .i64 (p.ways i)):=by
 match i,h with
 | 0,_=>rfl
 | 1,_=>rfl
 | 2,_=>rfl
 | 3,_=>rfl
 | 4,_=>rfl
theorem Jg{p:AI}{i:Nat}(h:i<4):(Ag p)[5+i*1]? =some (.int .i64 (p.works i)):=by
 match i,h with
 | 0,_=>rfl
 | 1,_=>rfl
 | 2,_=>rfl
 | 3,_=>rfl
theorem QF{p:AI}{i:Nat}{n:Int}(h:i<5):B0 (Ag p) (0+i*1) [.int .i64 n]=Ag (p.setWay i n):=by
 match i,h with
 | 0,_=>rfl
 | 1,_=>rfl
 | 2,_=>rfl
 | 3,_=>rfl
 | 4,_=>rfl
theorem O1{p:AI}{i:Nat}{n:Int}(h:i<4):B0 (Ag p) (5+i*1) [.int .i64 n]=Ag (p.setWork i n):=by
 match i,h with
 | 0,_=>rfl
 | 1,_=>rfl
 | 2,_=>rfl
 | 3,_=>rfl
def AI.put(p:AI)(nw i:Nat)(n:Int):AI:=if i<nw then p.setWay i n else p.setWork (i-nw) n
theorem AI.put_put(p:AI)(nw i:Nat)(n m:Int):(p.put nw i n).put nw i m=p.put nw i m:=by
 unfold AI.put;split
 ·unfold AI.setWay;congr 1;funext k;simp only [];split <;> rfl
 ·unfold AI.setWork;congr 1;funext k;simp only [];split <;> rfl
def FU(p:AI)(l:List Int):Int:=(l.map λk=>p.ways k.toNat).sum
def Ck(ns:List AM)(p:AI):Bool:=ns.all λx=>decide (x.low<=FU p x.ways/\FU p x.ways<=x.high)
structure CK(p:AI):Prop where
 ways:∀k,0<=p.ways k/\p.ways k<=30
 works:∀k,0<=p.works k/\p.works k<=30
def N5(ns:List AM)(p:AI)(k:Nat):Bool:=decide ((ns.getD k AM.z).low<=FU p (ns.getD k AM.z).ways/\FU p (ns.getD k AM.z).ways<=(ns.getD k AM.z).high)
theorem S7{p:AI}{l:List Int}{q:Nat}(h:q<l.length):FU p (l.take (q+1))=FU p (l.take q)+p.ways (l.getD q 0).toNat:=by
 unfold FU;rw [Dt 0 h];simp
theorem NI{p:AI}{l:List Int}{q:Nat}(h:l.length<=q):FU p (l.take q)=FU p l:=by rw [List.take_of_length_le h]
theorem UE{p:AI}{ns:List AM}{k q:Nat}{s:Int}(hs:s=FU p ((ns.getD k AM.z).ways.take q))(hq:(ns.getD k AM.z).ways.length<=q)(h:(ns.getD k AM.z).low<=s/\s<=(ns.getD k AM.z).high):N5 ns p k=true:=by
 rw [NI hq] at hs;subst hs;exact decide_eq_true h
theorem Vp{p:AI}{ns:List AM}{k:Nat}(h:∀j,j<k->N5 ns p j=true)(hk:ns.length<=k):Ck ns p=true:=by
 unfold Ck;rw [List.all_eq_true];intro x hx;obtain ⟨i,hi,rfl⟩:=List.mem_iff_getElem.1 hx
 have:=h i aA
 unfold N5 at this;rw [DS AM.z hi] at this;exact this
theorem Yh{p:AI}{ns:List AM}{k q:Nat}{s:Int}(hk:k<ns.length)(hs:s=FU p ((ns.getD k AM.z).ways.take q))(hq:(ns.getD k AM.z).ways.length<=q)(h:¬((ns.getD k AM.z).low<=s/\s<=(ns.getD k AM.z).high)):Ck ns p=false:=by
 rw [NI hq] at hs;subst hs;rw [DS AM.z hk] at h;unfold Ck;rw [List.all_eq_false];exact ⟨ns[k],List.getElem_mem hk,by simpa using h⟩
theorem O2{f:Nat->Bool}{k:Nat}(h:∀j,j<k->f j=true)(e:f k=true):∀j,j<k+1->f j=true:=λj hj=>by
 rcases Nat.lt_succ_iff_lt_or_eq.1 hj with q | rfl
 ·exact h j q
 ·exact e
theorem O3{nw:Nat}{ns:List AM}(h:∀k,k<ns.length->D3 nw ns k=0)(k:Nat):(ns.getD k AM.z).ways.length<=5/\(∀q,0<=(ns.getD k AM.z).ways.getD q 0/\((ns.getD k AM.z).ways.getD q 0=0\/(ns.getD k AM.z).ways.getD q 0<=(nw:Int)-1)):=by
 rcases Nat.lt_or_ge k ns.length with hk | hk
 ·have e:=h k hk;unfold D3 at e;split at e
  ·cases e
  ·split at e
   ·cases e
   ·rename_i h5 h6
    refine ⟨aA,λq=>?_⟩;rcases Nat.lt_or_ge q (ns.getD k AM.z).ways.length with hq | hq
    ·have h7:¬∃x ∈ (ns.getD k AM.z).ways,¬(0<=x/\x<=(nw:Int)-1):=by simpa [List.any_eq_true] using h6
     have h8:0<=(ns.getD k AM.z).ways.getD q 0/\(ns.getD k AM.z).ways.getD q 0<=(nw:Int)-1:=Classical.byContradiction λz=>h7 ⟨_,Bl hq,z⟩;exact ⟨h8.1,.inr h8.2⟩
    ·rw [CP hq];exact ⟨Int.le_refl _,.inl rfl⟩
 ·rw [CP hk];refine ⟨by simp [AM.z],λq=>?_⟩;simp [AM.z]
def CZ(ws:List AH)(js:List AQ)(i:Nat):Int:=if i<ws.length then (ws.getD i AH.z).low else (js.getD (i-ws.length) AQ.z).low
def Gr(ws:List AH)(js:List AQ)(i:Nat):Int:=if i<ws.length then (ws.getD i AH.z).high else (js.getD (i-ws.length) AQ.z).high
def Cr(ag:AI->Bool)(ws:List AH)(js:List AQ):Nat->Nat->AI->List AI
 | 0,_,p=>[p]
 | f+1,i,p=>(Ib (CZ ws js i) (Gr ws js i)).flatMap λn=>if i+1=ws.length/\ag (p.put ws.length i n)=false then [] else Cr ag ws js f (i+1) (p.put ws.length i n)
def CR(ag:AI->Bool)(ws:List AH)(js:List AQ)(f i:Nat)(p:AI)(n:Int):List AI:=
 if i+1=ws.length/\ag (p.put ws.length i n)=false then [] else Cr ag ws js f (i+1) (p.put ws.length i n)
theorem Gh(ag:AI->Bool)(ws:List AH)(js:List AQ)(f i:Nat)(p:AI) :
  Cr ag ws js (f+1) i p=(Ib (CZ ws js i) (Gr ws js i)).flatMap (CR ag ws js f i p):=rfl
def AA(ws:List AH)(js:List AQ)(ns:List AM):List AI:=
 if 0<ws.length\/Ck ns AI.zero=true then Cr (Ck ns) ws js (ws.length+js.length) 0 AI.zero else []
def HF(nw i:Nat):Nat:=if i<nw then 0+i*1 else 5+(i-nw)*1
theorem Yi{nw i:Nat}(h:i<nw):HF nw i=0+i*1:=if_pos h
theorem Vq{nw i:Nat}(h:¬i<nw):HF nw i=5+(i-nw)*1:=if_neg h
theorem J8{p:AI}{nw nj i:Nat}{v:Int}(hw:nw<=5)(hj:nj<=4)(hi:i<nw+nj):(Ag (p.put nw i v))[HF nw i]? =some (.int .i64 v):=by
 unfold AI.put HF;split
 ·rw [GS aA];simp [AI.setWay]
 ·rw [Jg aA];simp [AI.setWork]
theorem F5{p:AI}{nw nj i:Nat}{v:Int}(hw:nw<=5)(hj:nj<=4)(hi:i<nw+nj):B0 (Ag p) (HF nw i) [.int .i64 v]=Ag (p.put nw i v):=by
 unfold AI.put HF;split
 ·exact QF aA
 ·exact O1 aA
theorem Jh{nw nj i:Nat}(hw:nw<=5)(hj:nj<=4)(hi:i<nw+nj):HF nw i+1<=9:=by unfold HF;split <;> omega
def AI.zeros(p:AI)(nw i:Nat):Prop:=(∀k,i<=k->k<nw->p.ways k=0)/\∀k,i<=nw+k->p.works k=0
theorem AI.zeros_put{p:AI}{nw i:Nat}(h:p.zeros nw i):p.put nw i 0=p:=by
 obtain ⟨wy,wo⟩:=p;unfold AI.put AI.setWay AI.setWork;split
 ·rename_i hi
  congr 1;funext k;split
  ·rename_i e;subst e;exact (h.1 k (Nat.le_refl _) hi).symm
  ·rfl
 ·rename_i hi
  congr 1;funext k;split
  ·rename_i e;subst e;exact (h.2 (i-nw) aA).symm
  ·rfl
theorem AI.zeros_next{p:AI}{nw i:Nat}{v:Int}(h:p.zeros nw i):(p.put nw i v).zeros nw (i+1):=by
 unfold AI.put;split
 ·refine ⟨λk h1 h2=>?_,λk h1=>h.2 k aA⟩;show (if k=i then v else p.ways k)=0;rw [if_neg aA];exact h.1 k aA h2
 ·refine ⟨λk h1 h2=>h.1 k aA h2,λk h1=>?_⟩;show (if k=i-nw then v else p.works k)=0;rw [if_neg aA];exact h.2 k aA
theorem AI.zeros_zero(nw i:Nat):AI.zero.zeros nw i:=⟨λ_ _ _=>rfl,λ_ _=>rfl⟩
theorem CK.zero:CK AI.zero:=⟨λ_=>(aC:(0:Int)<=0/\(0:Int)<=30),λ_=>(aC:(0:Int)<=0/\(0:Int)<=30)⟩
theorem CK.put{p:AI}(h:CK p){nw i:Nat}{v:Int}(hv:0<=v/\v<=30):CK (p.put nw i v):=by
 unfold AI.put;split
 ·refine ⟨λk=>?_,h.works⟩;show 0<=(if k=i then v else p.ways k)/\(if k=i then v else p.ways k)<=30;split
  ·exact hv
  ·exact h.ways k
 ·refine ⟨h.ways,λk=>?_⟩;show 0<=(if k=i-nw then v else p.works k)/\(if k=i-nw then v else p.works k)<=30;split
  ·exact hv
  ·exact h.works k
section
variable {bag kinds:Int} {ps:List ByteArray} {ws:List AH} {js:List AQ} {ns:List AM} {ag:AI->Bool} {p:AI} {all pre:List AI} {f i k:Nat}
theorem Bt.few(b:Bt bag kinds ps ws js ns)(hi:i<ws.length+js.length):0<=CZ ws js i/\CZ ws js i<=Gr ws js i/\Gr ws js i<=30/\Gr ws js i-CZ ws js i<2:=by
 unfold CZ Gr;by_cases h:i<ws.length
 ·rw [if_pos h,if_pos h];exact (UB b.way i h).time
 ·rw [if_neg h,if_neg h];exact (Oz (b.job (i-ws.length) aA)).time
theorem Yj(e:i+1=ws.length)(h:ag (p.put ws.length i (CZ ws js i+(k:Int)))=false) :
  pre++(Cj (CZ ws js i) (k+1)).flatMap (CR ag ws js f i p)=pre++(Cj (CZ ws js i) k).flatMap (CR ag ws js f i p):=by
 rw [NA];unfold CR;rw [if_pos ⟨e,h⟩,List.append_nil]
theorem RN(h:¬(i+1=ws.length/\ag (p.put ws.length i (CZ ws js i+(k:Int)))=false)) :
  pre++(Cj (CZ ws js i) (k+1)).flatMap (CR ag ws js f i p)=(pre++(Cj (CZ ws js i) k).flatMap (CR ag ws js f i p))++Cr ag ws js f (i+1) (p.put ws.length i (CZ ws js i+(k:Int))):=by
 rw [NA,<-List.append_assoc];congr 1;unfold CR;rw [if_neg h]
theorem NJ(hw:CY all pre (Cr ag ws js (f+1) i p))(hk:CZ ws js i+(k:Int)<=Gr ws js i)(h:¬(i+1=ws.length/\ag (p.put ws.length i (CZ ws js i+(k:Int)))=false)) :
  CY all (pre++(Cj (CZ ws js i) k).flatMap (CR ag ws js f i p)) (Cr ag ws js f (i+1) (p.put ws.length i (CZ ws js i+(k:Int)))):=by
 rw [Gh] at hw
 have:=hw.round hk
 unfold CR at this ⊢;rw [if_neg h] at this;exact this
end
theorem Vr{lo hi:Int}(h:hi-lo<2):(Ib lo hi).length<=2:=by unfold Ib Cj;simp;omega
theorem LX{bag kinds:Int}{ps:List ByteArray}{ws:List AH}{js:List AQ}{ns:List AM}(b:Bt bag kinds ps ws js ns)(ag:AI->Bool):∀(f i:Nat)(p:AI),i+f=ws.length+js.length->(Cr ag ws js f i p).length<=2 ^ f
 | 0,_,_,_=>Nat.le_refl _
 | f+1,i,p,h=>by
  rw [Gh];have h1:=(b.few (i:=i) aA).2.2.2;have h2:=Tu (f:=CR ag ws js f i p) (c:=2 ^ f) (l:=Ib (CZ ws js i) (Gr ws js i)) λx _=>by
   unfold CR;split
   ·exact Nat.zero_le _
   ·exact LX b ag f (i+1) _ aA
  have h3:=Nat.mul_le_mul_right (2 ^ f) (Vr h1);rw [Nat.pow_succ];omega
theorem Fi{bag kinds:Int}{ps:List ByteArray}{ws:List AH}{js:List AQ}{ns:List AM}(b:Bt bag kinds ps ws js ns):(AA ws js ns).length<=2000000:=by
 unfold AA;split
 ·have h1:=LX b (Ck ns) (ws.length+js.length) 0 AI.zero aA;have h2:2 ^ (ws.length+js.length)<=2 ^ 9:=Nat.pow_le_pow_right aA (by have:=b.wlen;have:=b.jlen;omega);omega
 ·exact Nat.zero_le _
def MQ(bag kinds:Int)(ps:List ByteArray)(ws:List AH)(js:List AQ)(ns:List AM):Int:=if Bc bag kinds ps ws js ns=0 then ((AA ws js ns).length:Int) else 0
section
variable {bag kinds:Int} {ps:List ByteArray} {ws:List AH} {js:List AQ} {ns:List AM}
theorem Yk(h:¬Bc bag kinds ps ws js ns=0):(.tuple #[.int .i64 0,.int .i64 (Bc bag kinds ps ws js ns)]:Value)=.tuple #[.int .i64 (MQ bag kinds ps ws js ns),.int .i64 (Bc bag kinds ps ws js ns)]:=by
 unfold MQ;rw [if_neg h]
theorem tHist_ok(h:¬¬Bc bag kinds ps ws js ns=0):(.tuple #[.int .i64 ((AA ws js ns).length:Int),.int .i64 0]:Value)=.tuple #[.int .i64 (MQ bag kinds ps ws js ns),.int .i64 (Bc bag kinds ps ws js ns)]:=by
 have e:=Decidable.not_not.1 h;unfold MQ;rw [if_pos e,e]
end
section
variable {V:Type} {hB h hc h':GH} {I:List V->(Nat->Prop)->GH->Prop} {S:GH->Prop} {rp:Nat} {T:TypeId} {c c':Array Value} {X0 X:Nat->Prop} {pre l:List V} {v:Value}
theorem EZ.stoppedI{I':List V->(Nat->Prop)->GH->Prop}{pre':List V}(hv:v=.bool false)(r:∀l',EZ hB I S pre X0 h l' (.bool false) h'):EZ hB I' S pre' X0 h l v h':=by
 obtain ⟨ok,X',e,hs,hk,hl,_,h2⟩:=r [];cases e;exact ⟨false,X',hv,hs,hk,hl,(λx=>by cases x),h2⟩
def DU(I:List V->(Nat->Prop)->GH->Prop)(rp:Nat)(T:TypeId)(c:Array Value):List V->(Nat->Prop)->GH->Prop:=λpre X h=>
 ∃X',I pre X' h/\¬X' rp/\(∀b,X b↔X' b\/b=rp)/\h rp=some (true,.cells c T (0,0))
theorem DU.prom(P:GB hB I):GB hB (DU I rp T c):=by
 refine ⟨?_,?_⟩
 ·rintro pre X h b ⟨X',i,n,hX,hp⟩ hb;rcases (hX b).1 hb with q | rfl
  ·exact P.dom _ _ _ _ i q
  ·exact ⟨_,_,hp,rfl⟩
 ·rintro pre X h h' ⟨X',i,n,hX,hp⟩ same lB;exact ⟨X',P.stable _ _ _ _ i (λb hb=>same b ((hX b).2 (.inl hb))) lB,n,hX,by rw [same rp ((hX rp).2 (.inr rfl))];exact hp⟩
theorem DU.box(x:DU I rp T c pre X h):h rp=some (true,.cells c T (0,0)):=by obtain ⟨_,_,_,_,e⟩:=x;exact e
theorem DU.mem(x:DU I rp T c pre X h):X rp:=by obtain ⟨X',_,_,hX,_⟩:=x;exact (hX rp).2 (.inr rfl)
theorem ER.put(P:GB hB I)(y:ER hB (DU I rp T c) X0 h pre X hc)(rB:hB rp=none)(nb:h' rp=some (true,.cells c' T (0,0)))(ho:∀b,b≠rp->h' b=hc b):ER hB (DU I rp T c') X0 h pre X h':=by
 obtain ⟨⟨X',i,n,hX,hp⟩,sub,keep,base⟩:=y;exact ⟨⟨X',P.store i n ho (base.upd rB ho),n,hX,nb⟩,sub,keep.store' (sub rp ((hX rp).2 (.inr rfl))) ho,base.upd rB ho⟩
theorem DU.call{P:Program}{W:Wk P}{yv:Value}{args:Array Value}(x:DU I rp T c pre X hc)(k:∀X',I pre X' hc->Bw W yv args hc (EZ hB I S pre X' hc l)):Bw W yv args hc (EZ hB (DU I rp T c) S pre X hc l):=by
 have x':=x;obtain ⟨X',i,n,hX,hp⟩:=x;refine (k X' i).mono λv h' r=>?_;obtain ⟨ok,X1,hv,hs,hk,hl,h1,h2⟩:=r;have n1:¬X1 rp:=λq=>(hs rp q).elim n λe=>by rw [hp] at e;cases e
 refine ⟨ok,λb=>X1 b\/b=rp,hv,?_,λb p o hb hn=>hk b p o hb λq=>hn ((hX b).2 (.inl q)),hl,λe=>⟨X1,h1 e,n1,λ_=>Iff.rfl,hk.box hp n rfl⟩,h2⟩;rintro b (q | rfl)
 ·exact (hs b q).imp (λq=>(hX b).2 (.inl q)) id
 ·exact .inl ((hX _).2 (.inr rfl))
theorem DU.start(x:I pre X hc)(hp:hc rp=some (true,.cells c T (0,0)))(n:¬X rp):DU I rp T c pre (λb=>X b\/b=rp) hc:=⟨X,x,n,λ_=>Iff.rfl,hp⟩
theorem DU.final{X0:Nat->Prop}(y:ER hB I X0 h pre X hc)(hn:h rp=none)(r:EZ hB (DU I rp T c) S pre (λb=>X b\/b=rp) hc l v h'):EZ hB I S pre X0 h l v h':=by
 obtain ⟨ok,X1,hv,hs,hk,hl,h1,h2⟩:=r;cases ok with
 | true=>
  obtain ⟨X2,i2,n2,hX2,hp2⟩:=h1 rfl;refine ⟨true,X2,hv,λb q=>?_,?_,hl,λ_=>i2,λe=>by cases e⟩
  ·rcases hs b ((hX2 b).2 (.inl q)) with (q1 | rfl) | q1
   ·exact y.sub b q1
   ·exact absurd q n2
   ·exact subX y.sub y.keep (X1:=λz=>z=b) (λz e=>.inr (by rw [e];exact q1)) b rfl
  ·intro b p o hb hX;obtain ⟨o',e1,e2⟩:=y.keep b p o hb hX;obtain ⟨o2,e3,e4⟩:=hk b p o' e1 (λq=>q.elim (λq=>(y.sub b q).elim hX λe=>by rw [e] at hb;cases hb) λe=>by rw [e,hn] at hb;cases hb);refine ⟨o2,e3,?_⟩;rcases e2 with rfl | e2
   ·exact e4
   ·rcases e4 with rfl | e4
    ·exact .inr e2
    ·exact .inr ⟨e2.1,e4.2⟩
 | false=>
  refine ⟨false,λb=>X0 b\/h b=none,hv,λb q=>q,?_,hl,(λe=>by cases e),λ_=>h2 rfl⟩;intro b p o hb hX;obtain ⟨o',e1,e2⟩:=y.keep b p o hb hX;obtain ⟨o2,e3,e4⟩:=hk b p o' e1 (λq=>q.elim (λq=>(y.sub b q).elim hX λe=>by rw [e] at hb;cases hb) λe=>by rw [e,hn] at hb;cases hb);refine ⟨o2,e3,?_⟩;rcases e2 with rfl | e2
  ·exact e4
  ·rcases e4 with rfl | e4
   ·exact .inr e2
   ·exact .inr ⟨e2.1,e4.2⟩
end
end Go.Ns
namespace Go.Ns
open Go.Conc
abbrev FG:=Nat->Nat->Int
def KP(m:FG):Array Value:=#[.int .i64 (m 0 0),.int .i64 (m 0 1),.int .i64 (m 0 2),.int .i64 (m 0 3),.int .i64 (m 1 0),.int .i64 (m 1 1),.int .i64 (m 1 2),.int .i64 (m 1 3),
 .int .i64 (m 2 0),.int .i64 (m 2 1),.int .i64 (m 2 2),.int .i64 (m 2 3),.int .i64 (m 3 0),.int .i64 (m 3 1),.int .i64 (m 3 2),.int .i64 (m 3 3)]
def FG.zero:FG:=λ_ _=>0
def FG.set(m:FG)(i k:Nat)(v:Int):FG:=λa b=>if a=i/\b=k then v else m a b
theorem Ji{m:FG}{i k:Nat}(hi:i<4)(hk:k<4):(KP m)[0+i*4+k*1]? =some (.int .i64 (m i k)):=by
 match i,hi with
 | 0,_=>match k,hk with
  | 0,_=>rfl
  | 1,_=>rfl
  | 2,_=>rfl
  | 3,_=>rfl
 | 1,_=>match k,hk with
  | 0,_=>rfl
  | 1,_=>rfl
  | 2,_=>rfl
  | 3,_=>rfl
 | 2,_=>match k,hk with
  | 0,_=>rfl
  | 1,_=>rfl
  | 2,_=>rfl
  | 3,_=>rfl
 | 3,_=>match k,hk with
  | 0,_=>rfl
  | 1,_=>rfl
  | 2,_=>rfl
  | 3,_=>rfl
theorem LY{m:FG}{i k:Nat}{v:Int}(hi:i<4)(hk:k<4):B0 (KP m) (0+i*4+k*1) [.int .i64 v]=KP (m.set i k v):=by
 match i,hi with
 | 0,_=>match k,hk with
  | 0,_=>rfl
  | 1,_=>rfl
  | 2,_=>rfl
  | 3,_=>rfl
 | 1,_=>match k,hk with
  | 0,_=>rfl
  | 1,_=>rfl
  | 2,_=>rfl
  | 3,_=>rfl
 | 2,_=>match k,hk with
  | 0,_=>rfl
  | 1,_=>rfl
  | 2,_=>rfl
  | 3,_=>rfl
 | 3,_=>match k,hk with
  | 0,_=>rfl
  | 1,_=>rfl
  | 2,_=>rfl
  | 3,_=>rfl
def O4(i:Nat)(m:FG)(k:Nat):FG:=if¬(i:Int)=(k:Int) then m.set i k 1048576 else m
def JR(i:Nat)(m:FG)(n:Nat):FG:=(List.range n).foldl (O4 i) m
def KQ(n:Nat):FG:=(List.range n).foldl (λm i=>JR i m 4) FG.zero
def Vs(p:AI)(ws:List AH)(m:FG)(k:Nat):FG:=(m.set (ws.getD k AH.z).a.toNat (ws.getD k AH.z).b.toNat (p.ways k)).set (ws.getD k AH.z).b.toNat (ws.getD k AH.z).a.toNat (p.ways k)
def BW(p:AI)(ws:List AH)(n:Nat):FG:=(List.range n).foldl (Vs p ws) (KQ 4)
def Xs(by_ i:Nat)(m:FG)(k:Nat):FG:=m.set i k (min (m i k) (m i by_+m by_ k))
def IQ(by_ i:Nat)(m:FG)(n:Nat):FG:=(List.range n).foldl (Xs by_ i) m
def UF(by_ np:Nat)(m:FG)(i:Nat):FG:=if m i by_=1048576 then m else IQ by_ i m np
def Fu(by_ np:Nat)(m:FG)(n:Nat):FG:=(List.range n).foldl (UF by_ np) m
def DV(np:Nat)(m:FG)(n:Nat):FG:=(List.range n).foldl (λm b=>Fu b np m np) m
def BB(np:Nat)(ws:List AH)(p:AI):FG:=DV np (BW p ws ws.length) np
theorem BS{β:Type}(f:β->Nat->β)(b:β)(n:Nat):(List.range (n+1)).foldl f b=f ((List.range n).foldl f b) n:=by rw [List.range_succ,List.foldl_append];rfl
def FG.ok(m:FG):Prop:=∀i k,0<=m i k/\m i k<=1048576
theorem FG.ok_set{m:FG}(h:m.ok){i k:Nat}{v:Int}(hv:0<=v/\v<=1048576):(m.set i k v).ok:=λa b=>by
 unfold FG.set;split
 ·exact hv
 ·exact h a b
theorem FG.ok_zero:FG.zero.ok:=λ_ _=>⟨Int.le_refl 0,(aC:(0:Int)<=1048576)⟩
theorem Hx{β:Type}{Q:β->Prop}{f:β->Nat->β}(hf:∀b k,Q b->Q (f b k)):∀{l:List Nat}{b:β},Q b->Q (l.foldl f b)
 | [],_,h=>h
 | x ::l,b,h=>Hx hf (l:=l) (hf b x h)
theorem Yl{i:Nat}{m:FG}{k:Nat}(h:m.ok):(O4 i m k).ok:=by
 unfold O4;split
 ·exact FG.ok_set h aC
 ·exact h
theorem far0K_ok{i:Nat}{m:FG}{n:Nat}(h:m.ok):(JR i m n).ok:=Hx (λ_ _=>Yl) h
theorem far0_ok{n:Nat}:(KQ n).ok:=Hx (λ_ _ h=>far0K_ok h) FG.ok_zero
theorem Ym{p:AI}{ws:List AH}{m:FG}{k:Nat}(hp:CK p)(h:m.ok):(Vs p ws m k).ok:=by
 have:=hp.ways k
 exact FG.ok_set (FG.ok_set h aA) aA
theorem O5{p:AI}{ws:List AH}{n:Nat}(hp:CK p):(BW p ws n).ok:=Hx (λ_ _ h=>Ym hp h) far0_ok
theorem Vt{b i:Nat}{m:FG}{k:Nat}(h:m.ok):(Xs b i m k).ok:=by
 have h1:=h i k;have h2:=h i b;have h3:=h b k;exact FG.ok_set h aA
theorem Xu{b i:Nat}{m:FG}{n:Nat}(h:m.ok):(IQ b i m n).ok:=Hx (λ_ _ h=>Vt h) h
theorem farI1_ok{b np:Nat}{m:FG}{i:Nat}(h:m.ok):(UF b np m i).ok:=by
 unfold UF;split
 ·exact h
 ·exact Xu h
theorem Xv{b np:Nat}{m:FG}{n:Nat}(h:m.ok):(Fu b np m n).ok:=Hx (λ_ _ h=>farI1_ok h) h
theorem UG{np:Nat}{m:FG}{n:Nat}(h:m.ok):(DV np m n).ok:=Hx (λ_ _ h=>Xv h) h
theorem CH{c c':Array Value}(h:c.size=c'.size):B0 c 0 c'.toList=c':=by
 apply Array.toList_inj.1;rw [EP _ _ _ (by simp [h])];simp [h]
theorem IR{b:Bool}(h:(!b)=true):b=false:=by cases b <;> simp_all
theorem IS{b:Bool}(h:(!b)=false):b=true:=by cases b <;> simp_all
abbrev E6:=(Int×Int×Int×Int×Int)×Int×Int
def El(a:E6):Value:=.agg #[.int .i64 a.1.1,.int .i64 a.1.2.1,.int .i64 a.1.2.2.1,.int .i64 a.1.2.2.2.1,.int .i64 a.1.2.2.2.2,.int .i64 a.2.1,.int .i64 a.2.2]
def UH:E6->Option Int:=λ_=>none
def AI.w5(p:AI):Int×Int×Int×Int×Int:=(p.ways 0,p.ways 1,p.ways 2,p.ways 3,p.ways 4)
theorem E6.eq_iff(a b:E6):((a.1.1==b.1.1 && (a.1.2.1==b.1.2.1 && (a.1.2.2.1==b.1.2.2.1 && (a.1.2.2.2.1==b.1.2.2.2.1 && (a.1.2.2.2.2==b.1.2.2.2.2 && true))))) && (a.2.1==b.2.1 && (a.2.2==b.2.2 && true)))=decide (a=b):=by
 obtain ⟨⟨a1,a2,a3,a4,a5⟩,a6,a7⟩:=a;obtain ⟨⟨b1,b2,b3,b4,b5⟩,b6,b7⟩:=b;rw [Bool.eq_iff_iff];simp [and_assoc]
theorem QG(a:E6):Instr.sameBits 10000 (El a) (El a)=true:=by
 have hi:∀(n:Nat)(x:Int),Instr.sameBits n (.int .i64 x) (.int .i64 x)=true:=λn x=>by
  cases n <;> (unfold Instr.sameBits;simp)
 unfold El;show Instr.sameBits (9999+1) _ _=true;unfold Instr.sameBits;simp only [List.zip_cons_cons,List.zip_nil_left,List.all_cons,List.all_nil,hi];simp
def Vu(m:FG)(w:Int×Int×Int×Int×Int)(i:Nat)(M:E6->Option Int)(k:Nat):E6->Option Int:=λb=>if b=(w,(i:Int),(k:Int)) then some (m i k) else M b
def F6(m:FG)(w:Int×Int×Int×Int×Int)(i:Nat)(M:E6->Option Int)(n:Nat):E6->Option Int:=(List.range n).foldl (Vu m w i) M
def CQ(m:FG)(w:Int×Int×Int×Int×Int)(np:Nat)(M:E6->Option Int)(n:Nat):E6->Option Int:=(List.range n).foldl (λM i=>F6 m w i M np) M
theorem NK{m:FG}{w:Int×Int×Int×Int×Int}{i k:Nat}{M:E6->Option Int}:∀{n:Nat},k<n->F6 m w i M n (w,(i:Int),(k:Int))=some (m i k)
 | 0,h=>absurd h (Nat.not_lt_zero _)
 | n+1,h=>by
  unfold F6;rw [BS];unfold Vu;by_cases e:k=n
  ·subst e;rw [if_pos rfl]
  ·rw [if_neg (λq=>e (by have h2:(k:Int)=(n:Int):=congrArg (λz:E6=>z.2.2) q;omega))];exact NK (n:=n) aA
theorem I0{m:FG}{w:Int×Int×Int×Int×Int}{i:Nat}{M:E6->Option Int}{b:E6}(hb:b.1≠w\/b.2.1≠(i:Int)):∀{n:Nat},F6 m w i M n b=M b
 | 0=>rfl
 | n+1=>by
  unfold F6;rw [BS];unfold Vu;rw [if_neg (λq=>by subst q;rcases hb with h | h <;> exact h rfl)];exact I0 hb (n:=n)
theorem NL{m:FG}{w:Int×Int×Int×Int×Int}{np i k:Nat}{M:E6->Option Int}(hk:k<np):∀{n:Nat},i<n->CQ m w np M n (w,(i:Int),(k:Int))=some (m i k)
 | 0,h=>absurd h (Nat.not_lt_zero _)
 | n+1,h=>by
  unfold CQ;rw [BS];by_cases e:i=n
  ·subst e;exact NK hk
  ·rw [I0 (.inr (by show (i:Int)≠(n:Int);omega))];exact NL hk (n:=n) aA
theorem LZ{m:FG}{w:Int×Int×Int×Int×Int}{np:Nat}{M:E6->Option Int}{b:E6}(hb:b.1≠w):∀{n:Nat},CQ m w np M n b=M b
 | 0=>rfl
 | n+1=>by
  unfold CQ;rw [BS,I0 (.inl hb)];exact LZ hb (n:=n)
theorem w5_at{p q:AI}(e:q.w5=p.w5){k:Nat}(h:k<5):q.ways k=p.ways k:=by
 simp only [AI.w5,Prod.mk.injEq] at e;obtain ⟨e0,e1,e2,e3,e4⟩:=e
 match k,h with
 | 0,_=>exact e0
 | 1,_=>exact e1
 | 2,_=>exact e2
 | 3,_=>exact e3
 | 4,_=>exact e4
theorem O6{p q:AI}{ws:List AH}(e:q.w5=p.w5):∀{n:Nat},n<=5->BW q ws n=BW p ws n
 | 0,_=>rfl
 | n+1,h=>by
  have h1:=O6 (ws:=ws) e (n:=n) aA;unfold BW at h1 ⊢;rw [BS,BS,h1];unfold Vs;rw [w5_at e aA]
theorem RO{p q:AI}{ws:List AH}{np:Nat}(hw:ws.length<=5)(e:q.w5=p.w5):BB np ws q=BB np ws p:=by
 unfold BB;rw [O6 e hw]
def GF(np:Nat)(ws:List AH)(l:List AI)(M:E6->Option Int):Prop:=∀q ∈ l,∀i k:Nat,i<np->k<np->M (q.w5,(i:Int),(k:Int))=some (BB np ws q i k)
theorem GF.call{np:Nat}{ws:List AH}{pq:List AI}{k:Nat}{M:E6->Option Int}(h:GF np ws (pq.take k) M)(hk:k<pq.length)(hw:ws.length<=5) :
  GF np ws (pq.take (k+1)) (CQ (BB np ws (pq.getD k AI.zero)) (pq.getD k AI.zero).w5 np M np):=by
 intro q hq i j hi hj;by_cases e:q.w5=(pq.getD k AI.zero).w5
 ·rw [e,NL hj hi,RO hw e]
 ·rw [LZ e];rw [Dt AI.zero hk] at hq;rcases List.mem_append.1 hq with h1 | h1
  ·exact h q h1 i j hi hj
  ·rw [List.mem_singleton.1 h1] at e;exact absurd rfl e
theorem GF.skip{np:Nat}{ws:List AH}{pq:List AI}{k:Nat}{M:E6->Option Int}(h:GF np ws (pq.take k) M)(hk:k<pq.length)(hw:ws.length<=5)(h0:¬(k:Int)=0)(e:(pq.getD k AI.zero).w5=(pq.getD (k-1) AI.zero).w5) :
  GF np ws (pq.take (k+1)) M:=by
 intro q hq i j hi hj;rw [Dt AI.zero hk] at hq;rcases List.mem_append.1 hq with h1 | h1
 ·exact h q h1 i j hi hj
 ·rw [List.mem_singleton.1 h1,e,RO hw e];refine h _ ?_ i j hi hj;rw [DS AI.zero aA];exact List.mem_take_iff_getElem.2 ⟨k-1,aA,rfl⟩
def EE(h:GH)(r np:Nat)(ws:List AH)(pq:List AI):Prop:=∃pm M,MapAt h r pm El Do M/\GF np ws pq M
theorem EE.le{h h':GH}{r np:Nat}{ws:List AH}{pq:List AI}(x:EE h r np ws pq)(l:h.Le h'):EE h' r np ws pq:=by
 obtain ⟨pm,M,⟨es,clk,hb,hl⟩,hM⟩:=x;exact ⟨pm,M,⟨es,clk,l.keep hb rfl,hl⟩,hM⟩
structure DZ(hB:GH)(r:Nat)(M:E6->Option Int)(h hc:GH):Prop where
 ok:Cp hc r El Do M
 keep:Bb (λb=>b=r) h hc
 base:hB.Le hc
def FRes(hB:GH)(r:Nat)(M:E6->Option Int)(h h':GH):Prop:=Cp h' r El Do M/\Bb (λb=>b=r) h h'/\hB.Le h'
section
variable {hB h hc h':GH} {r:Nat} {M M':E6->Option Int}
theorem Cp.some(x:Cp h r El Do M):∃o,h r=some (true,o)/\JU o=false:=by obtain ⟨es,clk,hb,_⟩:=x;exact ⟨_,hb,rfl⟩
theorem DZ.start(x:Cp h r El Do M)(l:hB.Le h):DZ hB r M h h:=⟨x,Bb.refl _ _,l⟩
theorem DZ.le(y:DZ hB r M h hc)(l:hc.Le h'):DZ hB r M h h':=by
 obtain ⟨o,ho,_⟩:=y.ok.some;exact ⟨y.ok.le_other ((l.keep ho rfl).trans ho.symm),y.keep.trans (λ_ q=>.inl q) (l.keepX _),y.base.trans l⟩
theorem DZ.store(y:DZ hB r M h hc){q:Nat}(hq:h q=none)(qB:hB q=none)(hn:q≠r)(ho:∀b,b≠q->h' b=hc b):DZ hB r M h h':=
 ⟨y.ok.le_other (ho r (Ne.symm hn)),y.keep.store hq ho,y.base.upd qB ho⟩
theorem DZ.put(y:DZ hB r M h hc)(rB:hB r=none)(x:Cp h' r El Do M')(ho:∀b,b≠r->h' b=hc b):DZ hB r M' h h':=⟨x,y.keep.store' (.inl rfl) ho,y.base.upd rB ho⟩
theorem DZ.call(y:DZ hB r M h hc)(m:FRes hB r M' hc h'):DZ hB r M' h h':=⟨m.1,y.keep.trans (λ_ q=>.inl q) m.2.1,m.2.2⟩
theorem DZ.ne(y:DZ hB r M h hc){q:Nat}(hq:hc q=none):q≠r:=λe=>by
 obtain ⟨o,ho,_⟩:=y.ok.some;rw [e,ho] at hq;cases hq
theorem DZ.nothing(y:DZ hB r M h hc){q:Nat}(hq:hc q=none):h q=none:=by
 cases hx:h q with
 | none=>rfl
 | some x=>
  obtain ⟨o',h1,_⟩:=y.keep q x.1 x.2 hx (y.ne hq);rw [h1] at hq;cases hq
theorem NM(x:h r=some (true,.map #[] 0)):Cp h r El Do UH:=Cp.empty x
theorem Cp.slDel{V:Type}(x:Cp h r El Do M){v:Value}{n:Nat}{enc:V->Array Value}{xs:List V}(y:AD h v n enc xs):AD (h.del r) v n enc xs:=by
 obtain ⟨es,clk,hb,_⟩:=x;exact AD.slDel y hb
theorem Cp.leF(x:Cp h r El Do M)(l:h.Le h'):Cp h' r El Do M:=by
 obtain ⟨o,ho,e⟩:=x.some;exact x.le_other ((l.keep ho e).trans ho.symm)
theorem DZ.res(y:DZ hB r M h hc):FRes hB r M h hc:=⟨y.ok,y.keep,y.base⟩
end
theorem NN{bag kinds:Int}{ps:List ByteArray}{ws:List AH}{js:List AQ}{ns:List AM}(b:Bt bag kinds ps ws js ns){ag:AI->Bool}:∀{f i:Nat}{p:AI},i+f=ws.length+js.length->CK p->∀q ∈ Cr ag ws js f i p,CK q
 | 0,_,p,_,hp,q,hq=>by rw [List.mem_singleton.1 hq];exact hp
 | f+1,i,p,h,hp,q,hq=>by
  rw [Gh] at hq;obtain ⟨n,hn,hq⟩:=List.mem_flatMap.1 hq;have h1:=b.few (i:=i) aA;have h2:=YO.1 hn;unfold CR at hq;split at hq
  ·cases hq
  ·exact NN b (f:=f) aA (hp.put aA) q hq
section
variable {bag kinds:Int} {ps:List ByteArray} {ws:List AH} {js:List AQ} {ns:List AM}
theorem Gt(b:Bt bag kinds ps ws js ns):∀q ∈ AA ws js ns,CK q:=by
 intro q hq;unfold AA at hq;split at hq
 ·exact NN b aA CK.zero q hq
 ·cases hq
theorem O7(b:Bt bag kinds ps ws js ns)(k:Nat):CK ((AA ws js ns).getD k AI.zero):=by
 rcases Nat.lt_or_ge k (AA ws js ns).length with h | h
 ·exact Gt b _ (Bl h)
 ·rw [CP h];exact CK.zero
def AE(bag kinds:Int)(ps:List ByteArray)(ws:List AH)(js:List AQ)(ns:List AM)(s:Int):Int:=
 if¬Bc bag kinds ps ws js ns=0 then Bc bag kinds ps ws js ns else if¬s=0 then s else if (AA ws js ns).length=0 then 9 else 0
variable {s:Int}
theorem Xw(h:¬Bc bag kinds ps ws js ns=0):AE bag kinds ps ws js ns s=Bc bag kinds ps ws js ns:=if_pos h
theorem Xx(h:¬¬Bc bag kinds ps ws js ns=0)(h2:¬s=0):AE bag kinds ps ws js ns s=s:=by unfold AE;rw [if_neg h,if_pos h2]
theorem Xy(h:¬¬Bc bag kinds ps ws js ns=0)(h2:¬¬s=0)(h3:(AA ws js ns).length=0):AE bag kinds ps ws js ns s=9:=by unfold AE;rw [if_neg h,if_neg h2,if_pos h3]
theorem openB_4(h:¬¬Bc bag kinds ps ws js ns=0)(h2:¬¬s=0)(h3:¬(AA ws js ns).length=0):AE bag kinds ps ws js ns s=0:=by unfold AE;rw [if_neg h,if_neg h2,if_neg h3]
theorem Em(h:AE bag kinds ps ws js ns s=0):Bt bag kinds ps ws js ns/\s=0/\0<(AA ws js ns).length:=by
 unfold AE at h;split at h
 ·rename_i a;exact absurd h a
 ·split at h
  ·rename_i a b;exact absurd h b
  ·split at h
   ·cases h
   ·rename_i a b c
    exact ⟨Cx (Decidable.not_not.1 a),Decidable.not_not.1 b,aA⟩
theorem w5_eq{p q:AI}(h:(!((p.ways 0==q.ways 0 && (p.ways 1==q.ways 1 && (p.ways 2==q.ways 2 && (p.ways 3==q.ways 3 && (p.ways 4==q.ways 4 && true)))))))=false):p.w5=q.w5:=by
 simp only [Bool.not_eq_false',Bool.and_eq_true,beq_iff_eq,and_true] at h;obtain ⟨e0,e1,e2,e3,e4⟩:=h;simp only [AI.w5,e0,e1,e2,e3,e4]
theorem GF.is{h:GH}{r np:Nat}{ws:List AH}{pq:List AI}{M:E6->Option Int}{k:Nat}(x:Cp h r El Do M)(hM:GF np ws (pq.take k) M)(hk:pq.length<=k):EE h r np ws pq:=by
 rw [List.take_of_length_le hk] at hM;exact ⟨true,M,x,hM⟩
theorem RP{a b c d e f w:Value}{r:Nat}(h:w.cells=#[w]):Instr.fill (λx=>#[(0,6),(6,1),(7,1)][x]?) #[.int .i64 0,.int .i64 0,.slice none 0 0,.slice none 0 0,.slice none 0 0,.slice none 0 0,.slice none 0 0,.map none] [(0,.agg #[a,b,c,d,e,f]),(1,w),(2,.map (some r))]=some #[a,b,c,d,e,f,w,.map (some r)]:=by
 have e1:∀cs,(Value.agg cs).cells=cs:=λ_=>rfl;have e2:∀q,(Value.map q).cells=#[.map q]:=λ_=>rfl;simp [Instr.fill,h,e1,e2]
end
end Go.Ns
namespace Go.Ns
open Go.Conc
section
variable {P:Program} {E:GG P} {O:Nat->Value} {ds:List Deferred} {h:GH} {T:(Nat->Value)->List Deferred->GH->Prop}
variable {dst:Option Nat} {ty:TypeId} {pos:String} {af:Array Edge} {gd:Option (Nat×Bool)}
def La(P:Program)(e:TypeId):Option Nat:=(P.info? e).map (·.bytes)
theorem S8(z:Value)(n:Nat):(Array.range n).map (λi=>(#[z]:Array Value)[i%(#[z]:Array Value).size]!)=Array.replicate n z:=by
 apply Array.ext
 ·simp
 ·intro i h1 h2;simp [Nat.mod_one]
theorem Lb{t:TypeId}{l c:Operand}{N by_:Nat}{z:Value}{e:TypeId}(hs:DR P t=some (1,#[z],e))(hby:La P e=some by_)(hl:AR O l=.int .i64 N)(hc:AR O c=.int .i64 N)(hb:by_*N<=281474976710656)(hN2:N<=16777216)
  (k:∀r h',h r=none->h.Le h'->h' r=some (true,.cells (Array.replicate N z) e (0,0))->(∀b,b≠r->h' b=h b)->T (putS O dst (.slice (some ⟨r,0,none⟩) N N)) ds h'):BV E ⟨dst,.makeSlice t l c,ty,pos,af,gd⟩ O ds h T:=by
 unfold BV execOp;refine Ft ?_;unfold DR at hs;unfold Instr.makeSlice;rw [hl,hc];cases hu:P.underlying t with
 | none=>rw [hu] at hs;cases hs
 | some d=>
  rw [hu] at hs;cases d <;> first | (cases hs;done) | skip
  rename_i e'
  simp only at hs;cases ht:Cd P e' with
  | none=>rw [ht] at hs;cases hs
  | some x=>
   cases hz:Bz P e' with
   | none=>rw [ht,hz] at hs;cases hs
   | some z'=>
    rw [ht,hz] at hs;simp only [Option.some.injEq,Prod.mk.injEq] at hs;obtain ⟨hx2,rfl,rfl⟩:=hs;refine AG _ _ (Aq hu ?_);refine AG _ _ (A1 ?_);refine AG _ _ (A1 ?_);unfold La at hby;unfold Bz at hz;cases hi:P.info? e' with
    | none=>rw [hi] at hz;cases hz
    | some i=>
    rw [hi] at hz hby;simp only [Option.map_some,Option.some.injEq] at hby;simp only [Option.map_eq_some_iff] at hz;obtain ⟨v,hv,hvz⟩:=hz;refine AG _ _ (Cm hi ?_);have hw:IntKind.i64.wrap (N:Int)=N:=IntWalk.i64_in _ aA;simp only [hw,hby];have hb':((by_:Int)*(N:Int))<=281474976710656:=by rw [<-Int.natCast_mul];exact Int.ofNat_le.2 hb
    rw [if_neg (by simp;omega)];simp only [Int.toNat_natCast];have hask:∀(m:Nat)(Q:Unit->GH->Prop),Q () h->(askRoom m).gh P h Q:=λm Q q=>by
     unfold askRoom;split
     ·exact ⟨rfl,q⟩
     ·exact q
    refine AG _ _ (hask _ _ ?_);refine AG _ _ (GK (by rw [ht];rfl) ?_);dsimp only;rw [hx2,Nat.mul_one];by_cases hN:N=0
    ·subst hN;rw [if_pos rfl];refine AG _ _ (A1 ?_);rw [show (Array.range 0).map (λi=>(#[]:Array Value)[i%(#[]:Array Value).size]!)=Array.replicate 0 z from aD];refine AG _ _ ?_;unfold newRow;refine AG _ _ (λr hr=>?_);exact k r _ hr (GH.Le.new hr _ _) (GH.set_same _ _ _ _) λb hb=>GH.set_ne _ _ _ hb
    rw [if_neg hN];unfold zeroValue;refine AG _ _ (AG _ _ (AG _ _ (Cm hi ?_)));rw [hv];refine A1 ?_;refine AG _ _ (A1 ?_);rw [hvz,S8];refine AG _ _ ?_;unfold newRow;refine AG _ _ (λr hr=>?_);exact k r _ hr (GH.Le.new hr _ _) (GH.set_same _ _ _ _) λb hb=>GH.set_ne _ _ _ hb
theorem Jj{V:Type}{enc:V->Array Value}{x:V}{z:Value}(he:enc x=#[z]):∀N:Nat,Db enc (List.replicate N x)=List.replicate N z
 | 0=>rfl
 | N+1=>by
  have:=Jj he N
  unfold Db at this ⊢;rw [List.replicate_succ,List.flatMap_cons,this,he];rfl
theorem AU.made{V:Type}{h h':GH}{r N:Nat}{t:TypeId}{enc:V->Array Value}{x:V}{z:Value}(hr:h r=none)(hb:h' r=some (true,.cells (Array.replicate N z) t (0,0)))(hN:N<=16777216)(he:enc x=#[z]) :
  AU h h' (.slice (some ⟨r,0,none⟩) N N) t 1 enc (List.replicate N x):=
 .inr ⟨r,N,_,by rw [List.length_replicate],hr,hb,aD,aD,by rw [List.length_replicate];omega,by rw [Jj he,List.length_replicate,Nat.mul_one];simp,λy hy=>by rw [(List.mem_replicate.1 hy).2,he];rfl⟩
end
def D9(nj:Nat)(k:Int):Int:=if¬(0<=k/\k<=(nj:Int)-1) then 6 else 0
def EA(nj:Nat)(l:List Int)(k:Nat):Int:=if¬D9 nj (l.getD k 0)=0 then D9 nj (l.getD k 0) else if (l.take k).any (λx=>decide (l.getD k 0=x))=true then 5 else 0
def Ah(nj:Nat)(l:List Int):Int:=Cy (EA nj l) 0 l.length
def F7(bag kinds:Int)(ps:List ByteArray)(ws:List AH)(js:List AQ)(ns:List AM)(l:List Int):Int:=
 if¬Bc bag kinds ps ws js ns=0 then Bc bag kinds ps ws js ns else Ah js.length l
theorem NO{nj:Nat}{k:Int}(h:D9 nj k=0):0<=k/\k<nj:=by
 unfold D9 at h;split at h
 ·cases h
 ·omega
theorem E7{nj:Nat}{l:List Int}(h:Ah nj l=0)(k:Nat)(hk:k<l.length):0<=l.getD k 0/\l.getD k 0<nj:=by
 have h1:=DO h k (Nat.zero_le _) aA;unfold EA at h1;split at h1
 ·rename_i a;exact absurd h1 a
 ·rename_i a;exact NO (Decidable.not_not.1 a)
def GT(out ps:List Int):Nat->List Int
 | 0=>out
 | i+1=>(GT out ps i).set i ((GT out ps i).getD i 0+ps.getD i 0)
def Cl(kinds:Int)(js:List AQ)(l:List Int):Nat->List Int
 | 0=>List.replicate kinds.toNat 0
 | q+1=>GT (Cl kinds js l q) (js.getD (l.getD q 0).toNat AQ.z).parts (js.getD (l.getD q 0).toNat AQ.z).parts.length
def DF(kinds:Int)(js:List AQ)(l:List Int):List Int:=Cl kinds js l l.length
theorem Lc(out ps:List Int):∀i,(GT out ps i).length=out.length
 | 0=>rfl
 | i+1=>by rw [GT,List.length_set,Lc out ps i]
theorem O8(out ps:List Int)(hl:ps.length=out.length):∀i,i<=ps.length->∀j,(GT out ps i).getD j 0=if j<i then out.getD j 0+ps.getD j 0 else out.getD j 0
 | 0,_,j=>by rw [if_neg aA];rfl
 | i+1,h,j=>by
  have e:=O8 out ps hl i aA;have hn:=Lc out ps i;unfold GT;rw [List.getD_eq_getElem?_getD,List.getElem?_set];by_cases hij:i=j
  ·subst hij;rw [if_pos rfl,if_pos aA,if_pos aA,Option.getD_some,e i,if_neg aA]
  ·rw [if_neg hij,<-List.getD_eq_getElem?_getD,e j];by_cases h1:j<i
   ·rw [if_pos h1,if_pos aA]
   ·rw [if_neg h1,if_neg aA]
section
variable {bag kinds:Int} {ps:List ByteArray} {ws:List AH} {js:List AQ} {ns:List AM} {l:List Int}
theorem O9(b:Bt bag kinds ps ws js ns){k:Int}(h:0<=k/\k<js.length):JobOK ps.length kinds (js.getD k.toNat AQ.z):=Oz (b.job k.toNat aA)
theorem I2(b:Bt bag kinds ps ws js ns):∀q,(Cl kinds js l q).length=kinds.toNat
 | 0=>List.length_replicate
 | q+1=>by rw [Cl,Lc,I2 b q]
theorem Kr(b:Bt bag kinds ps ws js ns)(hr:∀k,k<l.length->0<=l.getD k 0/\l.getD k 0<js.length):∀q,q<=l.length->∀j,0<=(Cl kinds js l q).getD j 0/\(Cl kinds js l q).getD j 0<=5*(q:Int)
 | 0,_,j=>by
  unfold Cl;rw [List.getD_eq_getElem?_getD,List.getElem?_replicate];split <;> simp
 | q+1,h,j=>by
  have e:=Kr b hr q aA j;have x:=O9 b (hr q aA);have x2:=x.part j;have x3:=x.len;unfold Cl;rw [O8 _ _ (by rw [I2 b q];omega) _ (Nat.le_refl _)];split <;> omega
theorem addP_rng(b:Bt bag kinds ps ws js ns)(hr:∀k,k<l.length->0<=l.getD k 0/\l.getD k 0<js.length){q:Nat}(hq:q<l.length){i:Nat}(hi:i<(js.getD (l.getD q 0).toNat AQ.z).parts.length) :
  (GT (Cl kinds js l q) (js.getD (l.getD q 0).toNat AQ.z).parts i).length=(js.getD (l.getD q 0).toNat AQ.z).parts.length/\0<=(GT (Cl kinds js l q) (js.getD (l.getD q 0).toNat AQ.z).parts i).getD i 0/\(GT (Cl kinds js l q) (js.getD (l.getD q 0).toNat AQ.z).parts i).getD i 0<=5*(q:Int)/\
  0<=(js.getD (l.getD q 0).toNat AQ.z).parts.getD i 0/\(js.getD (l.getD q 0).toNat AQ.z).parts.getD i 0<=5:=by
 have x:=O9 b (hr q hq);have e:=Kr b hr q aA i;have x3:=x.len;have hl:=I2 (l:=l) b q;refine ⟨by rw [Lc,hl];omega,?_⟩;rw [O8 _ _ (by rw [hl];omega) i aA,if_neg aA];exact ⟨e.1,e.2,x.part i⟩
theorem Vv(b:Bt bag kinds ps ws js ns):(DF kinds js l).length=kinds.toNat:=I2 b _
theorem Vw(b:Bt bag kinds ps ws js ns)(hr:∀k,k<l.length->0<=l.getD k 0/\l.getD k 0<js.length)(j:Nat):0<=(DF kinds js l).getD j 0/\(DF kinds js l).getD j 0<=5*(l.length:Int):=Kr b hr _ (Nat.le_refl _) j
theorem sum_take(xs:List Int){k:Nat}(h:k<xs.length):(xs.take (k+1)).sum=(xs.take k).sum+xs.getD k 0:=by
 rw [List.take_add_one,List.sum_append,List.getD_eq_getElem?_getD,List.getElem?_eq_getElem h];simp
theorem sum_all(xs:List Int){k:Nat}(h:xs.length<=k):(xs.take k).sum=xs.sum:=by rw [List.take_of_length_le h]
theorem UI(h:F7 bag kinds ps ws js ns l=0):Bt bag kinds ps ws js ns/\∀k,k<l.length->0<=l.getD k 0/\l.getD k 0<js.length:=by
 unfold F7 at h;split at h
 ·rename_i a;exact absurd h a
 ·rename_i a;exact ⟨Cx (Decidable.not_not.1 a),E7 h⟩
def RQ(bag kinds:Int)(ps:List ByteArray)(ws:List AH)(js:List AQ)(ns:List AM)(l:List Int):List Int:=if¬F7 bag kinds ps ws js ns l=0 then [] else DF kinds js l
def Xz(bag kinds:Int)(ps:List ByteArray)(ws:List AH)(js:List AQ)(ns:List AM)(l:List Int):Bool:=if¬F7 bag kinds ps ws js ns l=0 then false else decide ((DF kinds js l).sum<=bag)
end
end Go.Ns
namespace Go.Ns
open Go.Conc
section
variable {P:Program} {E:GG P} {O:Nat->Value} {ds:List Deferred} {h:GH} {T:(Nat->Value)->List Deferred->GH->Prop}
variable {dst:Option Nat} {ty:TypeId} {pos:String} {af:Array Edge} {gd:Option (Nat×Bool)}
theorem Ks{t kt vt:TypeId}{x ix:Operand}{r np:Nat}{ws:List AH}{pq:List AI}{q:AI}{a b:Int}{z:Value}(ht:LM P t=some (kt,vt))(hx:AR O x=.map (some r))(hk:AR O ix=El (q.w5,a,b))(hm:EE h r np ws pq)
  (hc:∀a:E6,ckP P 4 kt (El a)=true)
  (he:∀a b:E6,OP P 4 kt (El a) (El b)=some ((a.1.1==b.1.1 && (a.1.2.1==b.1.2.1 && (a.1.2.2.1==b.1.2.2.1 && (a.1.2.2.2.1==b.1.2.2.2.1 && (a.1.2.2.2.2==b.1.2.2.2.2 && true))))) && (a.2.1==b.2.1 && (a.2.2==b.2.2 && true))))
  (hz:(P.info? vt).bind (·.zero)=some z) (hq:q ∈ pq) (ha:0<=a/\a<np) (hb:0<=b/\b<np)
  (k:T (putS O dst (.int .i64 (BB np ws q a.toNat b.toNat))) ds h):BV E ⟨dst,.lookup t x ix false,ty,pos,af,gd⟩ O ds h T:=by
 obtain ⟨pm,M,hM,hF⟩:=hm;have e:=hF q hq a.toNat b.toNat aA aA;rw [Int.toNat_of_nonneg ha.1,Int.toNat_of_nonneg hb.1] at e;refine RC (d:=3) (a:=(q.w5,a,b)) ht hx hk hM rfl (hc _) (λb=>by rw [he,E6.eq_iff]) hz ?_;rw [e];exact k
theorem RR{V:Type}{t:TypeId}{x:Operand}{olo ohi:Option Operand}{n:Nat}{enc:V->Array Value}{xs:List V}{v:Value}{hk:GH}(lo hi:Nat)(ht:Ed P t=some n)(hs:AD hk v n enc xs)(hx:AR O x=v)
  (hlo:match olo with | none=>lo=0 | some o=>∃kd,AR O o=.int kd lo) (hhi:match ohi with | none=>hi=xs.length | some o=>∃kd,AR O o=.int kd hi) (h1:lo<=hi) (h2:hi<=xs.length)
  (k:∀v',AD hk v' n enc ((xs.take hi).drop lo)->T (putS O dst v') ds h):BV E ⟨dst,.slice t x olo ohi none,ty,pos,af,gd⟩ O ds h T:=by
 have hs':=hs;obtain ⟨a,cap,rfl,hc,_,_⟩:=hs';exact J5 lo hi ht hc hx hlo hhi h1 h2 (k _ (hs.part h1 h2))
end
def Yn(F:AI->Int)(l:List AI):Nat->Int
 | 0=>F (l.getD 0 AI.zero)
 | k+1=>min (Yn F l k) (F ((l.drop 1).getD k AI.zero))
def Yo(F:AI->Int)(l:List AI):Nat->Int
 | 0=>F (l.getD 0 AI.zero)
 | k+1=>max (Yo F l k) (F ((l.drop 1).getD k AI.zero))
def Bs(F:AI->Int)(l:List AI):Int:=Yn F l (l.length-1)
def Al(F:AI->Int)(l:List AI):Int:=Yo F l (l.length-1)
theorem Yp{l:List AI}{k:Nat}(h:k<l.length-1):(l.drop 1).getD k AI.zero ∈ l:=List.mem_of_mem_drop (Bl (by rw [List.length_drop];exact h))
def BX(s v:Int):Int:=if s=0 then v else 0
theorem Lf(v:Int):BX 0 v=v:=if_pos rfl
theorem NP{s v:Int}(h:¬s=0):BX s v=0:=if_neg h
end Go.Ns
namespace Go.Ns
open Go.Conc
theorem Vx:∀(n m:Nat)(f:Nat->Nat),(∀i,i<m->f i<n)->(∀i j,i<j->j<m->f i≠f j)->m<=n
 | 0,m,f,h,_=>by
  rcases Nat.eq_zero_or_pos m with e | e
  ·omega
  ·exact absurd (h 0 e) (Nat.not_lt_zero _)
 | n+1,m,f,h,d=>by
  rcases Nat.eq_zero_or_pos m with e | e
  ·omega
  ·have x:=Vx n (m-1) (λi=>if f i=n then f (m-1) else f i) (λi hi=>by
    have h1:=h i aA;have h2:=h (m-1) aA;have h3:=d i (m-1) hi aA;show (if f i=n then f (m-1) else f i)<n;split <;> omega) (λi j hij hj=>by
    have h1:=d i j hij aA;have h2:=d i (m-1) aA aA;have h3:=d j (m-1) aA aA;show (if f i=n then f (m-1) else f i)≠(if f j=n then f (m-1) else f j);split <;> split <;> omega)
   omega
theorem Hb{nj:Nat}{l:List Int}(h:Ah nj l=0):l.length<=nj:=by
 refine Vx nj l.length (λk=>(l.getD k 0).toNat) (λi hi=>?_) λi j hij hj=>?_
 ·have:=E7 h i hi
  show (l.getD i 0).toNat<nj;omega
 ·have hi:=E7 h i aA;have hj':=E7 h j hj;have h1:=DO h j (Nat.zero_le _) aA;unfold EA at h1;split at h1
  ·rename_i a;exact absurd h1 a
  ·split at h1
   ·cases h1
   ·rename_i a b
    show (l.getD i 0).toNat≠(l.getD j 0).toNat;intro e;refine b (List.any_eq_true.2 ⟨l.getD i 0,?_,decide_eq_true aA⟩);rw [List.mem_iff_getElem];refine ⟨i,by rw [List.length_take];omega,?_⟩;rw [List.getElem_take,List.getD_eq_getElem?_getD,List.getElem?_eq_getElem aA];rfl
def G9(js:List AQ)(l:List Int):Nat->Int
 | 0=>0
 | q+1=>(js.getD (l.getD q 0).toNat AQ.z).place
def CD(np:Nat)(ws:List AH)(js:List AQ)(p:AI)(l:List Int):Nat->Int
 | 0=>0
 | q+1=>CD np ws js p l q+(BB np ws p (G9 js l q).toNat (js.getD (l.getD q 0).toNat AQ.z).place.toNat+p.works (l.getD q 0).toNat)
def En(np:Nat)(ws:List AH)(js:List AQ)(p:AI)(l:List Int):Nat->List Int
 | 0=>[]
 | q+1=>En np ws js p l q++[CD np ws js p l (q+1)]
def AF(np:Nat)(ws:List AH)(js:List AQ)(p:AI)(l:List Int):Int:=CD np ws js p l l.length+BB np ws p (G9 js l l.length).toNat 0
theorem I3(np:Nat)(ws:List AH)(js:List AQ)(p:AI)(l:List Int):∀q,(En np ws js p l q).length=q
 | 0=>rfl
 | q+1=>by rw [En,List.length_append,I3 np ws js p l q];rfl
theorem PA(np:Nat)(ws:List AH)(js:List AQ)(p:AI)(l:List Int):∀q i,i<q->(En np ws js p l q).getD i 0=CD np ws js p l (i+1)
 | 0,i,h=>absurd h (Nat.not_lt_zero _)
 | q+1,i,h=>by
  have hl:=I3 np ws js p l q;rw [En,List.getD_eq_getElem?_getD];by_cases e:i<q
  ·rw [List.getElem?_append_left aA,<-List.getD_eq_getElem?_getD];exact PA np ws js p l q i e
  ·have e2:i=q:=aA
   subst e2;rw [List.getElem?_append_right aA,hl,Nat.sub_self];rfl
section
variable {bag kinds:Int} {ps:List ByteArray} {ws:List AH} {js:List AQ} {ns:List AM} {l:List Int} {p:AI}
theorem RS{np:Nat}(hp:CK p):(BB np ws p).ok:=UG (O5 hp)
theorem goAt_rng(b:Bt bag kinds ps ws js ns)(hr:∀k,k<l.length->0<=l.getD k 0/\l.getD k 0<js.length):∀q,q<=l.length->0<=G9 js l q/\G9 js l q<ps.length
 | 0,_=>by have:=b.plen;show (0:Int)<=0/\(0:Int)<_;omega
 | q+1,h=>by have:=(O9 b (hr q aA)).place;show 0<=(js.getD (l.getD q 0).toNat AQ.z).place/\(js.getD (l.getD q 0).toNat AQ.z).place<ps.length;omega
theorem RT(hp:CK p):∀q,0<=CD ps.length ws js p l q/\CD ps.length ws js p l q<=1048606*(q:Int)
 | 0=>⟨Int.le_refl 0,Int.le_refl 0⟩
 | q+1=>by
  have e:=RT hp q;have f:=RS (np:=ps.length) (ws:=ws) hp (G9 js l q).toNat (js.getD (l.getD q 0).toNat AQ.z).place.toNat;have w:=hp.works (l.getD q 0).toNat;unfold CD;omega
end
end Go.Ns
namespace Go.Ns
open Go.Conc
theorem EE.store{h h':GH}{q r np:Nat}{ws:List AH}{pq:List AI}(x:EE h r np ws pq)(ho:∀b,b≠q->h' b=h b)(n:r≠q):EE h' r np ws pq:=by
 obtain ⟨pm,M,⟨es,clk,hb,hl⟩,hM⟩:=x;exact ⟨pm,M,⟨es,clk,(ho r n).trans hb,hl⟩,hM⟩
def eSp(x:Int×Int):Array Value:=#[.int .i64 x.1,.int .i64 x.2]
section
variable (np:Nat) (ws:List AH) (js:List AQ) (pq:List AI) (l:List Int)
def endLo(i:Nat):Int:=Bs (λx=>CD np ws js x l (i+1)) pq
def endHi(i:Nat):Int:=Al (λx=>CD np ws js x l (i+1)) pq
def I4:Nat->List (Int×Int)
 | 0=>[]
 | q+1=>I4 q++[(endLo np ws js pq l q,endHi np ws js pq l q)]
theorem PB:∀q,(I4 np ws js pq l q).length=q
 | 0=>rfl
 | q+1=>by rw [I4,List.length_append,PB q];rfl
def PC(i:Nat):Bool:=decide (endHi np ws js pq l i<=(js.getD (l.getD i 0).toNat AQ.z).due)
def CL(bag kinds:Int):Bool:=decide ((DF kinds js l).sum<=bag) && (List.range l.length).all (PC np ws js pq l)
variable {np ws js pq l}
theorem Yq{q:Nat}(h:¬(js.getD (l.getD q 0).toNat AQ.z).due<Al (λx=>CD np ws js x l ((q:Int).toNat+1)) pq):PC np ws js pq l q=true:=decide_eq_true (Int.not_lt.1 h)
theorem Yr{q:Nat}(h:(js.getD (l.getD q 0).toNat AQ.z).due<Al (λx=>CD np ws js x l ((q:Int).toNat+1)) pq):PC np ws js pq l q=false:=decide_eq_false (Int.not_le.2 h)
variable {bag kinds:Int}
theorem Vy(h:¬(DF kinds js l).sum<=bag):CL np ws js pq l bag kinds=false:=by unfold CL;rw [decide_eq_false h];rfl
theorem Ys{k:Nat}(hk:k<l.length)(h:(js.getD (l.getD k 0).toNat AQ.z).due<Al (λx=>CD np ws js x l ((k:Int).toNat+1)) pq):CL np ws js pq l bag kinds=false:=by
 unfold CL;rw [Bool.and_eq_false_iff];refine .inr (Bool.eq_false_iff.2 λe=>?_)
 have:=List.all_eq_true.1 e k (List.mem_range.2 hk)
 rw [Yr h] at this;cases this
theorem safe_all{k:Nat}(h:¬¬(DF kinds js l).sum<=bag)(hs:∀j,j<k->PC np ws js pq l j=true)(hk:l.length<=k):CL np ws js pq l bag kinds=true:=by
 unfold CL;rw [decide_eq_true (Decidable.not_not.1 h),Bool.true_and];exact List.all_eq_true.2 λj hj=>hs j (by have:=List.mem_range.1 hj;omega)
end
def Cs:Nat->List Int
 | 0=>[]
 | k+1=>Cs k++[(k:Int)]
theorem DG:∀n,(Cs n).length=n
 | 0=>rfl
 | n+1=>by rw [Cs,List.length_append,DG n];rfl
def Eo(nj:Nat)(l:List Int)(i:Int):Int:=if¬Ah nj l=0 then Ah nj l else if¬(0<=i/\i<=(l.length:Int)-1) then 1 else 0
theorem UJ{nj:Nat}{l:List Int}{i:Int}(h:Eo nj l i=0):Ah nj l=0/\0<=i/\i<l.length:=by
 unfold Eo at h;split at h
 ·rename_i a;exact absurd h a
 ·rename_i a
  split at h
  ·cases h
  ·exact ⟨Decidable.not_not.1 a,aA⟩
section
variable (bag kinds:Int) (ps:List ByteArray) (ws:List AH) (js:List AQ) (ns:List AM) (l:List Int)
def RU:List (Int×Int):=if¬AE bag kinds ps ws js ns (Ah js.length l)=0 then [] else I4 ps.length ws js (AA ws js ns) l l.length
def X3:Bool:=if¬AE bag kinds ps ws js ns (Ah js.length l)=0 then false else CL ps.length ws js (AA ws js ns) l bag kinds
def Kb(i:Int):Int:=
 if¬AE bag kinds ps ws js ns (Eo js.length l i)=0 then 0 else if (js.getD (l.getD i.toNat 0).toNat AQ.z).due<endLo ps.length ws js (AA ws js ns) l i.toNat then 1
 else if endHi ps.length ws js (AA ws js ns) l i.toNat<=(js.getD (l.getD i.toNat 0).toNat AQ.z).due then 2 else 0
variable {bag kinds ps ws js ns l} {i:Int}
theorem late_yes(h0:AE bag kinds ps ws js ns (Eo js.length l i)=0)(h:(js.getD (l.getD i.toNat 0).toNat AQ.z).due<Bs (λx=>CD ps.length ws js x l (i.toNat+1)) (AA ws js ns)):(1:Int)=Kb bag kinds ps ws js ns l i:=by
 unfold Kb;rw [if_neg (λx=>x h0)];exact (if_pos h).symm
theorem late_no(h0:AE bag kinds ps ws js ns (Eo js.length l i)=0)(h:¬(js.getD (l.getD i.toNat 0).toNat AQ.z).due<Bs (λx=>CD ps.length ws js x l (i.toNat+1)) (AA ws js ns))
  (h2:Al (λx=>CD ps.length ws js x l (i.toNat+1)) (AA ws js ns)<=(js.getD (l.getD i.toNat 0).toNat AQ.z).due):(2:Int)=Kb bag kinds ps ws js ns l i:=by
 unfold Kb;rw [if_neg (λx=>x h0)];exact ((if_neg h).trans (if_pos h2)).symm
theorem Yt(h0:AE bag kinds ps ws js ns (Eo js.length l i)=0)(h:¬(js.getD (l.getD i.toNat 0).toNat AQ.z).due<Bs (λx=>CD ps.length ws js x l (i.toNat+1)) (AA ws js ns))
  (h2:¬Al (λx=>CD ps.length ws js x l (i.toNat+1)) (AA ws js ns)<=(js.getD (l.getD i.toNat 0).toNat AQ.z).due):(0:Int)=Kb bag kinds ps ws js ns l i:=by
 unfold Kb;rw [if_neg (λx=>x h0)];exact ((if_neg h).trans (if_neg h2)).symm
theorem late_bad(h0:¬AE bag kinds ps ws js ns (Eo js.length l i)=0):(0:Int)=Kb bag kinds ps ws js ns l i:=by unfold Kb;rw [if_pos h0]
end
end Go.Ns
namespace Go.Ns
open Go.Conc
def Gi(i:Nat)(pq:List AI):Nat->List Int
 | 0=>[]
 | k+1=>Gi i pq k++[(pq.getD k AI.zero).works i]
theorem Gu(i:Nat)(pq:List AI):∀k,(Gi i pq k).length=k
 | 0=>rfl
 | k+1=>by rw [Gi,List.length_append,Gu i pq k];rfl
theorem PD{i:Nat}{pq:List AI}{k:Nat}(h:0<k):Gi i pq k≠[]:=λe=>by
 have:=Gu i pq k
 rw [e] at this;simp at this;omega
def MR(bag kinds:Int)(ps:List ByteArray)(ws:List AH)(js:List AQ)(ns:List AM)(i:Int):List Int:=
 if¬AE bag kinds ps ws js ns (D9 js.length i)=0 then [] else Dl (B6 (Gi i.toNat (AA ws js ns) (AA ws js ns).length))
end Go.Ns
namespace Go.Ns
open Go.Conc
theorem UK{h:GH}{r:Nat}{M:Int->Option Int}(x:Cp h r Do Do M):∃y,h r=some y:=by
 obtain ⟨es,clk,hb,_⟩:=x;exact ⟨_,hb⟩
def Dq(ns:List AM)(mask:Int)(k:Nat):List AM:=((List.range k).filter (NC mask)).map λ(i:Nat)=>ns.getD i AM.z
section
variable {ns:List AM} {mask:Int} {k:Nat} {h:GH}
theorem pickN_t(hb:mask.fdiv (2 ^ k)%2=1):Dq ns mask (k+1)=Dq ns mask k++[ns.getD k AM.z]:=by
 unfold Dq;rw [JZ (by unfold NC;rw [decide_eq_true hb]),List.map_append];rfl
theorem pickN_f(hb:¬mask.fdiv (2 ^ k)%2=1):Dq ns mask (k+1)=Dq ns mask k:=by
 unfold Dq;rw [Ja (by unfold NC;rw [decide_eq_false hb])]
theorem RV(ns:List AM)(mask:Int)(k:Nat):(Dq ns mask k).length<=k:=by
 unfold Dq;rw [List.length_map]
 have:=List.length_filter_le (NC mask) (List.range k)
 rwa [List.length_range] at this
theorem UL(ns:List AM)(mask:Int)(k q:Nat)(hq:q<(Dq ns mask k).length):∃i,i<k/\(Dq ns mask k).getD q AM.z=ns.getD i AM.z:=by
 have hm:(Dq ns mask k).getD q AM.z ∈ Dq ns mask k:=Bl hq;unfold Dq at hm ⊢;obtain ⟨i,hi,e⟩:=List.mem_map.1 hm;exact ⟨i,List.mem_range.1 (List.mem_filter.1 hi).1,e.symm⟩
theorem AY.pick(x:AY h ns)(mask:Int)(k:Nat):AY h (Dq ns mask k):=λq=>by
 by_cases hq:q<(Dq ns mask k).length
 ·obtain ⟨i,_,e⟩:=UL ns mask k q hq;rw [e];exact x i
 ·rw [List.getD_eq_getElem?_getD,List.getElem?_eq_none aA];exact AY.nil h 0
theorem AY.fine1(x:AY h ns)(k:Nat):(Au (ns.getD k AM.z)).toList.all (·.oneCell')=true:=by
 show (((ns.getD k AM.z).wv.oneCell') && (true && (true && true)))=true;rw [(AD.one (x k)).2];rfl
theorem AY.fine(x:AY h ns):∀y ∈ ns,(Au y).toList.all (·.oneCell')=true:=λy hy=>by
 obtain ⟨i,hi,e⟩:=List.mem_iff_getElem.1 hy
 have:=x.fine1 i
 rw [List.getD_eq_getElem?_getD,List.getElem?_eq_getElem hi] at this;rw [<-e];exact this
theorem S9{nw:Nat}{ns ns':List AM}{k i:Nat}(e:ns'.getD k AM.z=ns.getD i AM.z):D3 nw ns' k=D3 nw ns i:=by unfold D3;rw [e]
theorem Bt.pick{bag kinds:Int}{ps:List ByteArray}{ws:List AH}{js:List AQ}(b:Bt bag kinds ps ws js ns)(mask:Int):Bt bag kinds ps ws js (Dq ns mask ns.length):=
 { b with
  nlen:=Nat.le_trans (RV ns mask ns.length) b.nlen
  note:=λk hk=>by
   obtain ⟨i,hi,e⟩:=UL ns mask ns.length k hk;rw [S9 e];exact b.note i hi }
end
section
variable (ws:List AH) (js:List AQ) (ns:List AM)
def Fb(x:Bool×List Int)(l:List Int):Bool:=x.1 && (decide ((x.2.length:Int)<l.length) || (decide ((l.length:Int)=x.2.length) && decide (0<Dy l x.2)))
def CB:Nat->Bool×List Int
 | 0=>(false,[])
 | q+1=>if Fb (CB q) (Dp (q:Int) ns.length)=true then CB q else if (AA ws js (Dq ns (q:Int) ns.length)).length=0 then (true,Dp (q:Int) ns.length) else CB q
variable {ws js ns} {q:Nat}
theorem H9(h:Fb (CB ws js ns q) (Dp (q:Int) ns.length)=true):CB ws js ns (q+1)=CB ws js ns q:=if_pos h
theorem NQ(h:Fb (CB ws js ns q) (Dp (q:Int) ns.length)=false)(h2:((AA ws js (Dq ns (q:Int) ns.length)).length:Int)=0):CB ws js ns (q+1)=(true,Dp (q:Int) ns.length):=by
 rw [CB,if_neg (by rw [h];simp),if_pos aA]
theorem NR(h:Fb (CB ws js ns q) (Dp (q:Int) ns.length)=false)(h2:¬((AA ws js (Dq ns (q:Int) ns.length)).length:Int)=0):CB ws js ns (q+1)=CB ws js ns q:=by
 rw [CB,if_neg (by rw [h];simp),if_neg aA]
theorem Yu{x:Bool×List Int}{l:List Int}(h:x.1=false):Fb x l=false:=by unfold Fb;rw [h];rfl
theorem Yv{x:Bool×List Int}{l:List Int}(h:¬(x.2.length:Int)<l.length)(h2:¬(l.length:Int)=x.2.length):Fb x l=false:=by
 unfold Fb;rw [decide_eq_false h,decide_eq_false h2];simp
theorem Yw{x:Bool×List Int}{l:List Int}(h:¬(x.2.length:Int)<l.length)(h2:¬0<Dy l x.2):Fb x l=false:=by
 unfold Fb;rw [decide_eq_false h,decide_eq_false h2];simp
theorem RW{x:Bool×List Int}{l:List Int}(h:x.1=true)(h1:(x.2.length:Int)<l.length):Fb x l=true:=by
 unfold Fb;rw [h,decide_eq_true h1];simp
theorem RX{x:Bool×List Int}{l:List Int}(h:x.1=true)(h1:(l.length:Int)=x.2.length)(h2:0<Dy l x.2):Fb x l=true:=by
 unfold Fb;rw [h,decide_eq_true h1,decide_eq_true h2];simp
theorem pow_16:∀{n:Nat},n<=4->(1:Int)<=(2:Int) ^ n/\(2:Int) ^ n<=16
 | 0,_=>aC
 | 1,_=>aC
 | 2,_=>aC
 | 3,_=>aC
 | 4,_=>aC
theorem PE:∀q,(CB ws js ns q).2.length<=ns.length
 | 0=>Nat.zero_le _
 | q+1=>by
  have e:=PE q;unfold CB;split
  ·exact e
  ·split
   ·exact RI _ _
   ·exact e
def Gj(bag kinds:Int)(ps:List ByteArray)(ws:List AH)(js:List AQ)(ns:List AM):List Int:=
 if¬Bc bag kinds ps ws js ns=0 then [] else if (0:Int)<(AA ws js ns).length then [] else (CB ws js ns (2 ^ ns.length)).2
end
section
variable {bag kinds:Int} {ps:List ByteArray} {ws:List AH} {js:List AQ} {ns:List AM} {q:Nat}
theorem UM(h:¬Bc bag kinds ps ws js ns=0):Gj bag kinds ps ws js ns=[]:=if_pos h
theorem TA(h:(0:Int)<(AA ws js ns).length):Gj bag kinds ps ws js ns=[]:=by
 unfold Gj;rw [if_pos h];exact ite_self _
theorem UN(h:Bc bag kinds ps ws js ns=0)(h1:¬(0:Int)<(AA ws js ns).length)(hq:¬(q:Int)<(2:Int) ^ ((ns.length:Int)).toNat)(hq2:(q:Int)<=(2:Int) ^ ((ns.length:Int)).toNat):Gj bag kinds ps ws js ns=(CB ws js ns q).2:=by
 have e:((2 ^ ns.length:Nat):Int)=(2:Int) ^ ((ns.length:Int)).toNat:=by rw [Int.toNat_natCast,Int.natCast_pow];rfl
 rw [<-e] at hq hq2
 have:2 ^ ns.length=q:=aA
 unfold Gj;rw [if_neg (λx=>x h),if_neg h1,this]
end
section
variable (ws:List AH) (js:List AQ) (ns:List AM)
abbrev KR(pq:List AI)(i:Nat):Nat->Int:=λk=>(pq.getD k AI.zero).ways i
def UO(pq:List AI)(i:Nat):Int:=KZ (KR pq i) pq.length
def HP(pq:List AI)(k:Nat):Int×Int:=askTo (UO pq) (pq.length:Int) k
theorem RY{pq:List AI}{k:Nat}(h:UO pq k<(HP pq k).2):HP pq (k+1)=((k:Int),UO pq k):=if_pos h
theorem RZ{pq:List AI}{k:Nat}(h:¬UO pq k<(HP pq k).2):HP pq (k+1)=HP pq k:=if_neg h
def TB(bag kinds:Int)(ps:List ByteArray)(ws:List AH)(js:List AQ)(ns:List AM):Int:=if¬AE bag kinds ps ws js ns 0=0 then 0 else (HP (AA ws js ns) ws.length).1
def N6(bag kinds:Int)(ps:List ByteArray)(ws:List AH)(js:List AQ)(ns:List AM):Int:=if¬AE bag kinds ps ws js ns 0=0 then 0 else (HP (AA ws js ns) ws.length).2
end
end Go.Ns
namespace Go.Ns
open Go.Conc
def Lg(hs:GH)(k0 ln:Nat)(c:Array Value)(t:TypeId)(k:Nat)(v:Value)(h:GH):Prop:=k=k0->∃r,v=.slice (some ⟨r,0,none⟩) ln ln/\hs r=none/\h r=some (true,.cells c t (0,0))
theorem Lg.mono(hs:GH)(k0 ln:Nat)(c:Array Value)(t:TypeId):∀k v h1 h2,GH.Le h1 h2->Lg hs k0 ln c t k v h1->Lg hs k0 ln c t k v h2:=λ_ _ _ _ l x e=>by
 obtain ⟨r,q1,q2,q3⟩:=x e;exact ⟨r,q1,q2,l.keep q3 rfl⟩
theorem J9{P:Program}{E:GG P}{O:Nat->Value}{ds:List Deferred}{hs hx:GH}{dst:Option Nat}{ty:TypeId}{pos:String}{af:Array Edge}{gd:Option (Nat×Bool)}{t:TypeId}{len n k0 k:Nat}{z cells:Array Value}{e:TypeId}{parts:Array (Nat×Operand)}
  (h0:DR P t=some (n,z,e)) (hl:len*n<=2 ^ 24) (hn:(len*n=0)=False) (hf:Instr.fill (λi=>some (i*n,n)) ((Array.range (len*n)).map (z[·%z.size]!)) (parts.map λ(i,x)=>(i,AR O x)).toList=some cells) (l:hs.Le hx) :
  BV E ⟨dst,.buildSlice t len parts,ty,pos,af,gd⟩ O ds hx λσ' ds' h'=>ds'=ds/\∃v,σ'=putS O dst v/\hx.Le h'/\Lg hs k0 len cells e k v h':=
 Aa h0 hl hn hf λr h' hr le bx _=>⟨rfl,_,rfl,le,λ_=>⟨r,rfl,GH.Le.nothing l hr,bx⟩⟩
def LfW(hs:GH)(k0 ln:Nat)(c:Array Value)(t:TypeId)(n:Nat)(Fr:GH->Prop)(k:Nat)(v:Value)(h:GH):Prop:=Lg hs k0 ln c t k v h/\(k=n->Fr h)
theorem LfW.mono(hs:GH)(k0 ln:Nat)(c:Array Value)(t:TypeId)(n:Nat){Fr:GH->Prop}(m:∀h1 h2,GH.Le h1 h2->Fr h1->Fr h2):∀k v h1 h2,GH.Le h1 h2->LfW hs k0 ln c t n Fr k v h1->LfW hs k0 ln c t n Fr k v h2:=λ_ _ _ _ l x=>⟨Lg.mono _ _ _ _ _ _ _ _ _ l x.1,λe=>m _ _ l (x.2 e)⟩
theorem Vz{P:Program}{E:GG P}{O:Nat->Value}{ds:List Deferred}{hs hx:GH}{dst:Option Nat}{ty:TypeId}{pos:String}{af:Array Edge}{gd:Option (Nat×Bool)}{t:TypeId}{len n k0 N:Nat}{z cells:Array Value}{e:TypeId}{parts:Array (Nat×Operand)}{Fr:GH->Prop}(hk:k0≠N)
  (h0:DR P t=some (n,z,e)) (hl:len*n<=2 ^ 24) (hn:(len*n=0)=False) (hf:Instr.fill (λi=>some (i*n,n)) ((Array.range (len*n)).map (z[·%z.size]!)) (parts.map λ(i,x)=>(i,AR O x)).toList=some cells) (l:hs.Le hx) :
  BV E ⟨dst,.buildSlice t len parts,ty,pos,af,gd⟩ O ds hx λσ' ds' h'=>ds'=ds/\∃v,σ'=putS O dst v/\hx.Le h'/\LfW hs k0 len cells e N Fr k0 v h':=
 Aa h0 hl hn hf λr h' hr le bx _=>⟨rfl,_,rfl,le,λ_=>⟨r,rfl,GH.Le.nothing l hr,bx⟩,λe=>absurd e hk⟩
theorem tFg{P:Program}{E:GG P}{l:List Oper}{n:Nat}{fl:Bool}{hs:GH}{ds:List Deferred}{Lw:Nat->Value->GH->Prop}{F:(Nat->Value)->GH->Prop}{π:List Nat}{O:Nat->Value}{h:GH}{m k g d:Nat}{dst:Option Nat}{op:Op}{ty:TypeId}{pos:String}{af:Array Edge}{v:Value}{w:Bool}{og:Oper}
  (hk:KW m=(.p,k)) (ho:l[k]? =some ⟨dst,op,ty,pos,af,some (g,w)⟩) (h1:l[g]? =some og) (h2:og.dst=some d) (h3:O d=.bool w) (x:∀hx,Lw n undef hx->Sd E ⟨dst,op,ty,pos,af,some (g,w)⟩ O ds hx v)
  (y:TD E l n fl hs ds Lw F (dK π) (putS O dst v) h):TD E l n fl hs ds Lw F (dK (m ::π)) O h:=by
 unfold dK;rw [hk];exact ⟨_,true,ho,HM h1 h2 h3,λe=>(by cases e),λ_=>⟨v,x,y⟩⟩
theorem tWLg{P:Program}{E:GG P}{l:List Oper}{n:Nat}{hs:GH}{ds:List Deferred}{Lw:Nat->Value->GH->Prop}{F:(Nat->Value)->GH->Prop}{π:List Nat}{O:Nat->Value}{h:GH}{m k g d:Nat}{dst:Option Nat}{op:Op}{ty:TypeId}{pos:String}{af:Array Edge}{w:Bool}{og:Oper}(hk:KW m=(.w,k))(ho:l[k]? =some ⟨dst,op,ty,pos,af,some (g,w)⟩)(h1:l[g]? =some og)(h2:og.dst=some d)(h3:O d=.bool w)
  (x:BV E ⟨dst,op,ty,pos,af,some (g,w)⟩ O ds h λσ' ds' h'=>ds'=ds/\∃v,σ'=putS O dst v/\Lw n undef h'/\TD E l n false hs ds Lw F (dK π) (putS O dst v) h'):TD E l n false hs ds Lw F (dK (m ::π)) O h:=by
 unfold dK;rw [hk];exact ⟨_,true,ho,HM h1 h2 h3,λe=>(by cases e),λ_ hx hg=>by rw [hg.2 rfl];exact x⟩
def Ty(h:GH)(t:TypeId)(v:Value):Prop:=∀b,Ca v=some b->∃p c f,h b=some (p,.cells c t f)
def Dr(h:GH)(t:TypeId)(v:Value)(xs:List Int):Prop:=AD h v 1 eI xs/\Ty h t v
theorem Dr.le{h h':GH}{t:TypeId}{v:Value}{xs:List Int}(x:Dr h t v xs)(l:h.Le h'):Dr h' t v xs:=⟨x.1.le l,λb hb=>by
 obtain ⟨p,c,f,q⟩:=x.2 b hb;exact ⟨p,c,f,l.keep q rfl⟩⟩
theorem Dr.nil(h:GH)(t:TypeId):Dr h t (.slice none 0 0) []:=⟨AD.nil _ _ _,λb hb=>by cases hb⟩
theorem Dr.own{h0 h:GH}{t:TypeId}{v:Value}{xs:List Int}(o:AU h0 h v t 1 eI xs):Dr h t v xs:=⟨o.sl,λb hb=>by
 rcases o with ⟨rfl,_⟩ | ⟨b1,cap,c,rfl,_,h2,_⟩
 ·cases hb
 ·simp only [Ca,Option.some.injEq] at hb;subst hb;exact ⟨_,_,_,h2⟩⟩
theorem Dr.same{h h':GH}{t:TypeId}{w:Value}{xs:List Int}(x:Dr h t w xs)(key:∀b,Ca w=some b->h' b=h b):Dr h' t w xs:=by
 refine ⟨?_,λb hb=>by rw [key b hb];exact x.2 b hb⟩;obtain ⟨a,cap,hv,hc,hm,he⟩:=x.1;refine ⟨a,cap,hv,hc,hm,λi hi=>?_⟩;obtain ⟨b,off,h1,h2⟩:=he i hi;exact ⟨b,off,h1,h2.same (key b (by rw [hv,h1];rfl))⟩
theorem Dr.grown{V:Type}{h h' h0:GH}{v v':Value}{t t':TypeId}{n:Nat}{enc:V->Array Value}{ys:List V}(g:GE h h' v v')(o:AU h0 h v t' n enc ys)(ne:t'≠t){w:Value}{xs:List Int}(x:Dr h t w xs):Dr h' t w xs:=
 x.same λb hb=>by
  obtain ⟨p,c,f,q⟩:=x.2 b hb;rw [q];refine g.1 b _ q λe=>?_;rcases o with ⟨rfl,_⟩ | ⟨b1,cap,c1,rfl,_,h2,_⟩
  ·cases e
  ·simp only [Ca,Option.some.injEq] at e;subst e;rw [q] at h2;cases h2;exact ne rfl
theorem Dr.keepX{X:Nat->Prop}{h h':GH}{t:TypeId}{w:Value}{xs:List Int}(x:Dr h t w xs)(k:Bb X h h')(n:∀b,Ca w=some b->¬X b):Dr h' t w xs:=
 x.same λb hb=>by
  obtain ⟨p,c,f,q⟩:=x.2 b hb;rw [q];exact k.box q (n b hb) rfl
theorem Dr.store{h h':GH}{t t':TypeId}{w:Value}{xs:List Int}{r:Nat}{p:Bool}{c:Array Value}{f:Nat×Nat}(x:Dr h t w xs)(hr:h r=some (p,.cells c t' f))(ne:t'≠t)(ho:∀b,b≠r->h' b=h b):Dr h' t w xs:=
 x.same λb hb=>ho b λe=>by
  obtain ⟨p2,c2,f2,q⟩:=x.2 b hb;rw [e,hr] at q;cases q;exact ne rfl
def B2(h:GH)(t:TypeId)(l:List Sl):Prop:=∀k,Dr h t (l.getD k Sl.z).1 (l.getD k Sl.z).2
theorem B2.le{h h':GH}{t:TypeId}{l:List Sl}(x:B2 h t l)(e:h.Le h'):B2 h' t l:=λk=>(x k).le e
theorem B2.nil(h:GH)(t:TypeId):B2 h t []:=λk=>by
 rw [CP aD];exact Dr.nil _ _
theorem PG{V:Type}(z:V)(a b:List V)(k:Nat):(a++b).getD k z=if k<a.length then a.getD k z else b.getD (k-a.length) z:=by
 simp only [List.getD_eq_getElem?_getD,List.getElem?_append];split <;> rfl
theorem B2.app{h:GH}{t:TypeId}{l l':List Sl}(a:B2 h t l)(b:B2 h t l'):B2 h t (l++l'):=λk=>by
 rw [PG];split
 ·exact a k
 ·exact b _
theorem B2.one{h:GH}{t:TypeId}{x:Sl}(a:Dr h t x.1 x.2):B2 h t [x]:=λk=>by
 cases k with
 | zero=>exact a
 | succ k=>rw [CP aD];exact Dr.nil _ _
theorem B2.fine{h:GH}{t:TypeId}{l:List Sl}(a:B2 h t l):∀y ∈ l,(JQ y).toList.all (·.oneCell')=true:=λy hy=>by
 obtain ⟨i,hi,e⟩:=List.mem_iff_getElem.1 hy;have z:=a i;rw [List.getD_eq_getElem?_getD,List.getElem?_eq_getElem hi] at z;have z2:Dr h t l[i].1 l[i].2:=z;rw [<-e];show ((l[i].1.oneCell') && true)=true;rw [(AD.one z2.1).2];rfl
theorem MS(a b:List Sl):A5 (a++b)=A5 a++A5 b:=by simp [A5]
section
variable {V:Type} {hB:GH} {I:List V->(Nat->Prop)->GH->Prop} {S:GH->Prop} {X0 X X1:Nat->Prop} {h hc h':GH} {pre l:List V} {v v':Value}
def I5(hB:GH)(X0 X:Nat->Prop)(h:GH)(v:Value):Prop:=∀b,Ca v=some b->¬X b/\(X0 b\/h b=none)/\hB b=none
theorem ER.old(y:ER hB I X0 h pre X hc){b:Nat}(e:hc b=none):X0 b\/h b=none:=by
 by_cases q:X0 b
 ·exact .inl q
 ·refine .inr ?_;cases hb:h b with
  | none=>rfl
  | some x=>
   obtain ⟨o',h1,_⟩:=y.keep b x.1 x.2 hb q;rw [e] at h1;cases h1
theorem ER.fresh(P:GB hB I)(y:ER hB I X0 h pre X hc)(o:∀b,Ca v=some b->hc b=none):I5 hB X0 X h v:=λb hb=>⟨P.off y.inv (o b hb),y.old (o b hb),y.base.nothing (o b hb)⟩
theorem I5.grown(f:I5 hB X0 X h v)(P:GB hB I)(y:ER hB I X0 h pre X hc)(g:GE hc h' v v'):I5 hB X0 X h v':=λb hb=>by
 rcases g.2 with e | ⟨⟨r,e1,e2⟩,_⟩
 ·exact f b (e▸hb)
 ·rw [e1] at hb;cases hb;exact ⟨P.off y.inv e2,y.old e2,y.base.nothing e2⟩
theorem ER.app(P:GB hB I)(y:ER hB I X0 h pre X hc)(g:GE hc h' v v')(f:I5 hB X0 X h v):ER hB I X0 h pre X h':=by
 have lB:hB.Le h':=λb p o hb=>by
  obtain ⟨o1,h1,h2⟩:=y.base b p o hb;exact ⟨o1,g.1 b _ h1 λe=>(by rw [(f b e).2.2] at hb;cases hb),h2⟩
 refine ⟨P.stable _ _ hc h' y.inv (λb hb=>?_) lB,y.sub,λb p o hb hn=>?_,lB⟩
 ·obtain ⟨p,o,h1,_⟩:=P.dom _ _ _ b y.inv hb;rw [h1];exact g.1 b _ h1 λe=>(f b e).1 hb
 ·obtain ⟨o1,h1,h2⟩:=y.keep b p o hb hn;exact ⟨o1,g.1 b _ h1 λe=>(f b e).2.1.elim hn λq=>(by rw [q] at hb;cases hb),h2⟩
theorem ER.callL(y:ER hB I X0 h pre X hc)(f:I5 hB X0 X h v){u:Value}(r:EZ hB I S pre (λb=>X b\/Ca v=some b) hc l u h') :
  ∃ok X',u=.bool ok/\(∀b,X' b->(X b\/Ca v=some b)\/hc b=none)/\Bb (λb=>X b\/Ca v=some b) hc h'/\(ok=true->ER hB I X0 h (pre++l) X' h')/\(ok=false->∀l',EZ hB I S pre X0 h l' (.bool false) h'):=by
 obtain ⟨ok,X',hv,hs,hk,hl,h1,h2⟩:=r;have s:∀b,(X b\/Ca v=some b)->X0 b\/h b=none:=λb q=>q.elim (y.sub b) λe=>(f b e).2.1;have kk:Bb X0 h h':=y.keep.trans s hk;have ss:=subX s y.keep hs;exact ⟨ok,X',hv,hs,hk,λe=>⟨h1 e,ss,kk,hl⟩,λe l'=>⟨false,X',rfl,ss,kk,hl,(λx=>by cases x),λ_=>h2 e⟩⟩
end
structure PH{P:Program}(W:Wk P)(hB:GH)(yv:Value)(t:TypeId)(I:List (List Int)->(Nat->Prop)->GH->Prop)(S:GH->Prop)(all:List (List Int)):Prop where
 prom:GB hB I
 one:yv.cells=#[yv]
 call:∀pre p post X h v,all=pre++p ::post->I pre X h->hB.Le h->Dr h t v p->(∀b,Ca v=some b->¬X b/\hB b=none)->Bw W yv #[v] h (EZ hB I S pre (λb=>X b\/Ca v=some b) h [p])
section
variable {P:Program} {E:GG P} {O:Nat->Value} {ds:List Deferred}
theorem Ra{t0:TypeId}{all:List (List Int)}{hB hc:GH}{J:List (List Int)->(Nat->Prop)->GH->Prop}{Stop:Code->GH->Prop}{Y0:Nat->Prop}{par:Tmp}{f:Operand}{assign body:Code}{Q:Post}
  (hrd:E.rd=none) (hpar:Nat.blt par E.N=true) (hJ:GB hB J) (hB0:hB.Le hc) (j0:J [] Y0 hc)
  (hS:∀c (h h':GH) l lo,Stop c h->h l=some (true,.loop lo)->(∀b,b≠l->h' b=h b)->Stop c h')
  (src:∀(yv:Value)(I:List (List Int)->(Nat->Prop)->GH->Prop)(Sp:GH->Prop)(X:Nat->Prop)(h:GH),PH E.wk hB yv t0 I Sp all->hB.Le h->I [] X h->Bw E.wk (AR O f) #[yv] h λ_ h'=>YEnd hB I Sp all X h h')
  (round:∀(l d:Nat)(lo:Loop)(pre:List (List Int))(p:List Int)(post:List (List Int))(Y:Nat->Prop)(h:GH)(v:Value),all=pre++p ::post->J pre Y h->hB.Le h->hB l=none->¬Y l->h l=some (true,.loop lo)->Dr h t0 v p->(∀b,Ca v=some b->¬Y b/\hB b=none)->
   Tr ⟨E.wk,E.fn,some l,E.N⟩ assign (upd O par v) [] h λe σ' ds' h1=>e=.normal/\h1 l=some (true,.loop lo)/\∀h2,h2 l=some (true,.loop { lo with state:=.busy })->(∀b,b≠l->h2 b=h1 b)->
    Tr ⟨E.wk,E.fn,some l,E.N⟩ body σ' ds' h2 (Tv hB J Stop (pre++[p]) (λb=>Y b\/Ca v=some b) h l lo))
  (fin:∀(d l:Nat)(h':GH),hB.Le h'->hB d=none->hB l=none->hc d=none->h' d=some (true,.deferred (some []))->
   (∀Y,J all Y h'->(∀b,Y b->b≠d)->Q .normal O ({ target:=.collected d,args:=#[] } ::ds) h')/\
   (∀c,Stop c h'->match c with
    | .exit id=>Q (.exit id) O ({ target:=.collected d,args:=#[] } ::ds) h'
    | .ret=>Q .ret O ({ target:=.collected d,args:=#[] } ::ds) h'
    | _=>False)):Tr E (.rangeFunc f #[par] assign body) O ds hc Q:=by
 refine LO hrd λt d l hs hd hl hne=>?_;have hl':hB l=none:=hB0.nothing hl;have hd':hB d=none:=hB0.nothing hd;let lo:Loop:={ state:=.ready,pending:=none,fn:=E.fn,tmps:=t,params:=#[par],assign,body,defers:=d };have nYl:¬Y0 l:=hJ.off j0 hl;have nYd:¬Y0 d:=hJ.off j0 hd;have hL1:((hc.set d true (.deferred (some []))).set l true (.loop lo)) l=some (true,.loop lo):=GH.set_same _ _ _ _;have hL2:((hc.set d true (.deferred (some []))).set l true (.loop lo)) d=some (true,.deferred (some [])):=by rw [GH.set_ne _ _ _ (Ne.symm hne)];exact GH.set_same _ _ _ _
 have hL3:∀b,b≠l->b≠d->((hc.set d true (.deferred (some []))).set l true (.loop lo)) b=hc b:=λb h1 h2=>by rw [GH.set_ne _ _ _ h1,GH.set_ne _ _ _ h2]
 have hLB:hB.Le ((hc.set d true (.deferred (some []))).set l true (.loop lo)):=(hB0.trans (GH.Le.new hd _ _)).trans (GH.Le.new (by rw [GH.set_ne _ _ _ hne];exact hl) _ _);have hI0:NB J l d lo [] (λb=>Y0 b\/b=l\/b=d) ((hc.set d true (.deferred (some []))).set l true (.loop lo)):=by
  refine ⟨Y0,hJ.stable _ _ hc _ j0 (λb hb=>hL3 b (λe=>nYl (e▸hb)) (λe=>nYd (e▸hb))) hLB,λb=>Iff.rfl,nYl,nYd,hL1,hL2⟩
 have prom:GB hB (NB J l d lo):=by
  refine ⟨?_,?_⟩
  ·rintro pre X h b ⟨Y,j,hX,_,_,h1,h2⟩ hb;rcases (hX b).1 hb with h3 | rfl | rfl
   ·exact hJ.dom _ _ _ _ j h3
   ·exact ⟨_,_,h1,rfl⟩
   ·exact ⟨_,_,h2,rfl⟩
  ·rintro pre X h h' ⟨Y,j,hX,n1,n2,h1,h2⟩ same lB;refine ⟨Y,hJ.stable _ _ h h' j (λb hb=>same b ((hX b).2 (.inl hb))) lB,hX,n1,n2,?_,?_⟩
   ·rw [same l ((hX l).2 (.inr (.inl rfl)))];exact h1
   ·rw [same d ((hX d).2 (.inr (.inr rfl)))];exact h2
 have yk:PH E.wk hB (.func (.yield l) #[] #[]) t0 (NB J l d lo) (RG Stop l d lo) all:=by
  refine ⟨prom,rfl,?_⟩;rintro pre p post X h v hall ⟨Y,j,hX,n1,n2,h1,h2⟩ lB hsv hvX;have nvl:Ca v≠some l:=λe=>by obtain ⟨_,_,_,q⟩:=hsv.2 l e;rw [h1] at q;cases q
  have nvd:Ca v≠some d:=λe=>by obtain ⟨_,_,_,q⟩:=hsv.2 d e;rw [h2] at q;cases q
  refine OS h1 rfl ?_;have ef:(lo.params.zip #[v]).foldl (λtmps x=>tmps.setIfInBounds x.1 x.2) lo.tmps=t.setIfInBounds par v:=by simp [lo]
  rw [ef];show BY E.wk l E.fn (t.setIfInBounds par v) assign body h _;have hs':=hs.put hpar v;refine M6 (N:=E.N) hs'.1 ?_;have e0:(λi=>(t.setIfInBounds par v).getD i undef)=upd O par v:=funext hs'.2;rw [e0];refine J0 ?_ (round l d lo pre p post Y h v hall j lB hl' n1 h1 hsv λb hb=>⟨λq=>(hvX b hb).1 ((hX b).2 (.inl q)),(hvX b hb).2⟩);rintro e σ' ds' ha ⟨rfl,ha1,hb⟩;refine ⟨rfl,lo,ha1,rfl,?_⟩;refine J0 ?_ (hb _ (GH.set_same _ _ _ _) λb hb=>GH.set_ne _ _ _ hb);rintro e σ2 ds2 h3 ⟨g1,Y',g2,g3,g4,g5⟩;have hd3:h3 d=some (true,.deferred (some [])):=g3.box h2 (λq=>q.elim (λq=>q.elim n2 nvd) (λe=>hne e.symm)) rfl;have nl:¬Y' l:=λq=>(g2 l q).elim (λq=>q.elim n1 nvl) λe=>by rw [h1] at e;cases e
  have nd:¬Y' d:=λq=>(g2 d q).elim (λq=>q.elim n2 nvd) λe=>by rw [h2] at e;cases e
  have key:∀(lo2:Loop)(ok:Bool),(if ok then J (pre++[p]) Y' (h3.set l true (.loop lo2))/\lo2=lo else RG Stop l d lo (h3.set l true (.loop lo2)))->EZ hB (NB J l d lo) (RG Stop l d lo) pre (λb=>X b\/Ca v=some b) h [p] (.bool ok) (h3.set l true (.loop lo2)):=by
   intro lo2 ok hok;refine ⟨ok,λb=>Y' b\/b=l\/b=d,rfl,?_,?_,?_,?_,?_⟩
   ·rintro b (hb | rfl | rfl)
    ·exact (g2 b hb).imp (λq=>q.imp (λq=>(hX b).2 (.inl q)) id) id
    ·exact .inl (.inl ((hX _).2 (.inr (.inl rfl))))
    ·exact .inl (.inl ((hX _).2 (.inr (.inr rfl))))
   ·intro b q o hb hn;have nb:b≠l:=λe=>hn (.inl ((hX b).2 (.inr (.inl e))));rw [GH.set_ne _ _ _ nb];exact g3 b q o hb λq=>q.elim (λz=>z.elim (λz=>hn (.inl ((hX b).2 (.inl z)))) λz=>hn (.inr z)) nb
   ·exact g4.upd hl' λb hb=>GH.set_ne _ _ _ hb
   ·rintro rfl;simp only [if_true] at hok;obtain ⟨hj,rfl⟩:=hok;exact ⟨Y',hj,λb=>Iff.rfl,nl,nd,GH.set_same _ _ _ _,by rw [GH.set_ne _ _ _ (Ne.symm hne)];exact hd3⟩
   ·rintro rfl;simpa using hok
  have js:∀(lo2:Loop),J (pre++[p]) Y' h3->J (pre++[p]) Y' (h3.set l true (.loop lo2)):=λlo2 hj=>hJ.store hj nl (λb hb=>GH.set_ne _ _ _ hb) (g4.upd hl' λb hb=>GH.set_ne _ _ _ hb);have ss:∀c (lo2:Loop),Stop c h3->Stop c (h3.set l true (.loop lo2)):=λc lo2 hc=>hS c h3 _ l _ hc g1 λb hb=>GH.set_ne _ _ _ hb;refine ⟨_,g1,?_⟩;cases e with
  | normal=>exact key _ true (by simp only [if_true];exact ⟨js _ g5,rfl⟩)
  | exit id=>exact key _ false (by simp only [Bool.false_eq_true,if_false];exact ⟨_,ss _ _ g5,GH.set_same _ _ _ _,by rw [GH.set_ne _ _ _ (Ne.symm hne)];exact hd3⟩)
  | ret=>exact key _ false (by simp only [Bool.false_eq_true,if_false];exact ⟨_,ss _ _ g5,GH.set_same _ _ _ _,by rw [GH.set_ne _ _ _ (Ne.symm hne)];exact hd3⟩)
  | goto _=>exact g5.elim
  | panic _=>exact g5.elim
  | outgrown=>exact g5.elim
 refine (src _ _ _ _ _ yk hLB hI0).mono ?_;rintro v h' ⟨X',hs',hk,hl2,hor⟩;rcases hor with ⟨Y,j,hX,n1,n2,h1,h2⟩ | ⟨c,hst,h1,h2⟩
 ·refine ⟨lo,h1,rfl,?_⟩;show Q .normal O _ _;have hB':=hl2.upd hl' (λb hb=>GH.set_ne h' true (.loop { lo with state:=.exhausted }) hb);refine (fin d l _ hB' hd' hl' hd (by rw [GH.set_ne _ _ _ (Ne.symm hne)];exact h2)).1 Y (hJ.store j n1 (λb hb=>GH.set_ne _ _ _ hb) hB') λb hb e=>n2 (e▸hb)
 ·refine ⟨_,h1,rfl,?_⟩;have hB':=hl2.upd hl' (λb hb=>GH.set_ne h' true (.loop { { lo with state:=.done,pending:=some c } with state:=.exhausted }) hb)
  have:=(fin d l _ hB' hd' hl' hd (by rw [GH.set_ne _ _ _ (Ne.symm hne)];exact h2)).2 c (hS c h' _ l _ hst h1 λb hb=>GH.set_ne _ _ _ hb)
  cases c with
  | exit id=>exact this
  | ret=>exact this
  | _=>exact this.elim
end
def HQ(l:List Int)(k:Int):Bool:=l.any (λx=>decide (k=x))
def BK(jobs:List Int):Nat->List Int->List (List Int)
 | 0,l=>[l]
 | f+1,l=>l ::jobs.flatMap λk=>if HQ l k=true then [] else BK jobs f (l++[k])
def CM(jobs:List Int):Nat->List Int->Int->List (List Int)
 | 0,_,_=>[]
 | f+1,l,k=>if HQ l k=true then [] else BK jobs f (l++[k])
theorem FN(jobs:List Int)(f:Nat)(l:List Int):BK jobs f l=l ::jobs.flatMap (CM jobs f l):=by
 cases f with
 | zero=>simp [BK,CM]
 | succ f=>rfl
def DP(jobs:List Int):List (List Int):=BK jobs jobs.length []
def Kt(jobs l:List Int):Nat:=(jobs.filter λk=> !HQ l k).length
theorem hasI_app(l:List Int)(k j:Int):HQ (l++[k]) j=(HQ l j || decide (j=k)):=by simp [HQ]
theorem NS{jobs l:List Int}{k:Int}(hk:k ∈ jobs)(h:HQ l k=false):Kt jobs (l++[k])<Kt jobs l:=by
 unfold Kt;have key:∀js:List Int,(js.filter λj=> !HQ (l++[k]) j).length<=(js.filter λj=> !HQ l j).length/\(k ∈ js->(js.filter λj=> !HQ (l++[k]) j).length<(js.filter λj=> !HQ l j).length):=by
  intro js
  induction js with
  | nil=>exact ⟨Nat.le_refl _,λe=>by cases e⟩
  | cons j js ih=>
   obtain ⟨ih1,ih2⟩:=ih;rw [List.filter_cons,List.filter_cons,hasI_app];by_cases e:j=k
   ·subst e;simp only [h,Bool.false_or,decide_true,Bool.not_true,Bool.false_eq_true,if_false,Bool.not_false,if_true,List.length_cons];exact ⟨aA,λ_=>aA⟩
   ·rw [decide_eq_false e,Bool.or_false];split
    ·simp only [List.length_cons];exact ⟨aA,λq=>by have:=ih2 ((List.mem_cons.1 q).resolve_left λz=>e z.symm);omega⟩
    ·exact ⟨ih1,λq=>ih2 ((List.mem_cons.1 q).resolve_left λz=>e z.symm)⟩
 exact (key jobs).2 hk
theorem V0{jobs:List Int}{i:Nat}{F:Int->List (List Int)}(hi:i<jobs.length):(jobs.take (i+1)).flatMap F=(jobs.take i).flatMap F++F (jobs.getD i 0):=by
 rw [Dt 0 hi,List.flatMap_append];simp
theorem CY.job{all pre:List (List Int)}{jobs:List Int}{f i:Nat}{l:List Int}(w:CY all pre (BK jobs f l))(hi:i<jobs.length):CY all (pre++[l]++(jobs.take i).flatMap (CM jobs f l)) (CM jobs f l (jobs.getD i 0)):=by
 rw [FN] at w;have w2:CY all pre ([l]++((jobs.take i).flatMap (CM jobs f l)++(CM jobs f l (jobs.getD i 0)++(jobs.drop (i+1)).flatMap (CM jobs f l)))):=by
  rw [<-List.append_assoc (List.flatMap _ _),<-V0 hi,<-List.flatMap_append,List.take_append_drop];exact w
 exact (w2.right.right).left
theorem CY.head{all pre:List (List Int)}{jobs:List Int}{f:Nat}{l:List Int}(w:CY all pre (BK jobs f l)):CY all pre [l]:=by
 rw [FN] at w;exact CY.left (a:=[l]) w
section
variable {jobs l:List Int} {f f' i:Nat} {k:Int} {all pre:List (List Int)}
theorem V1(hk:k ∈ jobs)(h:HQ l k=false)(hu:Kt jobs l<=f):∃f',f=f'+1:=⟨f-1,by have:=NS hk h;omega⟩
theorem Lh(hf:f=f'+1)(h:HQ l k=false):CM jobs f l k=BK jobs f' (l++[k]):=by
 subst hf;exact if_neg (by rw [h];simp)
theorem QH(h:HQ l k=true):CM jobs f l k=[]:=by
 cases f with
 | zero=>rfl
 | succ f=>exact if_pos h
theorem QI(hi:i<jobs.length)(h:HQ l (jobs.getD i 0)=true):pre++[l]++(jobs.take (i+1)).flatMap (CM jobs f l)=pre++[l]++(jobs.take i).flatMap (CM jobs f l):=by
 rw [V0 hi,QH h,List.append_nil]
theorem TC(hi:i<jobs.length)(hf:f=f'+1)(h:HQ l (jobs.getD i 0)=false):pre++[l]++(jobs.take (i+1)).flatMap (CM jobs f l)=(pre++[l]++(jobs.take i).flatMap (CM jobs f l))++BK jobs f' (l++[jobs.getD i 0]):=by
 rw [V0 hi,Lh hf h,<-List.append_assoc]
theorem Yx(hi:jobs.length<=i):pre++BK jobs f l=pre++[l]++(jobs.take i).flatMap (CM jobs f l):=by
 rw [List.take_of_length_le hi,FN];simp
theorem CY.go(w:CY all pre (BK jobs f l))(hi:i<jobs.length)(hf:f=f'+1)(h:HQ l (jobs.getD i 0)=false):CY all (pre++[l]++(jobs.take i).flatMap (CM jobs f l)) (BK jobs f' (l++[jobs.getD i 0])):=by
 have z:=w.job hi
 rwa [Lh hf h] at z
end
end Go.Ns
namespace Go.Ns
open Go.Conc
theorem HD.mem{h:GH}{l:List Sl}(a:HD h l){x:Sl}(hx:x ∈ l):AD h x.1 1 eI x.2:=by
 obtain ⟨i,hi,e⟩:=List.mem_iff_getElem.1 hx;have z:=a i;rw [List.getD_eq_getElem?_getD,List.getElem?_eq_getElem hi] at z;have z2:AD h l[i].1 1 eI l[i].2:=z;rw [<-e];exact z2
theorem B2.all{h:GH}{t:TypeId}{l:List Sl}(a:B2 h t l):HD h l:=λk=>(a k).1
theorem B2.drop1{h:GH}{t:TypeId}{l:List Sl}(a:B2 h t l):B2 h t (l.drop 1):=λk=>by
 rw [List.getD_eq_getElem?_getD,List.getElem?_drop,<-List.getD_eq_getElem?_getD];exact a (1+k)
theorem V2{l:List Sl}{k:Nat}(h:k<l.length-1):(l.drop 1).getD k Sl.z ∈ l:=List.mem_of_mem_drop (Bl (by rw [List.length_drop];exact h))
section
variable (G:List Int->Int) (l:List (List Int))
def DA:Nat->List Int×Int
 | 0=>(l.getD 0 [],G (l.getD 0 []))
 | k+1=>if G ((l.drop 1).getD k [])<(DA k).2 then ((l.drop 1).getD k [],G ((l.drop 1).getD k [])) else DA k
def Cu:List Int:=(DA G l (l.length-1)).1
end
section
variable {G:List Int->Int} {l:List Sl} {k:Nat}
theorem V3(l:List Sl):(A5 l).length=l.length:=List.length_map _
theorem NT(hk:k<l.length-1):((A5 l).drop 1).getD k []=((l.drop 1).getD k Sl.z).2:=by
 have e:(A5 l).drop 1=A5 (l.drop 1):=by unfold A5;rw [List.map_drop]
 rw [e,FY (by rw [List.length_drop];exact hk)]
theorem Li(hk:k<l.length-1)(h:G ((l.drop 1).getD k Sl.z).2<(DA G (A5 l) k).2):DA G (A5 l) (k+1)=(((l.drop 1).getD k Sl.z).2,G ((l.drop 1).getD k Sl.z).2):=by
 rw [DA,NT hk,if_pos h]
theorem Lj(hk:k<l.length-1)(h:¬G ((l.drop 1).getD k Sl.z).2<(DA G (A5 l) k).2):DA G (A5 l) (k+1)=DA G (A5 l) k:=by
 rw [DA,NT hk,if_neg h]
theorem UP(hk:k=l.length-1):Cu G (A5 l)=(DA G (A5 l) k).1:=by unfold Cu;rw [V3,hk]
end
theorem NU{G:List Int->Int}{l:List (List Int)}:∀k,k<l.length->(DA G l k).1 ∈ l
 | 0,h=>Bl h
 | k+1,h=>by
  unfold DA;split
  ·exact List.mem_of_mem_drop (Bl (by rw [List.length_drop];omega))
  ·exact NU k aA
theorem V4{G:List Int->Int}{l:List (List Int)}(h:0<l.length):Cu G l ∈ l:=NU _ aA
theorem PI:∀(n k:Nat),k<n->(Cs n).getD k 0=(k:Int)
 | 0,k,h=>absurd h (Nat.not_lt_zero _)
 | n+1,k,h=>by
  have hl:=DG n;rw [Cs,List.getD_eq_getElem?_getD];by_cases e:k<n
  ·rw [List.getElem?_append_left aA,<-List.getD_eq_getElem?_getD];exact PI n k e
  ·have e2:k=n:=aA
   subst e2;rw [List.getElem?_append_right aA,hl,Nat.sub_self];rfl
theorem PJ{n:Nat}{x:Int}(h:x ∈ Cs n):0<=x/\x<n:=by
 obtain ⟨i,hi,e⟩:=List.mem_iff_getElem.1 h;have hl:=DG n
 have:=PI n i aA
 rw [List.getD_eq_getElem?_getD,List.getElem?_eq_getElem hi,Option.getD_some,e] at this;omega
theorem Jk{jobs:List Int}:∀(f:Nat)(l:List Int),(∀x ∈ l,x ∈ jobs)->∀r ∈ BK jobs f l,(∀x ∈ r,x ∈ jobs)/\r.length<=l.length+f
 | 0,l,h,r,hr=>by
  rw [BK,List.mem_singleton] at hr;subst hr;exact ⟨h,Nat.le_refl _⟩
 | f+1,l,h,r,hr=>by
  rw [BK,List.mem_cons] at hr;rcases hr with rfl | hr
  ·exact ⟨h,aA⟩
  ·obtain ⟨k,hk,hr⟩:=List.mem_flatMap.1 hr;split at hr
   ·cases hr
   ·have:=Jk f (l++[k]) (λx hx=>by
     rcases List.mem_append.1 hx with hx | hx
     ·exact h x hx
     ·rw [List.mem_singleton.1 hx];exact hk) r hr
    refine ⟨this.1,?_⟩;have e:=this.2;rw [List.length_append,List.length_singleton] at e;omega
theorem TE{jobs r:List Int}(h:r ∈ DP jobs):(∀x ∈ r,x ∈ jobs)/\r.length<=jobs.length:=by
 have:=Jk jobs.length [] (λx hx=>by cases hx) r h
 simpa using this
def TF(nj:Nat)(l:List Int):Prop:=(∀k,k<l.length->0<=l.getD k 0/\l.getD k 0<nj)/\l.length<=4
theorem Jl{n:Nat}{jobs r:List Int}(hj:∀x ∈ jobs,0<=x/\x<(n:Int))(hl:jobs.length<=4)(h:r ∈ DP jobs):TF n r:=by
 obtain ⟨h1,h2⟩:=TE h;exact ⟨λk hk=>hj _ (h1 _ (Bl hk)),aA⟩
theorem Jm{jobs:List Int}(hj:jobs.length<=4):∀(f:Nat)(l:List Int),f<=4->(BK jobs f l).length<=5 ^ f*1
 | 0,l,_=>Nat.le_refl _
 | f+1,l,hf=>by
  have key:∀js:List Int,(js.flatMap λk=>if HQ l k=true then [] else BK jobs f (l++[k])).length<=js.length*5 ^ f:=by
   intro js
   induction js with
   | nil=>simp
   | cons j js ih=>
    rw [List.flatMap_cons,List.length_append,List.length_cons,Nat.add_mul,Nat.one_mul,Nat.add_comm];refine Nat.add_le_add ih ?_;split
    ·exact Nat.zero_le _
    ·have:=Jm hj f (l++[j]) aA;omega
  rw [BK,List.length_cons];have h1:=key jobs;have h2:jobs.length*5 ^ f<=4*5 ^ f:=Nat.mul_le_mul_right _ hj;have h3:1<=5 ^ f:=Nat.one_le_pow _ _ aC;rw [Nat.pow_succ];omega
theorem HR{jobs:List Int}(hj:jobs.length<=4):(DP jobs).length<=625:=by
 have h:=Jm hj jobs.length [] hj;have h2:5 ^ jobs.length<=5 ^ 4:=Nat.pow_le_pow_right aC hj;unfold DP;omega
end Go.Ns
namespace Go.Ns
open Go.Conc
section
variable {P:Program} {M:Type} {F:MM P M} {i:Option (Co M)} {O:Nat->Value} {ds:List Deferred} {h:GH} {Q:Om M}
theorem trI_td{id:Nat}{l:List Oper}(n:Nat)(fl:Bool)(π:List Nat)(hm:P.follows .mixedOrders=true)
  (ok:OY l (l.take n) 0 [] (λcls=>OZ P F.N l n cls fl (dK π))=true) (x:TD (F.env i) l n fl h ds (λ_ _ _=>True) (λσ' h'=>GC F l.toArray (l.drop n) i σ' ds h' Q) (dK π) O h):Nt F (.region id l.toArray true) i O ds h Q:=by
 obtain ⟨cls,h1⟩:=Hn ok;intro b k cs L t hb hr hl hs hq;exact Xl (E:=F.env i) n cls fl (dK π) hm (λ_ _ _ _ _ y=>y) trivial h1 x hb hr hs λσ' h' f t' ht'=>f n b k cs L t' (λj=>aD) hb hr hl ht' hq
def I6(P:Program):Frame:={ (default:Frame) with fn:=P.funcs.size,defers:=[],mode:=.panicking [goexitEntry] }
theorem quit_bot:QuitsIn P 1 (G (I6 P) []):=.inr ⟨rfl,{ G (I6 P) [] with status:=.finished },λw=>by
 show unwind P false (I6 P) [] none w=_;have hcat:(I6 P).catches P=false:=by
  unfold Frame.catches
  have:P.funcs[(I6 P).fn]? =none:=Array.getElem?_eq_none (Nat.le_refl _)
  rw [this];rfl
 have hd:(I6 P).defers=[]:=rfl;have hmd:(I6 P).mode=.panicking [goexitEntry]:=rfl;unfold unwind;simp only [hd,hmd,hcat]
 rfl,rfl⟩
theorem UQ{fn:Func}{f:FuncId}{args:Array Value}{t:Array Value}{ops:Array Oper}(hf:P.funcs[f]? =some fn)(hres:fn.results=#[]):QuitsIn P 4 (G (Cg (Frame.enter P f args .deferred) t [] [.inRegion ops []]) [I6 P]):=by
 refine .inr ⟨rfl,G (Cg (Frame.enter P f args .deferred) t [] []) [I6 P],λw=>by rw [A7];simp [stepG.exec,Cg,G],?_⟩;refine .inr ⟨rfl,G (EW (Frame.enter P f args .deferred) t [] []) [I6 P],λw=>by rw [A7];simp [stepG.exec,Cg,EW,G,Frame.enter],?_⟩;refine .inr ⟨rfl,G (I6 P) [],λw=>?_,quit_bot⟩;show unwind P false (EW (Frame.enter P f args .deferred) t [] []) [I6 P] none w=_;have hfn:(EW (Frame.enter P f args .deferred) t [] []).fn=f:=rfl;have hk:(EW (Frame.enter P f args .deferred) t [] []).kind=.deferred:=rfl;have hmd:(EW (Frame.enter P f args .deferred) t [] []).mode=.returning:=rfl;have hd:(EW (Frame.enter P f args .deferred) t [] []).defers=[]:=rfl;have r1:∀t,(results fn t).runT P w #[]=(.ok (.tuple #[]) w,#[]):=λt=>by
  unfold results;rw [hres];simp only [Array.mapM_empty];rfl
 unfold unwind;simp only [hd,hmd,hfn,hf,r1,GStep.after,doReturn,hk,seen_none];rfl
def I7(F:MM P M)(R:Code)(args:Array Value)(i:Option (Co M))(O:Nat->Value)(h:GH):Prop:=∀t,Ba t F.N O->(F.wk i).K (G (Cg (Frame.enter P F.fn args .deferred) t [] [.code R]) [I6 P]) h
theorem MT{fn:Func}{c R:Code}{s:Co M}{ars cap args:Array Value}(hm:F.main=false)(hrd:F.rd=none)(ha:ars++cap=args)(hf:P.funcs[F.fn]? =some fn)(hc:AO fn=true)(hb:fn.body=some (.seq c R))(hN:F.N=fn.ntmps)(hsz:args.size<=fn.ntmps)(hs:¬s.isDone)
  (x:Nt F c (some s) (λi=>args.getD i undef) [] h λi e O ds h=>e=.normal/\ds=[]/\I7 F R args i O h):FE P F.Rep F.W.K s false (born P { target:=.fn (.func F.fn) cap,args:=ars }) h:=by
 have hwk:∀s,(F.wk (some s)).K=EI P false (II P F.Rep F.W.K s false):=λs=>by show EI P F.main (II P F.Rep F.W.K s F.main)=_;rw [hm]
 rw [Gl hs];refine LH _ _ _ _ rfl λw f=>⟨G (Frame.enter P F.fn args .deferred) [I6 P],w,#[],h,?_,Bj.refl f,?_⟩
 ·subst ha;have hi:(invoke (.fn (.func F.fn) cap) ars).runT P w #[]=(.ok (.enter F.fn (ars++cap)) w,#[]):=S1 hf hc w;show callDeferred P (I6 P) [] none { target:=.fn (.func F.fn) cap,args:=ars } w=_;unfold callDeferred;rw [if_neg aD];simp only [hi,seen_none];rfl
 have e0:Frame.enter P F.fn args .deferred=Cg (Frame.enter P F.fn args .deferred) (args++Array.replicate (fn.ntmps-args.size) undef) [] [.code (.seq c R)]:=by simp [Frame.enter,Cg,hf,hb]
 rw [e0,<-hwk s];refine Wk.go (Cg (Frame.enter P F.fn args .deferred) (args++Array.replicate (fn.ntmps-args.size) undef) [] (.code c ::.code R ::[])) (λw=>by rw [A7];simp [stepG.exec,Cg,G]) ?_;refine x (Frame.enter P F.fn args .deferred) [.code R] [I6 P] (λ_ _ _ _ _=>False) _ rfl hrd.symm (λi=>⟨λ_ _ _ q=>q.elim,λ_ _ _ _ q=>q.elim,λ_ _ _ _ _ _ q=>q.elim⟩) ⟨by rw [hN];simp;omega,λi=>?_⟩ ?_
 ·by_cases hi:i<args.size
  ·simp [Array.getD_eq_getD_getElem?,Array.getElem?_append_left hi]
  ·simp only [Array.getD_eq_getD_getElem?];rw [Array.getElem?_append_right aA,Array.getElem?_eq_none (show args.size<=i by omega),Array.getElem?_replicate];split <;> rfl
 ·rintro i e O ds h' ⟨rfl,rfl,z⟩ t' ht';exact z t' ht'
theorem Yy{fn:Func}{id:Nat}{o1 o2:Oper}{args:Array Value}{c:Nat}{m:M}{v z:Value}{hm:GH}{h1:GH}(hmn:F.main=false)(hrd:F.rd=none)(hf:P.funcs[F.fn]? =some fn)(hres:fn.results=#[])
  (hg1:o1.guard=none) (hd1:Cz o1.dst F.N=true) (hg2:o2.guard=none) (hdf1:C1 o1.op=false) (hdf:C1 o2.op=false) (hd2:Cz o2.dst F.N=true)
  (x:BV (F.env (some (.send c m .done))) o1 O [] h λσ' ds' h'=>ds'=[]/\(∀w,(execOp (AR σ') o2).runT P w #[]=(.ok (.comm #[scase c v z] true .send) w,#[]))/\GH.Split h' h1 hm/\F.Rep c m v hm) :
  I7 F (.region id [o1,o2].toArray false) args (some (.send c m .done)) O h:=by
 intro t hs;refine Wk.go (Cg (Frame.enter P F.fn args .deferred) t [] (.inRegion [o1,o2].toArray [0,1] ::[])) (λw=>by rw [A7];simp [stepG.exec,Cg,G,List.range_eq_range',Array.range];rfl) ?_;refine J1 (E:=F.env (some (.send c m .done))) (o:=o1) (rest:=[1]) rfl (by simp [Region.wanted,hg1]) (.inr hdf1) hd1 hs x ?_;rintro σ' ds' h' ⟨rfl,hr,hsp,hrep⟩ t' ht';refine EI.stop ⟨_,[I6 P],v,z,hm,h1,rfl,⟨λw fw=>?_,hsp,hrep,4,?_⟩⟩
 ·rw [hmn];exact Sy ht' rfl (by simp [Region.wanted,hg2]) (.inr hdf) (hr w)
 ·rw [C2 (ops:=[o1,o2].toArray) (i:=1) (o:=o2) rfl];exact UQ hf hres
theorem Yz{dst:Option Nat}{x:Operand}{tys:Array TypeId}{ty:TypeId}{pos:String}{af:Array Edge}{gd:Option (Nat×Bool)}{ch s r:Nat}{w:World}(hx:AR O x=.chan (some ch))(hw:w.heap[ch]? =some (.chan 0 #[] false s r false)) :
  (execOp (AR O) ⟨dst,.call ⟨.builtin .close,#[x],tys⟩,ty,pos,af,gd⟩).runT P w #[]=(.ok (.value (.tuple #[])) { w with heap:=w.heap.setIfInBounds ch (.chan 0 #[] true s r false) },#[⟨.obj ch,false,true⟩,⟨.obj ch,true,true⟩]):=by
 have q:execOp (AR O) ⟨dst,.call ⟨.builtin .close,#[x],tys⟩,ty,pos,af,gd⟩=builtin .close tys ty (#[x].map fun | .const _=>true | _=>false) (#[x].map (AR O)):=by
  show (resolve (AR O) _ ty).bind _=_;unfold resolve;rfl
 have e:(#[x].map (AR O))=#[Value.chan (some ch)]:=by simp [hx]
 rw [q,e];show Sem.runT P (.getObj ch λo=>_) w #[]=_;unfold Sem.runT;rw [hw];show Sem.runT P (.setObj ch (.chan 0 #[] true s r false) _) w _=_;unfold Sem.runT;rw [hw];rfl
theorem PK{fn:Func}{id:Nat}{o1:Oper}{dst:Option Nat}{xo:Operand}{tys:Array TypeId}{ty:TypeId}{pos:String}{af:Array Edge}{args:Array Value}{c:Nat}(hmn:F.main=false)(hf:P.funcs[F.fn]? =some fn)(hres:fn.results=#[])
  (hg1:o1.guard=none) (hd1:Cz o1.dst F.N=true) (hdf1:C1 o1.op=false)
  (x:BV (F.env (some (.close c .done))) o1 O [] h λσ' ds' _=>ds'=[]/\AR σ' xo=.chan (some c)) :
  I7 F (.region id [o1,⟨dst,.call ⟨.builtin .close,#[xo],tys⟩,ty,pos,af,none⟩].toArray false) args (some (.close c .done)) O h:=by
 intro t hs;refine Wk.go (Cg (Frame.enter P F.fn args .deferred) t [] (.inRegion [o1,⟨dst,.call ⟨.builtin .close,#[xo],tys⟩,ty,pos,af,none⟩].toArray [0,1] ::[])) (λw=>by rw [A7];simp [stepG.exec,Cg,G,List.range_eq_range',Array.range];rfl) ?_;refine J1 (E:=F.env (some (.close c .done))) (o:=o1) (rest:=[1]) rfl (by simp [Region.wanted,hg1]) (.inr hdf1) hd1 hs x ?_;rintro σ' ds' h' ⟨rfl,hx⟩ t' ht';refine EI.stop ⟨_,[I6 P],Cg (Frame.enter P F.fn args .deferred) (VG t' dst (.tuple #[])) [] [.inRegion [o1,⟨dst,.call ⟨.builtin .close,#[xo],tys⟩,ty,pos,af,none⟩].toArray []],[I6 P],rfl,⟨λw s r fw hw=>?_,rfl,4,UQ hf hres⟩⟩;rw [hmn,On ht' (ops:=[o1,⟨dst,.call ⟨.builtin .close,#[xo],tys⟩,ty,pos,af,none⟩].toArray) (n:=1) (o:=⟨dst,.call ⟨.builtin .close,#[xo],tys⟩,ty,pos,af,none⟩) rfl (by simp [Region.wanted]) (.inr rfl)];simp only [stepG.apply,Yz hx hw,if_true];have hk:((Cg (Frame.enter P F.fn args .deferred) t' [] [.inRegion [o1,⟨dst,.call ⟨.builtin .close,#[xo],tys⟩,ty,pos,af,none⟩].toArray [1]]).kind==CallKind.early)=false:=rfl;rw [C2 (ops:=[o1,⟨dst,.call ⟨.builtin .close,#[xo],tys⟩,ty,pos,af,none⟩].toArray) (i:=1) rfl];simp only [hk,Bool.false_eq_true,if_false];show GStep.go _ _ (seen P _ _++ #[])=_;rw [Vg];rfl
end
end Go.Ns
namespace Go.Ns
open Go.Conc
theorem B2.at{h:GH}{t:TypeId}{l:List Sl}(a:B2 h t l){x:Sl}(hx:x ∈ l):Dr h t x.1 x.2:=by
 obtain ⟨i,hi,e⟩:=List.mem_iff_getElem.1 hx;have z:=a i;rw [List.getD_eq_getElem?_getD,List.getElem?_eq_getElem hi] at z;have z2:Dr h t l[i].1 l[i].2:=z;rw [<-e];exact z2
theorem B2.of{h:GH}{t:TypeId}{l:List Sl}(a:∀x ∈ l,Dr h t x.1 x.2):B2 h t l:=λk=>by
 by_cases hk:k<l.length
 ·exact a _ (Bl hk)
 ·rw [CP aA];exact Dr.nil _ _
theorem B2.grown{V:Type}{h h' h0:GH}{v v':Value}{t t':TypeId}{n:Nat}{enc:V->Array Value}{ys:List V}(g:GE h h' v v')(o:AU h0 h v t' n enc ys)(ne:t'≠t){l:List Sl}(x:B2 h t l):B2 h' t l:=λk=>(x k).grown g o ne
theorem B2.store{h h':GH}{t t':TypeId}{l:List Sl}{r:Nat}{p:Bool}{c:Array Value}{f:Nat×Nat}(x:B2 h t l)(hr:h r=some (p,.cells c t' f))(ne:t'≠t)(ho:∀b,b≠r->h' b=h b):B2 h' t l:=λk=>(x k).store hr ne ho
theorem Dr.storeL{h h':GH}{t:TypeId}{w:Value}{xs:List Int}{r:Nat}{p:Bool}{lo:Loop}(x:Dr h t w xs)(hr:h r=some (p,.loop lo))(ho:∀b,b≠r->h' b=h b):Dr h' t w xs:=
 x.same λb hb=>ho b λe=>by
  obtain ⟨p2,c2,f2,q⟩:=x.2 b hb;rw [e,hr] at q;cases q
def Rb(hB:GH)(r:Nat)(T t t0:TypeId)(F:List Int->Bool)(pre:List (List Int))(Y:Nat->Prop)(h:GH):Prop:=
 ∃w l',h r=some (true,.cells #[w] T (0,0))/\AU hB h w t 1 JQ l'/\BI w r/\hB r=none/\A5 l'=pre.filter F/\B2 h t0 l'/\∀b,Y b↔b=r\/Ca w=some b\/∃x ∈ l',Ca x.1=some b
section
variable {hB h h' ha hb:GH} {r:Nat} {T t t0:TypeId} {F:List Int->Bool} {pre:List (List Int)} {p:List Int} {w w' v:Value} {Y:Nat->Prop} {l':List Sl}
theorem PL(hB:GH)(r:Nat)(T t t0:TypeId)(F:List Int->Bool):GB hB (Rb hB r T t t0 F):=by
 refine ⟨?_,?_⟩
 ·rintro pre Y h b ⟨w,l',h1,h2,h3,h0,h5,h6,h4⟩ hb;rcases (h4 b).1 hb with rfl | h7 | ⟨x,hx,h7⟩
  ·exact ⟨_,_,h1,rfl⟩
  ·obtain ⟨c,hc⟩:=h2.cellsAt b h7;exact ⟨_,_,hc,rfl⟩
  ·obtain ⟨q,c,f,hc⟩:=(h6.at hx).2 b h7;exact ⟨_,_,hc,rfl⟩
 ·rintro pre Y h h' ⟨w,l',h1,h2,h3,h0,h5,h6,h4⟩ same lB;refine ⟨w,l',by rw [same r ((h4 r).2 (.inl rfl))];exact h1,h2.keep λb o hb ho=>by rw [same b ((h4 b).2 (.inr (.inl hb)))];exact ho,h3,h0,h5,.of λx hx=>(h6.at hx).same λb hb=>same b ((h4 b).2 (.inr (.inr ⟨x,hx,hb⟩))),h4⟩
theorem NV(x:h r=some (true,.cells #[.slice none 0 0] T (0,0)))(h0:hB r=none):Rb hB r T t t0 F [] (λb=>b=r) h:=
 ⟨_,[],x,AU.nil _ _ _ _ _,BI.nil,h0,rfl,B2.nil _ _,λ_=>⟨.inl,λq=>q.elim id λe=>e.elim (λe=>by cases e) λ⟨_,e,_⟩=>by cases e⟩⟩
theorem Rc(hY:∀b,Y b↔b=r\/Ca w=some b\/∃x ∈ l',Ca x.1=some b)(g:GE ha hb w w')(hn:∀q,ha q=none->h q=none)(x:h' r=some (true,.cells #[w'] T (0,0)))(o:AU hB h' w' t 1 JQ (l'++[(v,p)]))(f:BI w' r)(h0:hB r=none)
  (hl:A5 l'=pre.filter F) (hp:F p=true) (ta:B2 h' t0 (l'++[(v,p)])):∃Y',(∀b,Y' b->(Y b\/Ca v=some b)\/h b=none)/\Rb hB r T t t0 F (pre++[p]) Y' h':=by
 refine ⟨λb=>b=r\/Ca w'=some b\/∃x ∈ l'++[(v,p)],Ca x.1=some b,?_,w',_,x,o,f,h0,?_,ta,λ_=>Iff.rfl⟩
 ·rintro b (rfl | hb | ⟨y,hy,hb⟩)
  ·exact .inl (.inl ((hY _).2 (.inl rfl)))
  ·rcases g.2 with e | ⟨⟨q,e1,e2⟩,_⟩
   ·exact .inl (.inl ((hY _).2 (.inr (.inl (by rw [<-e];exact hb)))))
   ·rw [e1] at hb;cases hb;exact .inr (hn _ e2)
  ·rcases List.mem_append.1 hy with hy | hy
   ·exact .inl (.inl ((hY _).2 (.inr (.inr ⟨y,hy,hb⟩))))
   ·rw [List.mem_singleton.1 hy] at hb;exact .inl (.inr hb)
 ·rw [MS,hl,List.filter_append];simp [A5,hp]
theorem V5(hY:∀b,Y b↔b=r\/Ca w=some b\/∃x ∈ l',Ca x.1=some b)(x:h' r=some (true,.cells #[w] T (0,0)))(o:AU hB h' w t 1 JQ l')(f:BI w r)(h0:hB r=none)(hl:A5 l'=pre.filter F)(hp:F p=false)(ta:B2 h' t0 l') :
  ∃Y',(∀b,Y' b->(Y b\/Ca v=some b)\/h b=none)/\Rb hB r T t t0 F (pre++[p]) Y' h':=
 ⟨Y,λ_ q=>.inl (.inl q),w,l',x,o,f,h0,by rw [hl,List.filter_append];simp [hp],ta,hY⟩
end
def tVal:Dm->Value
 | .job i=>.int .i64 i
 | .res i b=>.agg #[.int .i64 i,.bool b]
 | .tick=>.bool true
def tOK(n:Nat):Dm->Prop
 | .job i=>i<n
 | .res i _=>i<n
 | .tick=>True
def Nu(n:Nat):Nat->Dm->Value->GH->Prop:=λ_ m v hm=>v=tVal m/\tOK n m/\hm=λ_=>none
theorem GH.split_none(h:GH):GH.Split h h (λ_=>none) where
 left:=λb p o hb=>⟨p,hb,id⟩
 right:=λb p o hb=>by cases hb
 one:=λ_ _ _ _ hb=>by cases hb
 two:=λ_ _ _ hb _=>by cases hb
section
variable {cj co cd n k:Nat} {ok:Nat->Bool}
theorem Y1(h:k<n):some (HE cj (n-k) k)=some (.send cj (.job k) (HE cj (n-(k+1)) (k+1))):=by
 rw [show n-k=(n-(k+1))+1 by omega];rfl
theorem feed_end(h:n<=k):some (HE cj (n-k) k)=some (.close cj .done):=by rw [show n-k=0 by omega];rfl
theorem UR:∀m k,¬(HE cj m k).isDone
 | 0,_=>id
 | _+1,_=>id
theorem US:∀m,¬(FK cj co cd ok m).isDone
 | 0=>id
 | _+1=>id
theorem Y3{m:Nat}:∀o,¬(UA co cd ok (FK cj co cd ok m) o).isDone
 | none=>id
 | some (.job _)=>id
 | some (.res _ _)=>id
 | some .tick=>id
theorem Re:∀t,¬(ED co cd t).isDone
 | 0=>id
 | _+1=>id
theorem V6{t:Nat}:∀o,¬(MN (ED co cd t) o).isDone
 | none=>id
 | some (.job _)=>id
 | some (.res _ _)=>id
 | some .tick=>Re t
theorem UT:∀m R,¬(FL co ok m R).isDone
 | 0,_=>id
 | _+1,_=>id
theorem X4{c:Prop}[Decidable c]{a b:Co Dm}(ha:¬a.isDone)(hb:¬b.isDone):¬(if c then a else b).isDone:=by split <;> assumption
theorem Y4{m:Nat}{R:List Nat}:∀o,¬(H8 ok R (FL co ok m) o).isDone
 | none=>X4 id id
 | some (.job _)=>id
 | some .tick=>id
 | some (.res _ _)=>X4 (UT _ _) id
theorem UU:∀m,¬(Hu cj co cd n ok m).isDone
 | 0=>id
 | _+1=>id
theorem V7(h:k<3):some (ED co cd (3-k))=some (.recv cd (MN (ED co cd (3-(k+1))))):=by
 rw [show 3-k=(3-(k+1))+1 by omega];rfl
theorem Y5(h:3<=k):some (ED co cd (3-k))=some (.close co .done):=by rw [show 3-k=0 by omega];rfl
theorem Y6(h:k<3):some (Hu cj co cd n ok (3-k))=some (.spawn (FK cj co cd ok (n+1)) (Hu cj co cd n ok (3-(k+1)))):=by
 rw [show 3-k=(3-(k+1))+1 by omega];rfl
theorem crew_end(h:3<=k):some (Hu cj co cd n ok (3-k))=some (.spawn (ED co cd 3) (FL co ok (n+1) (List.range n))):=by rw [show 3-k=0 by omega];rfl
end
def TG(n:Nat)(ok:Nat->Bool)(R:List Nat):List Bool:=(List.range n).map λi=>if i ∈ R then false else ok i
theorem X5(n:Nat)(ok:Nat->Bool)(R:List Nat):(TG n ok R).length=n:=by unfold TG;rw [List.length_map,List.length_range]
theorem Y7(n:Nat)(ok:Nat->Bool):TG n ok (List.range n)=List.replicate n false:=by
 unfold TG;refine List.ext_getElem aD λi h1 h2=>?_
 have:i<n:=by simpa using h1
 simp [this]
theorem isL_put{n i:Nat}{ok:Nat->Bool}{R:List Nat}(hR:R.Nodup):(TG n ok R).set i (ok i)=TG n ok (R.erase i):=by
 unfold TG;refine List.ext_getElem aD λj h1 h2=>?_;rw [List.getElem_set];simp only [List.getElem_map,List.getElem_range,List.Nodup.mem_erase_iff hR];by_cases e:i=j
 ·subst e;simp
 ·rw [if_neg e]
  have:j≠i:=λq=>e q.symm
  simp [this]
theorem X6{n:Nat}{ok:Nat->Bool}{k:Nat}(hk:k<n):(TG n ok []).getD k false=ok k:=by
 unfold TG;rw [List.getD_eq_getElem?_getD,List.getElem?_map,List.getElem?_range hk];simp
def I8(fl:List Sl)(ok:Nat->Bool):Nat->List Sl
 | 0=>[]
 | k+1=>if ok k=true then I8 fl ok k++[fl.getD k Sl.z] else I8 fl ok k
theorem selS_t{fl:List Sl}{ok:Nat->Bool}{k:Nat}(h:ok k=true):I8 fl ok (k+1)=I8 fl ok k++[fl.getD k Sl.z]:=if_pos h
theorem selS_f{fl:List Sl}{ok:Nat->Bool}{k:Nat}(h:ok k=false):I8 fl ok (k+1)=I8 fl ok k:=if_neg (by rw [h];simp)
theorem UV(fl:List Sl)(ok:Nat->Bool):∀k,(I8 fl ok k).length<=k
 | 0=>Nat.le_refl _
 | k+1=>by
  have:=UV fl ok k
  unfold I8;split
  ·rw [List.length_append,List.length_singleton];omega
  ·omega
theorem PM{fl:List Sl}{G:List Int->Bool}:∀k,k<=fl.length->A5 (I8 fl (λi=>G (fl.getD i Sl.z).2) k)=((A5 fl).take k).filter G
 | 0,_=>rfl
 | k+1,h=>by
  have ih:=PM (fl:=fl) (G:=G) k aA;have e:(A5 fl).take (k+1)=(A5 fl).take k++[(fl.getD k Sl.z).2]:=by rw [Dt [] (by rw [CG];omega),FY (l:=fl) aA]
  unfold I8;rw [e,List.filter_append];by_cases q:G (fl.getD k Sl.z).2=true
  ·rw [if_pos q,MS,ih,List.filter_cons_of_pos q];rfl
  ·rw [if_neg q,ih,List.filter_cons_of_neg q,List.filter_nil,List.append_nil]
end Go.Ns
namespace Go.Ns
open Go.Conc
section
variable {P:Program} {M:Type} {F:MM P M} {i i':Option (Co M)} {O:Nat->Value} {ds:List Deferred} {h:GH} {Q:Om M}
theorem trI_ix{c:Code}(e:i=i')(x:Nt F c i' O ds h Q):Nt F c i O ds h Q:=e▸x
theorem I9{ops:Array Oper}{l:List Oper}(e:i=i')(x:GC F ops l i' O ds h Q):GC F ops l i O ds h Q:=e▸x
theorem Y8{c:Code}{Q:Post}(x:Nt F c none O ds h λi e O ds h=>i=none/\Q e O ds h):Tr ⟨F.W,F.fn,F.rd,F.N⟩ c O ds h Q:=by
 intro b k cs L t hb hr hl hs hc;refine x b k cs (λi=>match i with | none=>L | some _=>λ_ _ _ _=>False) t hb hr (λi=>?_) hs λi e σ' ds' h' q t' ht'=>?_
 ·cases i with
  | none=>exact hl
  | some s=>exact ⟨λ_ _ _ x=>x.elim,λ_ _ _ _ x=>x.elim,λ_ _ _ _ _ _ x=>x.elim⟩
 ·obtain ⟨rfl,q⟩:=q;exact hc e σ' ds' h' q t' ht'
theorem trI_end{c:Code}{Q:Post}(x:Tr (F.env none) c O ds h Q):Nt F c none O ds h λi e O ds h=>i=none/\Q e O ds h:=
 Ie (J0 (λ_ _ _ _ q=>⟨rfl,q⟩) x)
variable {dst:Option Nat} {ty:TypeId} {pos:String} {af:Array Edge} {gd:Option (Nat×Bool)}
theorem PN{a x:Operand}{c:Nat}{v:Value}(ha:AR O a=.chan (some c))(hx:AR O x=v)(w:World):(execOp (AR O) ⟨dst,.send a x,ty,pos,af,gd⟩).runT P w #[]=(.ok (.comm #[scase c v (.tuple #[])] true .send) w,#[]):=by
 subst hx;show (Result.ok (Next.comm #[{ chan:=AR O a,send:=some (AR O x),zero:=.tuple #[] }] true .send) w,#[])=_;rw [ha];rfl
theorem run_recv{a:Operand}{c:Nat}{t e:TypeId}{d:ChanDir}{ok:Bool}{z:Value}{inf:TypeInfo}(ht:P.underlying t=some (.chan d e))(hi:P.info? e=some inf)(hz:inf.zero=some z)(ha:AR O a=.chan (some c))(w:World) :
  (execOp (AR O) ⟨dst,.recv t a ok,ty,pos,af,gd⟩).runT P w #[]=(.ok (.comm #[rcase c z] true (.recv ok)) w,#[]):=by
 have h1:(zeroValue e).run P w=.ok z w:=by
  unfold zeroValue typeInfo;simp only [Sem.run_bind,program,hi];simp [Sem.run,hi,hz]
 have h2:(underlying t).run P w=.ok (.chan d e) w:=run_underlying ht w;rw [Sem.runT_eq];unfold execOp;simp [h1,h2,ha,rcase]
theorem MU{a:Operand}{c:Nat}{t e:TypeId}{d:ChanDir}{ok:Bool}{z:Value}(ht:P.underlying t=some (.chan d e))(hz:(P.info? e).map (·.zero)=some (some z))(ha:AR O a=.chan (some c))(w:World) :
  (execOp (AR O) ⟨dst,.recv t a ok,ty,pos,af,gd⟩).runT P w #[]=(.ok (.comm #[rcase c z] true (.recv ok)) w,#[]):=by
 obtain ⟨inf,hi,h2⟩:=Option.map_eq_some_iff.1 hz;exact run_recv ht hi h2 ha w
theorem V8{x:Operand}{f:Fn}{cap:Array Value}{tys:Array TypeId}(hx:AR O x=.func f #[] cap)(w:World):(execOp (AR O) ⟨dst,.go ⟨.value x,#[],tys⟩,ty,pos,af,gd⟩).runT P w #[]=(.ok (.spawn { target:=.fn f cap,args:=#[] }) w,#[]):=by
 have e:resolve (AR O) ⟨.value x,#[],tys⟩ ty=(pure { target:=.fn f cap,args:=#[] }:Sem Deferred):=by
  unfold resolve;simp only [hx,Deferred.ofValue];simp
 unfold execOp;simp only [e];rfl
variable {E:GG P} {T:(Nat->Value)->List Deferred->GH->Prop}
theorem Jn{t e:TypeId}{d:ChanDir}{n:Operand}(ht:P.underlying t=some (.chan d e))(hi0:(P.info? e).isSome=true)(hn:AR O n=.int .i64 0)
  (k:∀r h',h r=none->h.Le h'->h' r=some (true,.chan 0 #[] false 0 0 false)->(∀b,b≠r->h' b=h b)->T (putS O dst (.chan (some r))) ds h'):BV E ⟨dst,.makeChan t n,ty,pos,af,gd⟩ O ds h T:=by
 unfold BV execOp;refine Ft ?_;unfold Instr.makeChan;rw [hn];refine AG _ _ (A1 ?_);refine AG _ _ (Aq ht ?_);simp only [];obtain ⟨inf,hi⟩:=Option.isSome_iff_exists.1 hi0;refine AG _ _ (Cm hi ?_);rw [if_neg (by simp [IntKind.max];decide)];refine AG _ _ ?_;exact λr hr=>k r _ hr (GH.Le.new hr _ _) (GH.set_same _ _ _ _) λb hb=>GH.set_ne _ _ _ hb
end
section
variable {P:Program} {F:MM P Dm} {i i':Option (Co Dm)} {O:Nat->Value} {ds:List Deferred} {h:GH} {Q:Om Dm} {ops:Array Oper} {o:Oper} {l:List Oper} {n:Nat} {cj co cd c m k:Nat} {ok:Nat->Bool} {R:List Nat} {z:Value}
theorem I7.ix{X:Code}{args:Array Value}(e:i=i')(x:I7 F X args i' O h):I7 F X args i O h:=e▸x
theorem HT:GC F ops l (some .never) O ds h Q:=λ_ _ _ _ _ _ _ _ _ _ _ _=>EI.stop rfl
theorem GH.join_none(h:GH):h.join (λ_=>none)=h:=by
 funext b;unfold GH.join;cases h b <;> rfl
theorem UW{s:Dm}{nx:Co Dm}(hR:F.Rep=Nu n)(hg:o.guard=none)(hdf:C1 o.op=false)(hd:Cz o.dst F.N=true)(hr:∀w,(execOp (AR O) o).runT P w #[]=(.ok (.comm #[scase c (tVal s) z] true .send) w,#[]))(hs:tOK n s)(hnx:¬nx.isDone)
  (x:GC F ops l (some nx) (putS O o.dst undef) ds h Q):GC F ops (o ::l) (some (.send c s nx)) O ds h Q:=
 YZ hg hdf hd hr (GH.split_none h) (by rw [hR];exact ⟨rfl,hs,rfl⟩) hnx x
theorem MV{f:Option Dm->Co Dm}{r:Bool}(hR:F.Rep=Nu n)(hg:o.guard=none)(hdf:C1 o.op=false)(hd:Cz o.dst F.N=true)(hr:∀w,(execOp (AR O) o).runT P w #[]=(.ok (.comm #[rcase c z] true (.recv r)) w,#[]))(hnx:∀o,¬(f o).isDone)
  (x:∀s,tOK n s->GC F ops l (some (f (some s))) (putS O o.dst (recvd r (tVal s) true)) ds h Q) (y:GC F ops l (some (f none)) (putS O o.dst (recvd r z false)) ds h Q):GC F ops (o ::l) (some (.recv c f)) O ds h Q:=
 Ya hg hdf hd hr hnx (λs v hm hrep _=>by
  rw [hR] at hrep;obtain ⟨rfl,h2,rfl⟩:=hrep;rw [GH.join_none];exact x s h2) y
theorem UX(hR:F.Rep=Nu n)(hg:o.guard=none)(hdf:C1 o.op=false)(hd:Cz o.dst F.N=true)(hr:∀w,(execOp (AR O) o).runT P w #[]=(.ok (.comm #[rcase cj z] true (.recv true)) w,#[]))
  (x:∀i,i<n->GC F ops l (some (.send co (.res i (ok i)) (FK cj co cd ok m))) (putS O o.dst (.tuple #[.int .i64 i,.bool true])) ds h Q) (y:GC F ops l (some (.send cd .tick .done)) (putS O o.dst (.tuple #[z,.bool false])) ds h Q) :
  GC F ops (o ::l) (some (FK cj co cd ok (m+1))) O ds h Q:=
 MV (f:=UA co cd ok (FK cj co cd ok m)) hR hg hdf hd hr Y3 (λs hs=>by
  cases s with
  | job i=>exact x i hs
  | res i b=>exact HT
  | tick=>exact HT) y
theorem UY(hR:F.Rep=Nu n)(hg:o.guard=none)(hdf:C1 o.op=false)(hd:Cz o.dst F.N=true)(hr:∀w,(execOp (AR O) o).runT P w #[]=(.ok (.comm #[rcase cd z] true (.recv false)) w,#[]))(hk:k<3)
  (x:GC F ops l (some (ED co cd (3-(k+1)))) (putS O o.dst (.bool true)) ds h Q):GC F ops (o ::l) (some (ED co cd (3-k))) O ds h Q:=
 I9 (V7 hk) (MV (f:=MN (ED co cd (3-(k+1)))) hR hg hdf hd hr V6 (λs _=>by
  cases s with
  | job i=>exact HT
  | res i b=>exact HT
  | tick=>exact x) HT)
theorem Y9(hR:F.Rep=Nu n)(hg:o.guard=none)(hdf:C1 o.op=false)(hd:Cz o.dst F.N=true)(hr:∀w,(execOp (AR O) o).runT P w #[]=(.ok (.comm #[rcase co z] true (.recv true)) w,#[]))
  (x:∀i,i<n->i ∈ R->GC F ops l (some (FL co ok m (R.erase i))) (putS O o.dst (.tuple #[.agg #[.int .i64 i,.bool (ok i)],.bool true])) ds h Q) (y:R=[]->GC F ops l (some .stop) (putS O o.dst (.tuple #[z,.bool false])) ds h Q) :
  GC F ops (o ::l) (some (FL co ok (m+1) R)) O ds h Q:=
 MV (f:=H8 ok R (FL co ok m)) hR hg hdf hd hr Y4 (λs hs=>by
  cases s with
  | job i=>exact HT
  | tick=>exact HT
  | res i b=>
   by_cases e:i ∈ R/\b=ok i
   ·obtain ⟨e1,rfl⟩:=e;exact I9 (show some (H8 ok R (FL co ok m) (some (.res i (ok i))))=some (FL co ok m (R.erase i)) by unfold H8;simp [e1]) (x i hs e1)
   ·exact I9 (show some (H8 ok R (FL co ok m) (some (.res i b)))=some .never by show some (if i ∈ R/\b=ok i then _ else _)=_;rw [if_neg e]) HT) (by
  by_cases e:R=[]
  ·exact I9 (show some (H8 ok R (FL co ok m) none)=some .stop by unfold H8;rw [if_pos e]) (y e)
  ·exact I9 (show some (H8 ok R (FL co ok m) none)=some .never by unfold H8;rw [if_neg e]) HT)
end
theorem Aw.flags{h h':GH}{js:List AQ}(s:h.Same h')(x:Aw h js):Aw h' js:=λk=>(x k).flags s
theorem AY.flags{h h':GH}{ns:List AM}(s:h.Same h')(x:AY h ns):AY h' ns:=λk=>(x k).flags s
theorem HD.flags{h h':GH}{l:List Sl}(s:h.Same h')(a:HD h l):HD h' l:=λk=>(a k).flags s
theorem EE.flags{h h':GH}{r np:Nat}{ws:List AH}{pq:List AI}(s:h.Same h')(x:EE h r np ws pq):EE h' r np ws pq:=by
 obtain ⟨pm,M,⟨es,clk,hb,hl⟩,hM⟩:=x;obtain ⟨p',hb'⟩:=s _ _ _ hb;exact ⟨p',M,⟨es,clk,hb',hl⟩,hM⟩
theorem tr_lays5{P:Program}{E:GG P}{id:Nat}{a0 a1 a2 a3 a4:Oper}{rest:List Oper}{d0 d1 d2 d3:Nat}{O:Nat->Value}{ds:List Deferred}{h:GH}{Q:Post}(o0 o1 o2 o3:Obj)(o4:Nat->Obj)(v0 v1 v2 v3:Nat->Value)(hm:P.follows .mixedOrders=true)
  (ok:Fv E.N (a0 ::a1 ::a2 ::a3 ::a4 ::rest) 5 [[],[],[],[],[0,2,3]]=true)
  (g0:a0.guard=none) (g1:a1.guard=none) (g2:a2.guard=none) (g3:a3.guard=none) (g4:a4.guard=none) (e0:a0.dst=some d0) (e1:a1.dst=some d1) (e2:a2.dst=some d2) (e3:a3.dst=some d3)
  (l0:∀σ' h',BV E a0 σ' ds h' λσ'' ds'' h''=>ds''=ds/\∃r,σ''=putS σ' a0.dst (v0 r)/\h' r=none/\h'.Le h''/\h'' r=some (true,o0)) (l1:∀σ' h',BV E a1 σ' ds h' λσ'' ds'' h''=>ds''=ds/\∃r,σ''=putS σ' a1.dst (v1 r)/\h' r=none/\h'.Le h''/\h'' r=some (true,o1))
  (l2:∀σ' h',BV E a2 σ' ds h' λσ'' ds'' h''=>ds''=ds/\∃r,σ''=putS σ' a2.dst (v2 r)/\h' r=none/\h'.Le h''/\h'' r=some (true,o2)) (l3:∀σ' h',BV E a3 σ' ds h' λσ'' ds'' h''=>ds''=ds/\∃r,σ''=putS σ' a3.dst (v3 r)/\h' r=none/\h'.Le h''/\h'' r=some (true,o3))
  (l4:∀r0 r2 σ' h',σ' d0=v0 r0->σ' d2=v2 r2->h' r2=some (true,o2)->BV E a4 σ' ds h' λσ'' ds'' h''=>ds''=ds/\σ''=σ'/\h'' r2=some (true,o4 r0)/\∀b,b≠r2->h'' b=h' b)
  (fin:∀(r0 r1 r2 r3:Nat) σ' h',h.Le h'->(h r0=none/\h' r0=some (true,o0)/\σ' d0=v0 r0)->(h r1=none/\h' r1=some (true,o1)/\σ' d1=v1 r1)->(h r2=none/\h' r2=some (true,o4 r0)/\σ' d2=v2 r2)->(h r3=none/\h' r3=some (true,o3)/\σ' d3=v3 r3)->
   (r0≠r1/\r0≠r2/\r0≠r3/\r1≠r2/\r1≠r3/\r2≠r3)->(∀t,(DY (a0 ::a1 ::a2 ::a3 ::a4 ::rest) 5).contains t=false->σ' t=O t)->DJ E (a0 ::a1 ::a2 ::a3 ::a4 ::rest).toArray rest σ' ds h' Q):Tr E (.region id (a0 ::a1 ::a2 ::a3 ::a4 ::rest).toArray true) O ds h Q:=by
 let l:=a0 ::a1 ::a2 ::a3 ::a4 ::rest;let obj:Nat->Obj:=λi=>match i with | 0=>o0 | 1=>o1 | 2=>o2 | _=>o3
 let val:Nat->Nat->Value:=λi=>match i with | 0=>v0 | 1=>v1 | 2=>v2 | _=>v3
 have lay:∀i o,i<4->l[i]? =some o->∀σ' h',BV E o σ' ds h' λσ'' ds'' h''=>ds''=ds/\∃r,σ''=putS σ' o.dst (val i r)/\h' r=none/\h'.Le h''/\h'' r=some (true,obj i):=by
  intro i o hi ho σ' h';rcases i with _ | _ | _ | _ | i
  ·cases ho;exact l0 σ' h'
  ·cases ho;exact l1 σ' h'
  ·cases ho;exact l2 σ' h'
  ·cases ho;exact l3 σ' h'
  ·omega
 have nd:(DY l 5).Nodup:=by
  have:=ok
  unfold Fv at this;simp only [Bool.and_eq_true] at this;exact of_decide_eq_true this.1.2
 refine To 5 [[],[],[],[],[0,2,3]] (λD σ' h'=>h.Le h'/\(D 4=true->D 0=true/\D 2=true)/\∃rs:Nat->Nat,(∀i,i<4->D i=true->h (rs i)=none/\h' (rs i)=some (true,if i=2/\D 4=true then o4 (rs 0) else obj i)/\∀o d,l[i]? =some o->o.dst=some d->σ' d=val i (rs i))/\
  (∀i j,i<4->j<4->D i=true->D j=true->i≠j->rs i≠rs j)/\∀t,(DY l 5).contains t=false->σ' t=O t) hm ok ⟨GH.Le.refl _,(λe=>by cases e),λ_=>0,(λ_ _ q=>by cases q),(λ_ _ _ _ q=>by cases q),λ_ _=>rfl⟩ ?_ ?_
 ·rintro D σ' h' i o ⟨l1',hD4,rs,h1,h2,h3⟩ hi hD ho hcl _;have hgd:o.guard=none:=by
   rcases i with _ | _ | _ | _ | _ | i
   ·cases ho;exact g0
   ·cases ho;exact g1
   ·cases ho;exact g2
   ·cases ho;exact g3
   ·cases ho;exact g4
   ·omega
  refine ⟨λ_=>?_,λq=>absurd (by unfold DK;rw [hgd];trivial) q⟩;by_cases hi4:i=4
  ·subst hi4;have c0:D 0=true:=hcl 0 aD;have c2:D 2=true:=hcl 2 aD;cases ho;obtain ⟨q1,q2,q3⟩:=h1 0 aC c0;obtain ⟨p1,p2,p3⟩:=h1 2 aC c2;rw [if_neg (λe=>by rw [hD] at e;cases e.2)] at p2;refine (l4 (rs 0) (rs 2) σ' h' (q3 a0 d0 rfl e0) (p3 a2 d2 rfl e2) p2).mono λσ'' ds'' h'' q=>?_;obtain ⟨rfl,rfl,k1,k2⟩:=q;refine ⟨rfl,λb p x hb=>?_,λ_=>⟨by rw [Bh aC];exact c0,by rw [Bh aC];exact c2⟩,rs,λj hj hDj=>?_,λa b ha hb hDa hDb hab=>?_,h3⟩
   ·rw [k2 b λe=>by subst e;rw [p1] at hb;cases hb];exact l1' b p x hb
   ·rw [Bh aA] at hDj;obtain ⟨u1,u2,u3⟩:=h1 j hj hDj;refine ⟨u1,?_,u3⟩;by_cases ej:j=2
    ·subst ej;rw [if_pos ⟨rfl,if_pos rfl⟩];exact k1
    ·rw [if_neg (λe=>ej e.1),k2 _ (h2 j 2 hj aC hDj c2 ej)];rw [if_neg (λe=>ej e.1)] at u2;exact u2
   ·rw [Bh aA] at hDa hDb;exact h2 a b ha hb hDa hDb hab
  ·have hi':i<4:=aA
   refine (lay i o hi' ho σ' h').mono λσ'' ds'' h'' q=>?_;obtain ⟨rfl,r,rfl,hr,l2',hr2⟩:=q;have h4e:G6 D i 4=D 4:=Bh (λe=>hi4 e.symm);have hne:∀j,j<4->D j=true->rs j≠r:=λj hj hDj e=>by
    have:=(h1 j hj hDj).2.1
    rw [e,hr] at this;cases this
   refine ⟨rfl,l1'.trans l2',λe=>?_,λj=>if j=i then r else rs j,λj hj hDj=>?_,λa b ha hb hDa hDb hab=>?_,λt ht=>?_⟩
   ·rw [h4e] at e;obtain ⟨c0,c2⟩:=hD4 e;exact ⟨by rw [Bh (λq=>by subst q;rw [hD] at c0;cases c0)];exact c0,by rw [Bh (λq=>by subst q;rw [hD] at c2;cases c2)];exact c2⟩
   ·by_cases e:j=i
    ·subst e;dsimp only;rw [if_pos rfl];refine ⟨l1'.nothing hr,?_,λo' d ho' hd=>?_⟩
     ·rw [if_neg (λe=>by have e2:=e.2;rw [h4e] at e2;have e3:=(hD4 e2).2;rw [<-e.1,hD] at e3;cases e3)];exact hr2
     ·obtain rfl:o'=o:=Option.some.inj (ho'.symm.trans ho);rw [hd];exact upd_same _ _ _
    ·dsimp only;rw [if_neg e];rw [Bh e] at hDj;obtain ⟨q1,q2,q3⟩:=h1 j hj hDj;refine ⟨q1,?_,λo' d ho' hd=>by rw [Cv λd' hd'=>D0 nd hi (aA:j<5) (λq=>e q.symm) ho ho' hd' hd];exact q3 o' d ho' hd⟩;rw [h4e];by_cases hc:j=2/\D 4=true
     ·rw [if_pos hc] at q2 ⊢;rw [if_neg (λq=>by have c0:=(hD4 hc.2).1;rw [q,hD] at c0;cases c0)];exact l2'.keep q2 rfl
     ·rw [if_neg hc] at q2 ⊢;exact l2'.keep q2 rfl
   ·show (if a=i then r else rs a)≠(if b=i then r else rs b);by_cases ea:a=i
    ·by_cases eb:b=i
     ·exact absurd (ea.trans eb.symm) hab
     ·rw [if_pos ea,if_neg eb];rw [Bh eb] at hDb;exact (hne b hb hDb).symm
    ·rw [Bh ea] at hDa;by_cases eb:b=i
     ·rw [if_neg ea,if_pos eb];exact hne a ha hDa
     ·rw [if_neg ea,if_neg eb];rw [Bh eb] at hDb;exact h2 a b ha hb hDa hDb hab
   ·rw [Cv (HK hi ho ht)];exact h3 t ht
 ·rintro D σ' h' ⟨l1',hD4,rs,h1,h2,h3⟩ hall;have A:∀i,i<5->D i=true:=hall;have f0:=h1 0 aC (A 0 aC);have f1:=h1 1 aC (A 1 aC);have f2:=h1 2 aC (A 2 aC);have f3:=h1 3 aC (A 3 aC);rw [if_neg (λe=>by have:=e.1;omega)] at f0;rw [if_neg (λe=>by have:=e.1;omega)] at f1;rw [if_pos ⟨rfl,A 4 aC⟩] at f2;rw [if_neg (λe=>by have:=e.1;omega)] at f3;have ne:=λi j (hi:i<4) (hj:j<4)=>h2 i j hi hj (A i aA) (A j aA);exact fin (rs 0) (rs 1) (rs 2) (rs 3) σ' h' l1' ⟨f0.1,f0.2.1,f0.2.2 a0 d0 rfl e0⟩ ⟨f1.1,f1.2.1,f1.2.2 a1 d1 rfl e1⟩ ⟨f2.1,f2.2.1,f2.2.2 a2 d2 rfl e2⟩ ⟨f3.1,f3.2.1,f3.2.2 a3 d3 rfl e3⟩
   ⟨ne 0 1 aC aC aC,ne 0 2 aC aC aC,ne 0 3 aC aC aC,ne 1 2 aC aC aC,ne 1 3 aC aC aC,ne 2 3 aC aC aC⟩ h3
section
variable {h h' h0:GH} {r:Nat}
theorem GH.cut_ne{b:Nat}(e:b≠r):h.cut r b=h b:=if_neg e
theorem GH.Le.cut(l:h0.Le h)(n:h0 r=none):h0.Le (h.cut r):=λb p o hb=>by
 rw [GH.cut_ne λe=>by subst e;rw [n] at hb;cases hb];exact l b p o hb
theorem AU.cut{V:Type}{v:Value}{t:TypeId}{n:Nat}{enc:V->Array Value}{xs:List V}(x:AU h0 h v t n enc xs)(f:BI v r):AU h0 (h.cut r) v t n enc xs:=
 x.keep λb o hb ho=>by rw [GH.cut_ne λe=>by subst e;exact f hb];exact ho
theorem AU.del'{V:Type}{v:Value}{t:TypeId}{n:Nat}{enc:V->Array Value}{xs:List V}(x:AU h0 h v t n enc xs)(f:BI v r):AU h0 (h.del r) v t n enc xs:=
 x.keep λb o hb ho=>by rw [GH.del_ne λe=>by subst e;exact f hb];exact ho
theorem Dr.keep3{X:Nat->Prop}{t0 T t:TypeId}{n l:Nat}{w v:Value}{p q:Bool}{c:Array Value}{f:Nat×Nat}{lo:Loop}{ys:List Sl}{hB:GH}{ys':List Int}(x:Dr h t0 v ys')(k:Bb X h h')(hX:∀b,X b->(b=r\/Ca w=some b)\/b=l)(hr:h r=some (p,.cells c T f))(ow:AU hB h w t n JQ ys)(hl:h l=some (q,.loop lo))(n1:T≠t0)(n2:t≠t0):Dr h' t0 v ys':=
 x.keepX k λb hb q2=>by
  obtain ⟨p2,c2,f2,e⟩:=x.2 b hb;rcases hX b q2 with (rfl | q3) | rfl
  ·rw [hr] at e;cases e;exact n1 rfl
  ·rcases ow with ⟨rfl,_⟩ | ⟨b1,cap,c1,rfl,_,h2,_⟩
   ·cases q3
   ·simp only [Ca,Option.some.injEq] at q3;subst q3;rw [h2] at e;cases e;exact n2 rfl
  ·rw [hl] at e;cases e
theorem Bb.mono{X Y:Nat->Prop}(k:Bb X h h')(s:∀b,X b->Y b):Bb Y h h':=λb p o hb hn=>k b p o hb λx=>hn (s b x)
end
theorem ZA{n:Nat}{fl:List Sl}(h:A5 fl=DP (Cs n))(hn:n<=4)(i:Nat):TF n (fl.getD i Sl.z).2:=by
 by_cases hi:i<fl.length
 ·refine Jl (λx hx=>PJ hx) (by rw [DG];exact hn) (r:=(fl.getD i Sl.z).2) ?_;rw [<-h,<-FY hi];exact Bl (by rw [CG];exact hi)
 ·rw [CP aA];exact ⟨λk hk=>absurd hk (Nat.not_lt_zero _),Nat.zero_le _⟩
theorem Dr.storeD{h h':GH}{t:TypeId}{v:Value}{xs:List Int}{r:Nat}{p:Bool}{q:Option (List Deferred)}(x:Dr h t v xs)(hr:h r=some (p,.deferred q))(ho:∀b,b≠r->h' b=h b):Dr h' t v xs:=
 x.same λb hb=>ho b λe=>by
  obtain ⟨p2,c2,f2,z⟩:=x.2 b hb;rw [e,hr] at z;cases z
theorem B2.storeD{h h':GH}{t:TypeId}{l:List Sl}{r:Nat}{p:Bool}{q:Option (List Deferred)}(x:B2 h t l)(hr:h r=some (p,.deferred q))(ho:∀b,b≠r->h' b=h b):B2 h' t l:=λk=>
 (x k).same λb hb=>ho b λe=>by
  obtain ⟨p2,c2,f2,z⟩:=(x k).2 b hb;rw [e,hr] at z;cases z
theorem selS_all{fl:List Sl}{G:List Int->Bool}{all:List (List Int)}{k:Nat}(h:A5 fl=all)(h1:k<=fl.length)(h2:fl.length<=k):A5 (I8 fl (λi=>G (fl.getD i Sl.z).2) k)=all.filter G:=by
 rw [PM k h1,List.take_of_length_le (by rw [CG];exact h2),h]
theorem B2.sel{h:GH}{t:TypeId}{fl:List Sl}{ok:Nat->Bool}{k:Nat}(a:B2 h t fl):B2 h t (I8 fl ok k):=by
 induction k with
 | zero=>exact B2.nil h t
 | succ k ih=>
  unfold I8;split
  ·exact B2.app ih (B2.one (a k))
  ·exact ih
end Go.Ns
namespace Go.Ns
theorem TH{P:Program}{O:Nat->Value}{h:GH}{fn:Func}{R:Value->GH->Prop}{a u s:Tmp}{t:TypeId}{b off:Nat}{v v' v2:Value}(hr:fn.results=#[.tmp u,.cell a t,.tmp s])(hv:O u=v)(ha:O a=.pointer (some ⟨b,off,none⟩))(hv':Rd P h t b off v')(hv2:O s=v2)(x:R (.tuple #[v,v',v2]) h):GI P fn O R [] h:=by
 unfold GI;rw [hr];subst hv;subst hv2;exact ⟨b,off,v',ha,hv',x⟩
section
variable (np:Nat) (ws:List AH) (js:List AQ) (pq:List AI) (bag kinds:Int)
def Hy:List (List Int):=(DP (Cs js.length)).filter (λq=>CL np ws js pq q bag kinds)
end
def N7(g:List (List Int))(x:List Int):List (List Int):=if 0<g.length/\(g.getD 0 []).length<x.length then [] else g
def N8(g:List (List Int))(x:List Int):List (List Int):=if g.length=0\/x.length=(g.getD 0 []).length then g++[x] else g
def UZ(g:List (List Int))(x:List Int):List (List Int):=N8 (N7 g x) x
def TJ(l:List (List Int)):Nat->List (List Int)
 | 0=>[]
 | k+1=>UZ (TJ l k) (l.getD k [])
def Gv(g:List Sl)(x:Sl):List Sl:=if 0<g.length/\(g.getD 0 Sl.z).2.length<x.2.length then [] else g
def Hz(g:List Sl)(x:Sl):List Sl:=if g.length=0\/x.2.length=(g.getD 0 Sl.z).2.length then g++[x] else g
def C7(g:List Sl)(x:Sl):List Sl:=Hz (Gv g x) x
def BG(l:List Sl):Nat->List Sl
 | 0=>[]
 | k+1=>C7 (BG l k) (l.getD k Sl.z)
section
variable {l g:List Sl} {x:Sl} {k:Nat}
theorem PO(h0:0<g.length)(h1:(g.getD 0 Sl.z).2.length<x.2.length):C7 g x=[x]:=by
 unfold C7 Gv;rw [if_pos ⟨h0,h1⟩];rfl
theorem PP(h0:0<g.length)(h1:x.2.length=(g.getD 0 Sl.z).2.length):C7 g x=g++[x]:=by
 unfold C7 Gv;rw [if_neg (λe=>by have:=e.2;omega)];unfold Hz;rw [if_pos (.inr h1)]
theorem PQ(h0:0<g.length)(h1:x.2.length<(g.getD 0 Sl.z).2.length):C7 g x=g:=by
 unfold C7 Gv;rw [if_neg (λe=>by have:=e.2;omega)];unfold Hz;rw [if_neg];rintro (e | e) <;> omega
theorem PR(h0:g.length=0):C7 g x=g++[x]:=by
 unfold C7 Gv;rw [if_neg (λe=>by have:=e.1;omega)];unfold Hz;rw [if_pos (.inl h0)]
theorem goodS_a(h0:0<(BG l k).length)(h1:((BG l k).getD 0 Sl.z).2.length<(l.getD k Sl.z).2.length):BG l (k+1)=[l.getD k Sl.z]:=PO h0 h1
theorem goodS_b(h0:0<(BG l k).length)(h1:(l.getD k Sl.z).2.length=((BG l k).getD 0 Sl.z).2.length):BG l (k+1)=BG l k++[l.getD k Sl.z]:=PP h0 h1
theorem goodS_c(h0:0<(BG l k).length)(h1:¬((BG l k).getD 0 Sl.z).2.length<(l.getD k Sl.z).2.length)(h2:¬(l.getD k Sl.z).2.length=((BG l k).getD 0 Sl.z).2.length):BG l (k+1)=BG l k:=PQ h0 aA
theorem goodS_d(h0:(BG l k).length=0):BG l (k+1)=BG l k++[l.getD k Sl.z]:=PR h0
theorem goodS_t(h1:¬(0<(BG l k).length/\((BG l k).getD 0 Sl.z).2.length<(l.getD k Sl.z).2.length))(h2:(BG l k).length=0\/(l.getD k Sl.z).2.length=((BG l k).getD 0 Sl.z).2.length):BG l (k+1)=BG l k++[l.getD k Sl.z]:=by
 by_cases h0:(BG l k).length=0
 ·exact goodS_d h0
 ·exact goodS_b aA aA
theorem goodS_f(h1:¬(0<(BG l k).length/\((BG l k).getD 0 Sl.z).2.length<(l.getD k Sl.z).2.length))(h2:¬((BG l k).length=0\/(l.getD k Sl.z).2.length=((BG l k).getD 0 Sl.z).2.length)):BG l (k+1)=BG l k:=goodS_c aA aA aA
theorem H0(g:List Sl)(x:Sl):C7 g x=[x]\/C7 g x=g++[x]\/(C7 g x=g/\0<g.length):=by
 by_cases h0:g.length=0
 ·exact .inr (.inl (PR h0))
 ·by_cases h1:(g.getD 0 Sl.z).2.length<x.2.length
  ·exact .inl (PO aA h1)
  ·by_cases h2:x.2.length=(g.getD 0 Sl.z).2.length
   ·exact .inr (.inl (PP aA h2))
   ·exact .inr (.inr ⟨PQ aA aA,aA⟩)
theorem ZB:∀k,0<k->0<(BG l k).length
 | k+1,_=>by
  show 0<(C7 (BG l k) (l.getD k Sl.z)).length;rcases H0 (BG l k) (l.getD k Sl.z) with e | e | ⟨e,h⟩ <;> rw [e]
  ·exact Nat.zero_lt_one
  ·rw [List.length_append];exact Nat.succ_pos _
  ·exact h
theorem Rf:∀k,(BG l k).length<=k
 | 0=>Nat.le_refl _
 | k+1=>by
  have ih:=Rf k;show (C7 (BG l k) (l.getD k Sl.z)).length<=_;rcases H0 (BG l k) (l.getD k Sl.z) with e | e | ⟨e,_⟩ <;> rw [e]
  ·simp
  ·rw [List.length_append,List.length_singleton];omega
  ·omega
theorem MW:∀k,k<=l.length->∀y ∈ BG l k,y ∈ l
 | 0,_,y,hy=>by cases hy
 | k+1,hk,y,hy=>by
  have ih:=MW k aA;have hx:l.getD k Sl.z ∈ l:=Bl aA;change y ∈ C7 (BG l k) (l.getD k Sl.z) at hy;rcases H0 (BG l k) (l.getD k Sl.z) with e | e | ⟨e,_⟩ <;> rw [e] at hy
  ·rw [List.mem_singleton.1 hy];exact hx
  ·rcases List.mem_append.1 hy with hy | hy
   ·exact ih y hy
   ·rw [List.mem_singleton.1 hy];exact hx
  ·exact ih y hy
theorem NW:∀k,k<=l.length->A5 (BG l k)=TJ (A5 l) k
 | 0,_=>rfl
 | k+1,hk=>by
  have ih:=NW k aA;have hg:∀g:List Sl,(g.getD 0 Sl.z).2=(A5 g).getD 0 []:=λg=>by cases g <;> rfl
  show A5 (C7 (BG l k) (l.getD k Sl.z))=UZ (TJ (A5 l) k) ((A5 l).getD k []);rw [<-ih,FY aA];have hc:A5 (Gv (BG l k) (l.getD k Sl.z))=N7 (A5 (BG l k)) (l.getD k Sl.z).2:=by
   unfold Gv N7;rw [hg,CG];split <;> rfl
  have ha:∀g:List Sl,A5 (Hz g (l.getD k Sl.z))=N8 (A5 g) (l.getD k Sl.z).2:=λg=>by
   unfold Hz N8;rw [hg,CG];split
   ·rw [MS];rfl
   ·rfl
  show A5 (Hz (Gv (BG l k) (l.getD k Sl.z)) (l.getD k Sl.z))=N8 (N7 (A5 (BG l k)) _) _;rw [ha,hc]
end
theorem B2.good{h:GH}{t:TypeId}{l:List Sl}{k:Nat}(a:B2 h t l)(hk:k<=l.length):B2 h t (BG l k):=.of λx hx=>a.at (MW k hk x hx)
section
variable {np:Nat} {ws:List AH} {js:List AQ} {pq:List AI} {bag kinds:Int} {fs:List Sl}
theorem X7(h:A5 fs=Hy np ws js pq bag kinds)(hn:js.length<=4):∀x ∈ fs,TF js.length x.2:=λx hx=>by
 have:x.2 ∈ A5 fs:=List.mem_map_of_mem hx
 rw [h] at this;exact Jl (λy hy=>PJ hy) (by rw [DG];exact hn) (List.mem_filter.1 this).1
theorem Ua(h:A5 fs=Hy np ws js pq bag kinds)(hn:js.length<=4)(i:Nat):TF js.length (fs.getD i Sl.z).2:=by
 by_cases hi:i<fs.length
 ·exact X7 h hn _ (Bl hi)
 ·rw [CP aA];exact ⟨λk hk=>absurd hk (Nat.not_lt_zero _),Nat.zero_le _⟩
theorem safe_nil(hb:0<=bag):CL np ws js pq [] bag kinds=true:=by
 unfold CL;have e:(DF kinds js []).sum=0:=by
  show (List.replicate kinds.toNat (0:Int)).sum=0;generalize kinds.toNat=n
  induction n with
  | zero=>rfl
  | succ n ih=>rw [List.replicate_succ,List.sum_cons,ih];rfl
 rw [e,decide_eq_true hb];rfl
theorem V9(hb:0<=bag):0<(Hy np ws js pq bag kinds).length:=by
 refine List.length_pos_of_mem (a:=[]) (List.mem_filter.2 ⟨?_,safe_nil hb⟩);unfold DP;rw [FN];exact List.mem_cons_self
theorem PS(hn:js.length<=4):(Hy np ws js pq bag kinds).length<=625:=
 Nat.le_trans (List.length_filter_le _ _) (HR (by rw [DG];exact hn))
theorem Rh{G:List Int->Int}:∀(l:List (List Int)),0<l.length->∀k,k<=l.length-1->(DA G l k).1 ∈ l
 | l,h,0,_=>Bl h
 | l,h,k+1,hk=>by
  unfold DA;split
  ·exact List.mem_of_mem_drop (Bl (by rw [List.length_drop];omega))
  ·exact Rh l h k aA
theorem Lk{n:Nat}{G:List Int->Int}{l:List Sl}(h:∀x ∈ l,TF n x.2)(hl:0<l.length):TF n (Cu G (A5 l)):=by
 have:=Rh (G:=G) (A5 l) (by rw [CG];exact hl) ((A5 l).length-1) (Nat.le_refl _)
 obtain ⟨x,hx,e⟩:=List.mem_map.1 this;unfold Cu;rw [<-e];exact h x hx
end
section
variable (bag kinds:Int) (ps:List ByteArray) (ws:List AH) (js:List AQ) (ns:List AM)
def WA:List Int:=Cu (λl=>Al (λx=>AF ps.length ws js x l) (AA ws js ns)) (TJ (Hy ps.length ws js (AA ws js ns) bag kinds) (Hy ps.length ws js (AA ws js ns) bag kinds).length)
def Kc:List Int:=if¬AE bag kinds ps ws js ns 0=0 then [] else WA bag kinds ps ws js ns
end
section
variable {bag kinds:Int} {ps:List ByteArray} {ws:List AH} {js:List AQ} {ns:List AM} {fs:List Sl} {k:Nat}
theorem best_end(h:A5 fs=Hy ps.length ws js (AA ws js ns) bag kinds)(h1:k<=fs.length)(h2:fs.length<=k):WA bag kinds ps ws js ns=Cu (λl=>Al (λx=>AF ps.length ws js x l) (AA ws js ns)) (A5 (BG fs k)):=by
 unfold WA;rw [NW k h1,h,<-h,CG,show fs.length=k by omega]
theorem Ub(h0:¬¬AE bag kinds ps ws js ns 0=0)(h:A5 fs=Hy ps.length ws js (AA ws js ns) bag kinds)(h1:k<=fs.length)(h2:fs.length<=k):Kc bag kinds ps ws js ns=Cu (λl=>Al (λx=>AF ps.length ws js x l) (AA ws js ns)) (A5 (BG fs k)):=(if_neg h0).trans (best_end h h1 h2)
end
def TK(c:Hv)(l:List Int):Nat->Hv
 | 0=>c
 | i+1=>(TK c l i).set (l.getD i 0).toNat true
def GU(ls:List (List Int)):Nat->Hv
 | 0=>Hv.none
 | k+1=>TK (GU ls k) (ls.getD k []) (ls.getD k []).length
def Ep(c:Hv):Nat->List Int
 | 0=>[]
 | q+1=>if c q=true then Ep c q else Ep c q++[(q:Int)]
theorem neverL_t{c:Hv}{q:Nat}(h:c q=true):Ep c (q+1)=Ep c q:=if_pos h
theorem neverL_f{c:Hv}{q:Nat}(h:c q=false):Ep c (q+1)=Ep c q++[(q:Int)]:=if_neg (by rw [h];simp)
theorem PT(c:Hv):∀q,(Ep c q).length<=q
 | 0=>Nat.le_refl _
 | q+1=>by
  have:=PT c q
  unfold Ep;split
  ·omega
  ·rw [List.length_append,List.length_singleton];omega
section
variable (bag kinds:Int) (ps:List ByteArray) (ws:List AH) (js:List AQ) (ns:List AM)
def MX:List Int:=if¬AE bag kinds ps ws js ns 0=0 then [] else Ep (GU (Hy ps.length ws js (AA ws js ns) bag kinds) (Hy ps.length ws js (AA ws js ns) bag kinds).length) js.length
end
section
variable {bag kinds:Int} {ps:List ByteArray} {ws:List AH} {js:List AQ} {ns:List AM} {fs:List Sl} {k q:Nat}
theorem ZC{i:Nat}(hk:k<fs.length)(h1:i<=(fs.getD k Sl.z).2.length)(h2:(fs.getD k Sl.z).2.length<=i):GU (A5 fs) (k+1)=TK (GU (A5 fs) k) (fs.getD k Sl.z).2 i:=by
 unfold GU;rw [FY hk,show (fs.getD k Sl.z).2.length=i by omega];cases k <;> rfl
theorem ZD(h0:¬¬AE bag kinds ps ws js ns 0=0)(h:A5 fs=Hy ps.length ws js (AA ws js ns) bag kinds)(h1:k<=fs.length)(h2:fs.length<=k)(h3:q<=js.length)(h4:js.length<=q):MX bag kinds ps ws js ns=Ep (GU (A5 fs) k) q:=
 (if_neg h0).trans (by rw [<-h,CG,show fs.length=k by omega,show js.length=q by omega])
end
end Go.Ns
namespace Go.Ns
theorem Uc{nj:Nat}{l:List Int}(h:Ah nj l=0):l.Nodup:=by
 rw [List.nodup_iff_pairwise_ne];rw [List.pairwise_iff_getElem];intro i j hi hj hij e;have h1:=DO h j (Nat.zero_le _) aA;unfold EA at h1;split at h1
 ·rename_i a;exact a h1
 ·split at h1
  ·cases h1
  ·rename_i a
   refine a (List.any_eq_true.2 ⟨l[i],List.mem_take_iff_getElem.2 ⟨i,aA,rfl⟩,?_⟩);rw [List.getD_eq_getElem?_getD,List.getElem?_eq_getElem hj];exact decide_eq_true e.symm
theorem NX{jobs:List Int}(nd:jobs.Nodup):∀(rest done:List Int),jobs=done++rest->jobs ∈ BK jobs rest.length done
 | [],done,e=>by rw [e,List.append_nil];exact List.mem_singleton.2 rfl
 | k ::rest,done,e=>by
  have ih:=NX nd rest (done++[k]) (by rw [e];simp);show jobs ∈ done ::jobs.flatMap _;refine List.mem_cons_of_mem _ (List.mem_flatMap.2 ⟨k,by rw [e];simp,?_⟩);have hn:HQ done k=false:=by
   cases hh:HQ done k with
   | false=>rfl
   | true=>
    exfalso;obtain ⟨x,hx,hk⟩:=List.any_eq_true.1 hh;have hk':k=x:=of_decide_eq_true hk;rw [e,List.nodup_append] at nd;exact nd.2.2 x hx k List.mem_cons_self hk'.symm
  rw [if_neg (by rw [hn];simp)];exact ih
def Ll(jobs:List Int)(n:Nat):List (List Int):=(DP jobs).filter λq=>decide (q.length=n)
theorem Ri{l:List Int}(nd:l.Nodup):0<(Ll (B6 l) l.length).length:=by
 have hs:(B6 l).Nodup:=by rw [Hs];exact (List.mergeSort_perm l _).nodup_iff.2 nd
 have:=NX hs (B6 l) [] rfl
 exact List.length_pos_of_mem (List.mem_filter.2 ⟨this,decide_eq_true (De l)⟩)
section
variable (bag kinds:Int) (ps:List ByteArray) (ws:List AH) (js:List AQ) (ns:List AM) (l:List Int)
def swiftL:List Int:=Cu (λl=>Al (λx=>AF ps.length ws js x l) (AA ws js ns)) (Ll (B6 l) l.length)
def AV:List Int:=if¬AE bag kinds ps ws js ns (Ah js.length l)=0 then [] else swiftL ps ws js ns l
end
section
variable {bag kinds:Int} {ps:List ByteArray} {ws:List AH} {js:List AQ} {ns:List AM} {l:List Int} {fl:List Sl} {nj:Nat}
theorem Rj(h0:¬¬AE bag kinds ps ws js ns (Ah js.length l)=0)(h:A5 fl=Ll (B6 l) l.length):AV bag kinds ps ws js ns l=Cu (λl=>Al (λx=>AF ps.length ws js x l) (AA ws js ns)) (A5 fl):=(if_neg h0).trans (by unfold swiftL;rw [h])
theorem full_ok(h:A5 fl=Ll (B6 l) l.length)(hr:∀k,k<l.length->0<=l.getD k 0/\l.getD k 0<nj)(h4:l.length<=4):∀x ∈ fl,TF nj x.2:=λx hx=>by
 have:x.2 ∈ A5 fl:=List.mem_map_of_mem hx
 rw [h] at this;refine Jl (λy hy=>?_) (by rw [De];exact h4) (List.mem_filter.1 this).1;rw [Hs,List.mem_mergeSort] at hy;obtain ⟨i,hi,e⟩:=List.mem_iff_getElem.1 hy
 have:=hr i hi
 rw [List.getD_eq_getElem?_getD,List.getElem?_eq_getElem hi,Option.getD_some,e] at this;exact this
end
end Go.Ns
namespace Go.Ns
def PV(h:GH)(t:TypeId)(f:Nat->Value)(L:Nat->List Int)(k:Nat):Prop:=∀i,i<k->Dr h t (f i) (L i)
section
variable {h h' h0:GH} {t t':TypeId} {f:Nat->Value} {L:Nat->List Int} {k r:Nat} {w v v':Value} {p:Bool} {c:Array Value} {g:Nat×Nat}
theorem PV.zero:PV h t f L 0:=λ_ hi=>absurd hi (Nat.not_lt_zero _)
theorem PV.le(x:PV h t f L k)(l:h.Le h'):PV h' t f L k:=λi hi=>(x i hi).le l
theorem PV.store(x:PV h t f L k)(hr:h r=some (p,.cells c t' g))(ne:t'≠t)(ho:∀b,b≠r->h' b=h b):PV h' t f L k:=λi hi=>(x i hi).store hr ne ho
theorem PV.next(x:PV h t f L k)(y:Dr h t w (L k)):PV h t (λi=>if i=k then w else f i) L (k+1):=λi hi=>by
 show Dr h t (if i=k then w else f i) (L i);by_cases e:i=k
 ·rw [if_pos e,e];exact y
 ·rw [if_neg e];exact x i aA
end
def AQ.re(j:AQ)(v:Value):AQ:={ j with pv:=v }
def AM.re(j:AM)(v:Value):AM:={ j with wv:=v }
def Hc(js:List AQ)(f:Nat->Value)(k:Nat):List AQ:=(List.range js.length).map λi=>if i<k then (js.getD i AQ.z).re (f i) else js.getD i AQ.z
def IT(ns:List AM)(f:Nat->Value)(k:Nat):List AM:=(List.range ns.length).map λi=>if i<k then (ns.getD i AM.z).re (f i) else ns.getD i AM.z
section
variable {V:Type} {z:V} {l:List V} {F:Nat->V->V} {k:Nat}
def reL(z:V)(l:List V)(F:Nat->V->V)(k:Nat):List V:=(List.range l.length).map λi=>if i<k then F i (l.getD i z) else l.getD i z
theorem KA:(reL z l F k).length=l.length:=by unfold reL;rw [List.length_map,List.length_range]
theorem IA{i:Nat}(hi:i<l.length):(reL z l F k).getD i z=if i<k then F i (l.getD i z) else l.getD i z:=by
 unfold reL;rw [List.getD_eq_getElem?_getD,List.getElem?_map,List.getElem?_range hi];rfl
theorem TL{i:Nat}(hi:i<(reL z l F k).length):(reL z l F k)[i]=if i<k then F i (l.getD i z) else l.getD i z:=by
 have e:=IA (z:=z) (F:=F) (k:=k) (show i<l.length by rw [<-KA (z:=z) (F:=F) (k:=k)];exact hi);rw [List.getD_eq_getElem?_getD,List.getElem?_eq_getElem hi] at e;exact e
theorem reL_0:reL z l F 0=l:=by
 refine List.ext_getElem KA λi h1 h2=>?_;rw [TL,if_neg (Nat.not_lt_zero _),List.getD_eq_getElem?_getD,List.getElem?_eq_getElem h2];rfl
theorem X8{G:Nat->V->V}(hk:k<l.length)(hG:∀i,i<k->∀x,G i x=F i x):(reL z l F k).set k (G k ((reL z l F k).getD k z))=reL z l G (k+1):=by
 rw [IA hk,if_neg (Nat.lt_irrefl _)];refine List.ext_getElem (by rw [List.length_set,KA,KA]) λi h1 h2=>?_;rw [List.getElem_set,TL];by_cases e:k=i
 ·subst e;rw [if_pos rfl,TL,if_pos aA]
 ·rw [if_neg e,TL];by_cases e2:i<k
  ·rw [if_pos e2,if_pos aA,hG i e2]
  ·rw [if_neg e2,if_neg aA]
end
section
variable {h:GH} {t:TypeId} {f:Nat->Value} {js:List AQ} {ns:List AM} {k:Nat} {w:Value}
theorem PU:Hc js f k=reL AQ.z js (λi j=>j.re (f i)) k:=rfl
theorem PW:IT ns f k=reL AM.z ns (λi j=>j.re (f i)) k:=rfl
theorem N9(js:List AQ)(f:Nat->Value)(k:Nat):(Hc js f k).length=js.length:=by rw [PU];exact KA
theorem OA(ns:List AM)(f:Nat->Value)(k:Nat):(IT ns f k).length=ns.length:=by rw [PW];exact KA
theorem reJ_0:Hc js f 0=js:=by rw [PU];exact reL_0
theorem reN_0:IT ns f 0=ns:=by rw [PW];exact reL_0
theorem reJ_put(hk:k<js.length):(Hc js f k).set k (((Hc js f k).getD k AQ.z).re w)=Hc js (λi=>if i=k then w else f i) (k+1):=by
 have:=X8 (z:=AQ.z) (l:=js) (F:=λi j=>j.re (f i)) (G:=λi j=>j.re (if i=k then w else f i)) hk (λi hi x=>by rw [if_neg aA])
 rw [if_pos rfl] at this;exact this
theorem reN_put(hk:k<ns.length):(IT ns f k).set k (((IT ns f k).getD k AM.z).re w)=IT ns (λi=>if i=k then w else f i) (k+1):=by
 have:=X8 (z:=AM.z) (l:=ns) (F:=λi j=>j.re (f i)) (G:=λi j=>j.re (if i=k then w else f i)) hk (λi hi x=>by rw [if_neg aA])
 rw [if_pos rfl] at this;exact this
theorem Rk(js:List AQ)(f:Nat->Value)(k i:Nat):((Hc js f k).getD i AQ.z).parts=(js.getD i AQ.z).parts:=by
 by_cases hi:i<js.length
 ·rw [PU,IA hi];split <;> rfl
 ·rw [CP (by rw [N9];omega),CP aA]
theorem Ud(ns:List AM)(f:Nat->Value)(k i:Nat):((IT ns f k).getD i AM.z).ways=(ns.getD i AM.z).ways:=by
 by_cases hi:i<ns.length
 ·rw [PW,IA hi];split <;> rfl
 ·rw [CP (by rw [OA];omega),CP aA]
theorem Aw.re(x:Aw h js)(y:PV h t f (λi=>(js.getD i AQ.z).parts) k):Aw h (Hc js f k):=λi=>by
 by_cases hi:i<js.length
 ·rw [PU,IA hi];by_cases e:i<k
  ·rw [if_pos e];exact (y i e).1
  ·rw [if_neg e];exact x i
 ·rw [CP (by rw [N9];omega)];exact AD.nil _ _ _
theorem AY.re(x:AY h ns)(y:PV h t f (λi=>(ns.getD i AM.z).ways) k):AY h (IT ns f k):=λi=>by
 by_cases hi:i<ns.length
 ·rw [PW,IA hi];by_cases e:i<k
  ·rw [if_pos e];exact (y i e).1
  ·rw [if_neg e];exact x i
 ·rw [CP (by rw [OA];omega)];exact AD.nil _ _ _
def C4(h:GH)(t:TypeId)(js:List AQ):Prop:=∀k,Dr h t (js.getD k AQ.z).pv (js.getD k AQ.z).parts
def EF(h:GH)(t:TypeId)(ns:List AM):Prop:=∀k,Dr h t (ns.getD k AM.z).wv (ns.getD k AM.z).ways
theorem C4.jobs(x:C4 h t js):Aw h js:=λk=>(x k).1
theorem EF.notes(x:EF h t ns):AY h ns:=λk=>(x k).1
theorem C4.le{h':GH}(x:C4 h t js)(l:h.Le h'):C4 h' t js:=λk=>(x k).le l
theorem EF.le{h':GH}(x:EF h t ns)(l:h.Le h'):EF h' t ns:=λk=>(x k).le l
theorem C4.store{h':GH}{t':TypeId}{r:Nat}{p:Bool}{c:Array Value}{g:Nat×Nat}(x:C4 h t js)(hr:h r=some (p,.cells c t' g))(ne:t'≠t)(ho:∀b,b≠r->h' b=h b):C4 h' t js:=λk=>(x k).store hr ne ho
theorem EF.store{h':GH}{t':TypeId}{r:Nat}{p:Bool}{c:Array Value}{g:Nat×Nat}(x:EF h t ns)(hr:h r=some (p,.cells c t' g))(ne:t'≠t)(ho:∀b,b≠r->h' b=h b):EF h' t ns:=λk=>(x k).store hr ne ho
theorem C4.of(y:PV h t f (λi=>(js.getD i AQ.z).parts) k)(hk:js.length<=k):C4 h t (Hc js f k):=λi=>by
 by_cases hi:i<js.length
 ·rw [PU,IA hi,if_pos aA];exact y i aA
 ·rw [CP (by rw [N9];omega)];exact Dr.nil _ _
theorem EF.of(y:PV h t f (λi=>(ns.getD i AM.z).ways) k)(hk:ns.length<=k):EF h t (IT ns f k):=λi=>by
 by_cases hi:i<ns.length
 ·rw [PW,IA hi,if_pos aA];exact y i aA
 ·rw [CP (by rw [OA];omega)];exact Dr.nil _ _
theorem Aw.fine1(x:Aw h js)(k:Nat):(A9 (js.getD k AQ.z)).toList.all (·.oneCell')=true:=by
 show (true && (true && (true && (true && (((js.getD k AQ.z).pv.oneCell') && true)))))=true;rw [(AD.one (x k)).2];rfl
theorem Aw.fine(x:Aw h js):∀y ∈ js,(A9 y).toList.all (·.oneCell')=true:=λy hy=>by
 obtain ⟨i,hi,e⟩:=List.mem_iff_getElem.1 hy
 have:=x.fine1 i
 rw [List.getD_eq_getElem?_getD,List.getElem?_eq_getElem hi] at this;rw [<-e];exact this
theorem AY.snoc{x:AM}(a:AY h ns)(b:AD h x.wv 1 eI x.ways):AY h (ns++[x]):=λk=>by
 rw [PG];split
 ·exact a k
 ·cases hk:k-ns.length with
  | zero=>exact b
  | succ n=>rw [CP aD];exact AD.nil _ _ _
end
theorem Bt.copy{bag kinds:Int}{ps:List ByteArray}{ws:List AH}{js:List AQ}{ns:List AM}(b:Bt bag kinds ps ws js ns):(∀i,(js.getD i AQ.z).parts.length<=1000)/\∀i,(ns.getD i AM.z).ways.length<=1000:=by
 refine ⟨λi=>?_,λi=>Nat.le_trans (O3 b.note i).1 aC⟩;by_cases hi:i<js.length
 ·have:=(Oz (b.job i hi)).len
  have:=b.hkin
  omega
 ·rw [CP aA];exact Nat.zero_le _
end Go.Ns
namespace Go.Ns
section
variable {P:Program} {E:GG P} {O:Nat->Value} {ds:List Deferred} {h:GH} {T:(Nat->Value)->List Deferred->GH->Prop} {dst:Option Nat} {ty:TypeId} {pos:String} {af:Array Edge} {gd:Option (Nat×Bool)}
theorem WB{s:ByteArray}{i:Nat}(h:i<s.size):((s[i]'h).toNat:Int)=(bytesOf s).getD i 0:=by
 have h2:i<(bytesOf s).length:=by rw [C3];exact h
 rw [DS 0 h2];exact (List.getElem_map (l:=s.data.toList) (f:=λb=>(b.toNat:Int)) (h:=h2)).symm
theorem PX{t:TypeId}{x ix:Operand}{s:ByteArray}{kd:IntKind}{i:Int}(ht:OK P t=true)(hx:AR O x=.string s)(hi:AR O ix=.int kd i)(h0:0<=i)(h1:i<s.size)(k:T (putS O dst (.int .u8 ((bytesOf s).getD i.toNat 0))) ds h) :
  BV E ⟨dst,.index t x ix,ty,pos,af,gd⟩ O ds h T:=RB ht hx hi h0 h1 (by rw [WB];exact k)
end
theorem Ue{s:ByteArray}(h:¬(1<=(s.size:Int)/\(s.size:Int)<=10)):Ei s=false:=by unfold Ei;rw [decide_eq_false h,Bool.and_false]
theorem Uf{a b:List UInt8}{v:Bool}(h:(a==b)=v):(b==a)=v:=by rw [<-h];exact BEq.comm
def IU(l:List Int)(k:Nat)(p q:Int):List Int:=if p=l.getD k 0/\¬q ∈ l then l++[q] else l
def C8(l:List Int)(k:Nat)(x:AH):List Int:=IU (IU l k x.a x.b) k x.b x.a
def Aj(ws:List AH)(l:List Int)(k:Nat):Nat->List Int
 | 0=>l
 | j+1=>C8 (Aj ws l k j) k (ws.getD j AH.z)
def A3(ws:List AH):Nat->List Int
 | 0=>[0]
 | k+1=>if k<(A3 ws k).length then Aj ws (A3 ws k) k ws.length else A3 ws k
def HA(ws:List AH):List Int:=A3 ws 4
def H1(np:Nat)(l:List Int):Prop:=l.Nodup/\(∀x ∈ l,0<=x/\x<np)/\0<l.length
def PY(np:Nat)(ws:List AH):Prop:=∀k,k<ws.length->(0<=(ws.getD k AH.z).a/\(ws.getD k AH.z).a<np)/\0<=(ws.getD k AH.z).b/\(ws.getD k AH.z).b<np
section
variable {np:Nat} {l:List Int} {ws:List AH} {k j:Nat} {x:Int} {w:AH}
theorem H1.len(h:H1 np l):l.length<=np:=by
 refine Vx np l.length (λk=>(l.getD k 0).toNat) (λi hi=>?_) λi j hij hj=>?_
 ·have:=h.2.1 _ (Bl (d:=(0:Int)) hi)
  show (l.getD i 0).toNat<np;omega
 ·have h1:=h.2.1 _ (Bl (d:=(0:Int)) hj);have h2:=h.2.1 _ (Bl (d:=(0:Int)) (show i<l.length by omega));show (l.getD i 0).toNat≠(l.getD j 0).toNat;intro e;have e2:l.getD i 0=l.getD j 0:=aA
  rw [List.getD_eq_getElem?_getD,List.getD_eq_getElem?_getD,List.getElem?_eq_getElem aA,List.getElem?_eq_getElem hj,Option.getD_some,Option.getD_some] at e2
  have:=(List.pairwise_iff_getElem.1 (List.nodup_iff_pairwise_ne.1 h.1)) i j aA hj hij
  exact this e2
theorem H1.snoc(h:H1 np l)(hx:0<=x/\x<np)(n:¬x ∈ l):H1 np (l++[x]):=
 ⟨List.nodup_append.2 ⟨h.1,aD,λa ha b hb e=>by rw [List.mem_singleton.1 hb] at e;exact n (e▸ha)⟩,λy hy=>by
  rcases List.mem_append.1 hy with hy | hy
  ·exact h.2.1 y hy
  ·rw [List.mem_singleton.1 hy];exact hx,aD⟩
theorem Lm{p q:Int}(h1:p=l.getD k 0)(h2:¬q ∈ l):IU l k p q=l++[q]:=if_pos ⟨h1,h2⟩
theorem Lp{p q:Int}(h:¬(p=l.getD k 0/\¬q ∈ l)):IU l k p q=l:=if_neg h
theorem rs_tt(h1:w.a=l.getD k 0/\¬w.b ∈ l)(h2:w.b=(l++[w.b]).getD k 0/\¬w.a ∈ l++[w.b]):C8 l k w=l++[w.b]++[w.a]:=by unfold C8;rw [Lm h1.1 h1.2,Lm h2.1 h2.2]
theorem rs_tf(h1:w.a=l.getD k 0/\¬w.b ∈ l)(h2:¬(w.b=(l++[w.b]).getD k 0/\¬w.a ∈ l++[w.b])):C8 l k w=l++[w.b]:=by unfold C8;rw [Lm h1.1 h1.2,Lp h2]
theorem rs_ft(h1:¬(w.a=l.getD k 0/\¬w.b ∈ l))(h2:w.b=l.getD k 0/\¬w.a ∈ l):C8 l k w=l++[w.a]:=by unfold C8;rw [Lp h1,Lm h2.1 h2.2]
theorem rs_ff(h1:¬(w.a=l.getD k 0/\¬w.b ∈ l))(h2:¬(w.b=l.getD k 0/\¬w.a ∈ l)):C8 l k w=l:=by unfold C8;rw [Lp h1,Lp h2]
theorem Rn{p q:Int}(h:H1 np l)(hq:0<=q/\q<np):H1 np (IU l k p q):=by
 unfold IU;split
 ·rename_i c;exact h.snoc hq c.2
 ·exact h
theorem Ku(l:List Int)(k:Nat)(p q:Int):l<+:IU l k p q:=by
 unfold IU;split
 ·exact List.prefix_append _ _
 ·exact List.prefix_refl _
theorem TM(h:H1 np l)(ha:0<=w.a/\w.a<np)(hb:0<=w.b/\w.b<np):H1 np (C8 l k w):=Rn (Rn h hb) ha
theorem QJ(l:List Int)(k:Nat)(w:AH):l<+:C8 l k w:=(Ku _ _ _ _).trans (Ku _ _ _ _)
theorem JA(h:H1 np l)(hw:PY np ws):∀j,j<=ws.length->H1 np (Aj ws l k j)
 | 0,_=>h
 | j+1,hj=>TM (JA h hw j aA) (hw j aA).1 (hw j aA).2
theorem IV:∀j,l<+:Aj ws l k j
 | 0=>List.prefix_refl _
 | j+1=>(IV j).trans (QJ _ _ _)
theorem KB(hn:0<np)(hw:PY np ws):∀k,H1 np (A3 ws k)
 | 0=>⟨by simp [A3],λx hx=>by rw [List.mem_singleton.1 hx];omega,Nat.zero_lt_one⟩
 | k+1=>by
  unfold A3;split
  ·exact JA (KB hn hw k) hw _ (Nat.le_refl _)
  ·exact KB hn hw k
theorem NY(hk:k<(A3 ws k).length):A3 ws (k+1)=Aj ws (A3 ws k) k ws.length:=if_pos hk
theorem NZ(hk:(A3 ws k).length<=k):∀m,k<=m->A3 ws m=A3 ws k
 | 0,h=>by rw [show k=0 by omega]
 | m+1,h=>by
  by_cases e:m+1=k
  ·rw [e]
  ·have ih:=NZ hk m aA
   have:A3 ws (m+1)=A3 ws m:=by
    conv=>lhs;unfold A3
    rw [if_neg (by rw [ih];omega)]
   rw [this,ih]
theorem ZE(hk:(A3 ws k).length<=k)(hk4:k<=4):HA ws=A3 ws k:=NZ hk 4 hk4
end
def FO(np:Nat)(ws:List AH):Int:=if (5:Int)<ws.length then 2 else if¬Cy (DI np ws) 0 ws.length=0 then Cy (DI np ws) 0 ws.length else if (HA ws).length<np then 8 else 0
def Ds(bag kinds:Int)(ps:List ByteArray)(ws:List AH)(js:List AQ)(ns:List AM):Int:=
 if¬Ge bag kinds=0 then Ge bag kinds else if¬BR ps=0 then BR ps else if¬FO ps.length ws=0 then FO ps.length ws else if¬CA ps.length kinds js=0 then CA ps.length kinds js else Cf ws.length ns
section
variable {V:Type} {p:V->Bool} {l:List V} {d:V} {k j:Nat}
theorem MY(hk:k<l.length)(e:p (l.getD k d)=true):l.any p=true:=List.any_eq_true.2 ⟨_,Bl hk,e⟩
theorem KC(h:(l.take k).any p=false)(hk:l.length<=k):l.any p=false:=by rwa [List.take_of_length_le hk] at h
theorem any_take(hj:j<k)(hk:k<=l.length)(e:p (l.getD j d)=true):(l.take k).any p=true:=by
 refine MY (k:=j) (d:=d) (by rw [List.length_take];omega) ?_;rw [List.getD_eq_getElem?_getD,List.getElem?_take,if_pos hj,<-List.getD_eq_getElem?_getD];exact e
end
section
variable {np nw:Nat} {ws:List AH} {js:List AQ} {ns:List AM} {k:Nat} {kinds:Int}
theorem Lq{a b:Int}(ha:0<=a/\a<=(np:Int)-1)(hb:0<=b/\b<=(np:Int)-1):B7 np [a,b]=0:=by
 have h0:Ea np [a,b] 0=0:=if_neg (λe=>e ha);have h1:Ea np [a,b] 1=0:=if_neg (λe=>e hb);show Cy (Ea np [a,b]) 0 2=0;simp [Cy,h0,h1]
theorem miss_no{a b:Int}(h:¬(0<=a/\a<=(np:Int)-1)\/¬(0<=b/\b<=(np:Int)-1)):B7 np [a,b]=6:=by
 show Cy (Ea np [a,b]) 0 2=6;by_cases ha:0<=a/\a<=(np:Int)-1
 ·have h0:Ea np [a,b] 0=0:=if_neg (λe=>e ha);have h1:Ea np [a,b] 1=6:=if_pos (h.resolve_left λe=>e ha);simp [Cy,h0,h1]
 ·have h0:Ea np [a,b] 0=6:=if_pos ha;simp [Cy,h0]
theorem PZ{a:Int}(ha:0<=a/\a<=(np:Int)-1):B7 np [a]=0:=by
 have h0:Ea np [a] 0=0:=if_neg (λe=>e ha);show Cy (Ea np [a]) 0 1=0;simp [Cy,h0]
theorem miss_no1{a:Int}(ha:¬(0<=a/\a<=(np:Int)-1)):B7 np [a]=6:=by
 have h0:Ea np [a] 0=6:=if_pos ha;show Cy (Ea np [a]) 0 1=6;simp [Cy,h0]
variable (ws k) in
def waP(np:Nat):Prop:=(0<=(ws.getD k AH.z).a/\(ws.getD k AH.z).a<=(np:Int)-1)/\(0<=(ws.getD k AH.z).b/\(ws.getD k AH.z).b<=(np:Int)-1)
theorem wy6(h:¬(0<=(ws.getD k AH.z).a/\(ws.getD k AH.z).a<=(np:Int)-1)\/¬(0<=(ws.getD k AH.z).b/\(ws.getD k AH.z).b<=(np:Int)-1)):DI np ws k=6:=by
 unfold DI;rw [miss_no h,if_pos aC]
theorem wyP(h:¬(¬(0<=(ws.getD k AH.z).a/\(ws.getD k AH.z).a<=(np:Int)-1)\/¬(0<=(ws.getD k AH.z).b/\(ws.getD k AH.z).b<=(np:Int)-1))):waP ws k np:=⟨Decidable.byContradiction λe=>h (.inl e),Decidable.byContradiction λe=>h (.inr e)⟩
theorem wy7(h:waP ws k np)(h2:(ws.getD k AH.z).b<=(ws.getD k AH.z).a):DI np ws k=7:=by
 unfold DI;rw [Lq h.1 h.2,if_neg aD,if_pos h2]
theorem wy5(h:waP ws k np)(h2:¬(ws.getD k AH.z).b<=(ws.getD k AH.z).a)(h3:(ws.take k).any (λy=>decide (y.a=(ws.getD k AH.z).a/\y.b=(ws.getD k AH.z).b))=true):DI np ws k=5:=by
 unfold DI;rw [Lq h.1 h.2,if_neg aD,if_neg h2,if_pos h3]
theorem wy1(h:waP ws k np)(h2:¬(ws.getD k AH.z).b<=(ws.getD k AH.z).a)(h3:(ws.take k).any (λy=>decide (y.a=(ws.getD k AH.z).a/\y.b=(ws.getD k AH.z).b))=false)(h4:¬(((0<=(ws.getD k AH.z).low/\(ws.getD k AH.z).low<=(ws.getD k AH.z).high)/\(ws.getD k AH.z).high<=30)/\(ws.getD k AH.z).high-(ws.getD k AH.z).low<2)):DI np ws k=1:=by
 unfold DI;rw [Lq h.1 h.2,if_neg aD,if_neg h2,if_neg (by rw [h3];simp)];exact if_pos h4
theorem wy0(h:waP ws k np)(h2:¬(ws.getD k AH.z).b<=(ws.getD k AH.z).a)(h3:(ws.take k).any (λy=>decide (y.a=(ws.getD k AH.z).a/\y.b=(ws.getD k AH.z).b))=false)(h4:(((0<=(ws.getD k AH.z).low/\(ws.getD k AH.z).low<=(ws.getD k AH.z).high)/\(ws.getD k AH.z).high<=30)/\(ws.getD k AH.z).high-(ws.getD k AH.z).low<2)):DI np ws k=0:=by
 unfold DI;rw [Lq h.1 h.2,if_neg aD,if_neg h2,if_neg (by rw [h3];simp)];exact if_neg (λe=>e h4)
theorem waysOK(h:∀k,k<ws.length->DI np ws k=0):PY np ws:=λk hk=>by
 have:=h k hk
 unfold DI at this;split at this
 ·rename_i a;exact absurd this a
 ·rename_i a
  have q:=FM (Decidable.not_not.1 a);have q1:=q _ List.mem_cons_self;have q2:=q _ (List.mem_cons_of_mem _ List.mem_cons_self);omega
theorem rw2(h:(5:Int)<ws.length):FO np ws=2:=if_pos h
theorem TN{c:Int}(h5:¬(5:Int)<ws.length)(hs:∀j,j<k->DI np ws j=0)(hk:k<ws.length)(e:DI np ws k=c)(hc:c≠0):FO np ws=c:=by
 have h1:=BL hs hk e hc;rw [FO,if_neg h5,h1,if_pos hc]
theorem rw8(h5:¬(5:Int)<ws.length)(hs:∀j,j<k->DI np ws j=0)(hk:ws.length<=k)(h:((HA ws).length:Int)<np):FO np ws=8:=by
 rw [FO,if_neg h5,CF hs hk,if_neg aD,if_pos aA]
theorem rw0(h5:¬(5:Int)<ws.length)(hs:∀j,j<k->DI np ws j=0)(hk:ws.length<=k)(h:¬((HA ws).length:Int)<np):FO np ws=0:=by
 rw [FO,if_neg h5,CF hs hk,if_neg aD,if_neg aA]
theorem jb6(h:¬(0<=(js.getD k AQ.z).place/\(js.getD k AQ.z).place<=(np:Int)-1)):Ff np kinds js k=6:=by
 unfold Ff;rw [miss_no1 h,if_pos aC]
theorem jb1(h:0<=(js.getD k AQ.z).place/\(js.getD k AQ.z).place<=(np:Int)-1)(h2:¬(((0<=(js.getD k AQ.z).low/\(js.getD k AQ.z).low<=(js.getD k AQ.z).high)/\(js.getD k AQ.z).high<=30)/\(js.getD k AQ.z).high-(js.getD k AQ.z).low<2)\/¬(0<=(js.getD k AQ.z).due/\(js.getD k AQ.z).due<=200)):Ff np kinds js k=1:=by
 unfold Ff;rw [PZ h,if_neg aD];exact if_pos h2
theorem jb2(h:0<=(js.getD k AQ.z).place/\(js.getD k AQ.z).place<=(np:Int)-1)(h2:¬(¬(((0<=(js.getD k AQ.z).low/\(js.getD k AQ.z).low<=(js.getD k AQ.z).high)/\(js.getD k AQ.z).high<=30)/\(js.getD k AQ.z).high-(js.getD k AQ.z).low<2)\/¬(0<=(js.getD k AQ.z).due/\(js.getD k AQ.z).due<=200)))(h3:¬((js.getD k AQ.z).parts.length:Int)=kinds):Ff np kinds js k=2:=by
 unfold Ff;rw [PZ h,if_neg aD];exact (if_neg h2).trans (if_pos h3)
theorem jb3(h:0<=(js.getD k AQ.z).place/\(js.getD k AQ.z).place<=(np:Int)-1)(h2:¬(¬(((0<=(js.getD k AQ.z).low/\(js.getD k AQ.z).low<=(js.getD k AQ.z).high)/\(js.getD k AQ.z).high<=30)/\(js.getD k AQ.z).high-(js.getD k AQ.z).low<2)\/¬(0<=(js.getD k AQ.z).due/\(js.getD k AQ.z).due<=200)))(h3:((js.getD k AQ.z).parts.length:Int)=kinds):Ff np kinds js k=if (js.getD k AQ.z).parts.any (λn=>decide (¬(0<=n/\n<=5))) then 1 else 0:=by
 unfold Ff;rw [PZ h,if_neg aD];exact (if_neg h2).trans (if_neg (λe=>e h3))
theorem nt2(h:(5:Int)<(ns.getD k AM.z).ways.length):D3 nw ns k=2:=if_pos h
theorem nt6(h:¬(5:Int)<(ns.getD k AM.z).ways.length)(h2:(ns.getD k AM.z).ways.any (λn=>decide (¬(0<=n/\n<=(nw:Int)-1)))=true):D3 nw ns k=6:=by
 unfold D3;rw [if_neg h,if_pos h2]
theorem nt1(h:¬(5:Int)<(ns.getD k AM.z).ways.length)(h2:(ns.getD k AM.z).ways.any (λn=>decide (¬(0<=n/\n<=(nw:Int)-1)))=false)(h3:¬((0<=(ns.getD k AM.z).low/\(ns.getD k AM.z).low<=(ns.getD k AM.z).high)/\(ns.getD k AM.z).high<=200)):D3 nw ns k=1:=by
 unfold D3;rw [if_neg h,if_neg (by rw [h2];simp),if_pos (λe=>h3 e.1)]
theorem nt0(h:¬(5:Int)<(ns.getD k AM.z).ways.length)(h2:(ns.getD k AM.z).ways.any (λn=>decide (¬(0<=n/\n<=(nw:Int)-1)))=false)(h3:(0<=(ns.getD k AM.z).low/\(ns.getD k AM.z).low<=(ns.getD k AM.z).high)/\(ns.getD k AM.z).high<=200):D3 nw ns k=0:=by
 unfold D3;rw [if_neg h,if_neg (by rw [h2];simp),if_neg (λe=>e ⟨h3,aA⟩)]
end
section
variable {ps:List ByteArray} {k:Nat} {a b:List (Int×Int)}
theorem pa4(h:Ei (ps.getD k (⟨#[]⟩:ByteArray))=false):E5 ps k=4:=by unfold E5;rw [if_pos h]
theorem pa5(h:Ei (ps.getD k (⟨#[]⟩:ByteArray))=true)(h2:0<=idxOf (λx=>(ps.getD k (⟨#[]⟩:ByteArray)).toList==x.toList) (ps.take k)):E5 ps k=5:=by
 unfold E5;rw [if_neg (by rw [h];simp),if_pos ((E3 _ _).1 h2)]
theorem pa0(h:Ei (ps.getD k (⟨#[]⟩:ByteArray))=true)(h2:¬0<=idxOf (λx=>(ps.getD k (⟨#[]⟩:ByteArray)).toList==x.toList) (ps.take k)):E5 ps k=0:=by
 unfold E5;rw [if_neg (by rw [h];simp),if_neg λe=>h2 ((E3 _ _).2 e)]
theorem QK(hs:a.take k=b.take k)(hk:k<=a.length)(h:¬(k:Int)<a.length)(hl:(a.length:Int)=b.length):a=b:=by
 rw [List.take_of_length_le aA,List.take_of_length_le aA] at hs;exact hs
theorem eq_getDP{k:Nat}(h:((a.getD k (0,0)).1==(b.getD k (0,0)).1 && ((a.getD k (0,0)).2==(b.getD k (0,0)).2 && true))=true):a.getD k (0,0)=b.getD k (0,0):=by
 simp only [Bool.and_true,Bool.and_eq_true,beq_iff_eq] at h;exact Prod.ext h.1 h.2
theorem ne_getDP{k:Nat}(h:(!((a.getD k (0,0)).1==(b.getD k (0,0)).1 && ((a.getD k (0,0)).2==(b.getD k (0,0)).2 && true)))=true):¬a=b:=λe=>by rw [e] at h;simp at h
end
section
variable (bag kinds:Int) (ps:List ByteArray) (ws:List AH) (js:List AQ) (ns:List AM)
def EG:Bool:=decide ((((20:Int)<ps.length\/(20:Int)<ws.length)\/(20:Int)<js.length)\/(20:Int)<ns.length) || ps.any (λs=>decide ((100:Int)<s.size)) || js.any (λj=>decide ((20:Int)<j.parts.length)) || ns.any λn=>decide ((20:Int)<n.ways.length)
def fit9:Bool:= !EG ps ws js ns && decide (Ds bag kinds ps ws js ns=0)
end
section
variable {ps:List ByteArray} {ws:List AH} {js:List AQ} {ns:List AM} {k:Nat}
theorem Ls(h:EG ps ws js ns=false)(k:Nat):(ps.getD k (⟨#[]⟩:ByteArray)).size<=1000:=by
 unfold EG at h;simp only [Bool.or_eq_false_iff] at h;by_cases hk:k<ps.length
 ·have:=List.any_eq_false.1 h.1.1.2 _ (Bl (d:=(⟨#[]⟩:ByteArray)) hk)
  have:=of_decide_eq_false (Bool.eq_false_iff.2 this)
  omega
 ·rw [CP aA];decide
end
section
variable {bag kinds:Int} {ps:List ByteArray} {ws:List AH} {js:List AQ} {ns:List AM}
theorem Jo(h:BR ps=0):0<ps.length/\ps.length<=4:=by
 unfold BR at h;split at h
 ·cases h
 ·omega
theorem rc1(h:¬(0<=bag/\bag<=9)\/¬(0<=kinds/\kinds<=3)):Ds bag kinds ps ws js ns=1:=by
 have e:Ge bag kinds=1:=if_pos h;unfold Ds;rw [e,if_pos aC]
theorem tb0(h:¬(¬(0<=bag/\bag<=9)\/¬(0<=kinds/\kinds<=3))):Ge bag kinds=0:=if_neg h
theorem rc2(h0:¬(¬(0<=bag/\bag<=9)\/¬(0<=kinds/\kinds<=3)))(h:¬BR ps=0):Ds bag kinds ps ws js ns=BR ps:=by unfold Ds;rw [tb0 h0,if_neg aD,if_pos h]
theorem rc3(h0:¬(¬(0<=bag/\bag<=9)\/¬(0<=kinds/\kinds<=3)))(h1:¬¬BR ps=0)(h:¬FO ps.length ws=0):Ds bag kinds ps ws js ns=FO ps.length ws:=by unfold Ds;rw [tb0 h0,if_neg aD,if_neg h1,if_pos h]
theorem rc4(h0:¬(¬(0<=bag/\bag<=9)\/¬(0<=kinds/\kinds<=3)))(h1:¬¬BR ps=0)(h2:¬¬FO ps.length ws=0)(h:¬CA ps.length kinds js=0):Ds bag kinds ps ws js ns=CA ps.length kinds js:=by unfold Ds;rw [tb0 h0,if_neg aD,if_neg h1,if_neg h2,if_pos h]
theorem rc5(h0:¬(¬(0<=bag/\bag<=9)\/¬(0<=kinds/\kinds<=3)))(h1:¬¬BR ps=0)(h2:¬¬FO ps.length ws=0)(h:¬¬CA ps.length kinds js=0):Ds bag kinds ps ws js ns=Cf ws.length ns:=by unfold Ds;rw [tb0 h0,if_neg aD,if_neg h1,if_neg h2,if_neg h]
theorem gr_len(h:(((20:Int)<ps.length\/(20:Int)<ws.length)\/(20:Int)<js.length)\/(20:Int)<ns.length):EG ps ws js ns=true:=by unfold EG;rw [decide_eq_true h];rfl
theorem gr_p(h:ps.any (λs=>decide ((100:Int)<s.size))=true):EG ps ws js ns=true:=by unfold EG;rw [h];simp
theorem gr_j(h:js.any (λj=>decide ((20:Int)<j.parts.length))=true):EG ps ws js ns=true:=by unfold EG;rw [h];simp
theorem gr_n(h:ns.any (λn=>decide ((20:Int)<n.ways.length))=true):EG ps ws js ns=true:=by unfold EG;rw [h];simp
theorem gr_0(h:¬((((20:Int)<ps.length\/(20:Int)<ws.length)\/(20:Int)<js.length)\/(20:Int)<ns.length))(h1:ps.any (λs=>decide ((100:Int)<s.size))=false)(h2:js.any (λj=>decide ((20:Int)<j.parts.length))=false)(h3:ns.any (λn=>decide ((20:Int)<n.ways.length))=false):EG ps ws js ns=false:=by
 unfold EG;rw [decide_eq_false h,h1,h2,h3];rfl
end
end Go.Ns
namespace Go.Ns
def CX:List ByteArray:=[⟨#[119,111,114,107,115]⟩,⟨#[97,121,114]⟩,⟨#[98,117,116,101]⟩]
theorem C9:∀k,(CX.getD k (⟨#[]⟩:ByteArray)).size<=1000
 | 0=>aC
 | 1=>aC
 | 2=>aC
 | k+3=>by rw [CP (by simp [CX])];decide
def CS:List AH:=[⟨0,1,2,3⟩,⟨1,2,4,4⟩,⟨0,2,5,5⟩]
def B8(a b c:Value):List AQ:=[⟨1,1,1,5,a,[2]⟩,⟨2,1,2,12,b,[1]⟩,⟨0,1,1,20,c,[1]⟩]
theorem C4.ex{h:GH}{t:TypeId}{a b c:Value}(x:Dr h t a [2])(y:Dr h t b [1])(z:Dr h t c [1]):C4 h t (B8 a b c):=λk=>by
 match k with
 | 0=>exact x
 | 1=>exact y
 | 2=>exact z
 | k+3=>rw [CP (by show 3<=_;omega)];exact Dr.nil _ _
theorem AD.isSl{V:Type}{h:GH}{v:Value}{n:Nat}{enc:V->Array Value}{xs:List V}(x:AD h v n enc xs):∀k i,v≠.int k i:=by
 obtain ⟨a,cap,rfl,_⟩:=x;intro k i e;cases e
theorem AD.across9{h h':GH}{v:Value}{xs:List Int}{r:Nat}{a b c d:Value}{T:TypeId}(x:AD h v 1 eI xs)(hb:h r=some (true,.cells #[.int .i64 3,.int .i64 1,a,b,c,d] T (0,0)))(ho:∀y,y≠r->h' y=h y)
  (ha:∀k i,a≠.int k i) (hb':∀k i,b≠.int k i) (hc:∀k i,c≠.int k i) (hd:∀k i,d≠.int k i) (hx:∀o,o<6->∃i:Fin xs.length,(o+i.val=0->xs[i.val]≠3)/\(o+i.val=1->xs[i.val]≠1)):AD h' v 1 eI xs:=by
 obtain ⟨ad,cap,hv,hcap,hm,he⟩:=x;refine ⟨ad,cap,hv,hcap,hm,λi hi=>?_⟩;obtain ⟨y,off,h1,h2⟩:=he i hi;refine ⟨y,off,h1,h2.same (ho y ?_)⟩;rintro rfl;have key:∀j (hj:j<xs.length),off+j<6/\(#[Value.int .i64 3,.int .i64 1,a,b,c,d]:Array Value).extract (off+j) (off+j+1)=eI xs[j]:=λj hj=>by
  obtain ⟨y2,off2,h3,h4⟩:=he j hj;rw [h1] at h3;simp only [Option.some.injEq,Addr.mk.injEq,and_true] at h3;obtain ⟨rfl,rfl⟩:=h3;obtain ⟨p,cc,t,f,q1,q2,q3⟩:=h4;rw [hb] at q1;simp only [Option.some.injEq,Prod.mk.injEq,Obj.cells.injEq] at q1;obtain ⟨_,rfl,_⟩:=q1;rw [Nat.mul_one] at q2 q3;exact ⟨by simp at q2;omega,q3⟩
 obtain ⟨⟨j,hj⟩,e0,e1⟩:=hx off (by have:=(key i hi).1;omega);obtain ⟨k1,k2⟩:=key j hj;simp only at e0 e1;generalize off+j=o at k1 k2 e0 e1;generalize xs[j]=z at k2 e0 e1
 have:o=0\/o=1\/o=2\/o=3\/o=4\/o=5:=aA
 rcases this with rfl | rfl | rfl | rfl | rfl | rfl
 ·have k3:(#[.int .i64 3]:Array Value)=#[.int .i64 z]:=k2;simp at k3;exact e0 rfl k3.symm
 ·have k3:(#[.int .i64 1]:Array Value)=#[.int .i64 z]:=k2;simp at k3;exact e1 rfl k3.symm
 ·have k3:(#[a]:Array Value)=#[.int .i64 z]:=k2;simp at k3;exact ha _ _ k3
 ·have k3:(#[b]:Array Value)=#[.int .i64 z]:=k2;simp at k3;exact hb' _ _ k3
 ·have k3:(#[c]:Array Value)=#[.int .i64 z]:=k2;simp at k3;exact hc _ _ k3
 ·have k3:(#[d]:Array Value)=#[.int .i64 z]:=k2;simp at k3;exact hd _ _ k3
end Go.Ns
namespace Go.Ns
section
variable {m:FG} {b np i k n:Nat}
end
section
variable {p:AI} {ws:List AH} {np:Nat}
end
end Go.Ns
namespace Go.Ns
section
variable {ws:List AH} {c:Hv} {x:AH} {i n k np:Nat}
theorem Jp(h:c i=true):Hw c x i=true:=by
 unfold Hw Hv.set;by_cases e:i=x.b.toNat
 ·rw [if_pos e];by_cases e2:x.b.toNat=x.a.toNat
  ·rw [if_pos e2];rw [e,e2] at h;rw [h];simp
  ·rw [if_neg e2,<-e,h];simp
 ·rw [if_neg e];by_cases e2:i=x.a.toNat
  ·rw [if_pos e2,<-e2,h];simp
  ·rw [if_neg e2];exact h
theorem Ug(h:c x.a.toNat=true\/c x.b.toNat=true):Hw c x x.a.toNat=true/\Hw c x x.b.toNat=true:=by
 unfold Hw Hv.set;rcases h with h | h
 ·constructor
  ·by_cases e:x.a.toNat=x.b.toNat
   ·rw [if_pos e];simp [h]
   ·rw [if_neg e];simp [h]
  ·rw [if_pos rfl];simp [h]
 ·constructor
  ·by_cases e:x.a.toNat=x.b.toNat
   ·rw [if_pos e];simp [h]
   ·rw [if_neg e];simp [h]
  ·rw [if_pos rfl];simp [h]
theorem HU:∀(l:List AH)(c:Hv),c i=true->l.foldl Hw c i=true
 | [],_,h=>h
 | x ::l,c,h=>HU l _ (Jp h)
theorem JB:∀(l:List AH)(c:Hv),x ∈ l->(c x.a.toNat=true\/c x.b.toNat=true)->l.foldl Hw c x.a.toNat=true/\l.foldl Hw c x.b.toNat=true
 | y ::l,c,hx,h=>by
  rcases List.mem_cons.1 hx with e | hx
  ·subst e;have b:=Ug h;exact ⟨HU l _ b.1,HU l _ b.2⟩
  ·exact JB l _ hx (h.imp Jp Jp)
theorem Jq:∀n (c:Hv),Ej ws (n+1) c=Gq ws (Ej ws n c)
 | 0,_=>rfl
 | n+1,c=>Jq n (Gq ws c)
theorem MZ{m:Nat}(h:Ej ws n c i=true):∀d,m=n+d->Ej ws m c i=true
 | 0,e=>by rw [e];exact h
 | d+1,e=>by
  rw [e,show n+(d+1)=(n+d)+1 by omega,Jq];exact HU ws _ (MZ h d rfl)
def c0:Hv:=Hv.none.set 0 true
def If(ws:List AH)(l:List Int):Prop:=∀i,i<l.length->Ej ws i c0 (l.getD i 0).toNat=true
theorem If.snoc{l:List Int}{q:Int}(h:If ws l)(hq:Ej ws l.length c0 q.toNat=true):If ws (l++[q]):=λi hi=>by
 rw [List.length_append,List.length_singleton] at hi;rw [PG];by_cases e:i<l.length
 ·rw [if_pos e];exact h i e
 ·rw [if_neg e,show i=l.length by omega,Nat.sub_self];exact hq
theorem If.step{l:List Int}(h:If ws l)(hk:k<l.length)(hx:x ∈ ws):If ws (C8 l k x):=by
 have one:∀{l:List Int}{p q:Int},If ws l->k<l.length->(x.a=p/\x.b=q\/x.b=p/\x.a=q)->If ws (IU l k p q):=by
  intro l p q h hk hpq;unfold IU;split
  ·rename_i e
   have f:=h k hk;rw [<-e.1] at f;have g:Ej ws (k+1) c0 q.toNat=true:=by
    rw [Jq];rcases hpq with ⟨rfl,rfl⟩ | ⟨rfl,rfl⟩
    ·exact (JB ws _ hx (.inl f)).2
    ·exact (JB ws _ hx (.inr f)).1
   exact h.snoc (MZ g (l.length-(k+1)) aA)
  ·exact h
 have h1:=one h hk (.inl ⟨rfl,rfl⟩);have hl:=(Ku l k x.a x.b).length_le;exact one h1 aA (.inr ⟨rfl,rfl⟩)
theorem If.ways{l:List Int}(h:If ws l)(hk:k<l.length):∀j,j<=ws.length->If ws (Aj ws l k j)
 | 0,_=>h
 | j+1,hj=>(If.ways h hk j aA).step (Nat.lt_of_lt_of_le hk (IV j).length_le) (Bl aA)
theorem Ma:∀k,If ws (A3 ws k)
 | 0=>λi hi=>by
  have:i=0:=by
   have:i<1:=hi
   omega
  subst this;rfl
 | k+1=>by
  unfold A3;split
  ·rename_i e;exact (Ma k).ways e _ (Nat.le_refl _)
  ·exact Ma k
theorem TO(hn:0<np)(hw:PY np ws)(h:¬(HA ws).length<np):Gf np ws=0:=by
 have ok:H1 np (HA ws):=KB hn hw 4;have hl:=ok.len;have all:∀y,y<np->Ej ws np c0 y=true:=λy hy=>by
  have mem:(y:Int) ∈ HA ws:=Decidable.byContradiction λe=>by
   have:=(ok.snoc (x:=(y:Int)) ⟨aA,aA⟩ e).len
   rw [List.length_append,List.length_singleton] at this;omega
  obtain ⟨i,hi,e⟩:=List.mem_iff_getElem.1 mem;have f:Ej ws i c0 ((HA ws).getD i 0).toNat=true:=Ma (ws:=ws) 4 i hi;have e2:(HA ws).getD i 0=(y:Int):=by
   rw [List.getD_eq_getElem?_getD,List.getElem?_eq_getElem hi];exact e
  rw [e2] at f;exact MZ f (np-i) (by have hi':i<(HA ws).length:=hi;omega)
 unfold Gf;rw [if_neg];intro e;obtain ⟨b,hb,hf⟩:=List.any_eq_true.1 e;unfold Ox at hb;obtain ⟨y,hy,rfl⟩:=List.mem_map.1 hb
 have:Ej ws np (Hv.none.set 0 true) y=true:=all y (List.mem_range.1 hy)
 rw [this] at hf;cases hf
end
section
variable {bag kinds:Int} {ps:List ByteArray} {ws:List AH} {js:List AQ} {ns:List AM}
theorem WC(hn:0<ps.length)(h:FO ps.length ws=0):Ek ps.length ws=0:=by
 unfold FO at h;split at h
 ·cases h
 ·rename_i a
  split at h
  ·rename_i b;exact absurd h b
  ·rename_i b
   split at h
   ·cases h
   ·rename_i c
    unfold Ek;rw [if_neg a,if_neg b];have z:=DO (Decidable.not_not.1 b);exact TO hn (waysOK λk hk=>z k (Nat.zero_le _) aA) c
theorem Uh(h:Ds bag kinds ps ws js ns=0):Bc bag kinds ps ws js ns=0:=by
 unfold Ds at h;split at h
 ·rename_i a;exact absurd h a
 ·rename_i a
  split at h
  ·rename_i b;exact absurd h b
  ·rename_i b
   split at h
   ·rename_i c;exact absurd h c
   ·rename_i c
    split at h
    ·rename_i d;exact absurd h d
    ·rename_i d
     have h1:=Decidable.not_not.1 a;have h2:=Decidable.not_not.1 b;have h3:=WC (Jo h2).1 (Decidable.not_not.1 c);have h4:=Decidable.not_not.1 d;unfold Bc;refine CF (k:=5) (λj hj=>?_) (Nat.le_refl _)
     match j with
     | 0=>exact h1
     | 1=>exact h2
     | 2=>exact h3
     | 3=>exact h4
     | 4=>exact h
     | j+5=>omega
theorem fit9_ok(h:fit9 bag kinds ps ws js ns=true):Bc bag kinds ps ws js ns=0/\∀k,(ps.getD k (⟨#[]⟩:ByteArray)).size<=1000:=by
 unfold fit9 at h;rw [Bool.and_eq_true] at h;exact ⟨Uh (of_decide_eq_true h.2),Ls (by simpa using h.1)⟩
end
end Go.Ns
namespace Go.Ns
open Go.Conc
section
variable {P:Program} {E:GG P} {O:Nat->Value} {ds:List Deferred} {h:GH} {T:(Nat->Value)->List Deferred->GH->Prop} {dst:Option Nat} {ty:TypeId} {pos:String} {af:Array Edge} {gd:Option (Nat×Bool)}
end
section
variable {F G:AI->Int} {l:List AI} {x:AI}
end
section
variable {bag kinds:Int} {ps:List ByteArray} {ws:List AH} {js:List AQ} {ns:List AM} {a b c:Int}
theorem openB_09(bk:Bc bag kinds ps ws js ns=0):(AE bag kinds ps ws js ns 0=0/\0<(AA ws js ns).length)\/(AE bag kinds ps ws js ns 0=9/\(AA ws js ns).length=0):=by
 unfold AE;rw [if_neg (λe=>e bk),if_neg aD];by_cases e:(AA ws js ns).length=0
 ·rw [if_pos e];exact .inr ⟨rfl,e⟩
 ·rw [if_neg e];exact .inl ⟨rfl,aA⟩
end
section
variable {bag kinds:Int} {ps:List ByteArray} {ws:List AH} {js:List AQ} {ns:List AM} {a b c s:Int}
end
end Go.Ns
namespace Go.Ns
open Go.Conc
section
variable {P:Program} {Post:Value->World->Prop}
def X9(P:Program)(Post:Value->World->Prop):Wk P:=⟨true,Dz P Post,KT⟩
theorem TP:Kp (X9 P Post):=⟨Post,rfl⟩
theorem ZF{f:FuncId}{fn:Func}{c:Code}{args:Array Value}{h:GH}{R:Value->GH->Prop}(hf:P.funcs[f]? =some fn)(hb:fn.body=some c)(hsz:args.size<=fn.ntmps)(hin:P.inits.idxOf? f=none)(hpost:∀v h',R v h'->∀w,D5 w h'->Post v w)
  (x:Tr ⟨X9 P Post,f,none,fn.ntmps⟩ c (λi=>args.getD i undef) [] h (λe O ds h'=>(e=.normal\/e=.ret)/\GI P fn O R ds h')):Dz P Post (G (Frame.enter P f args .normal) []) h:=by
 have e0:Frame.enter P f args .normal=Cg (Frame.enter P f args .normal) (args++Array.replicate (fn.ntmps-args.size) undef) [] [.code c]:=by
  simp [Frame.enter,Cg,hf,hb]
 rw [e0];let L:Lv:=λj t ds h'=>(j=none\/j=some .ret)/\∃O,Ba t fn.ntmps O/\GI P fn O R ds h';have fin:∀O ds h' t k,Ba t fn.ntmps O->GI P fn O R ds h'->(X9 P Post).K (G (EW (Frame.enter P f args .normal) t ds k) []) h':=by
  intro O ds h' t k hs ho;refine My (W:=X9 P Post) (R:=R) hf (b:=Frame.enter P f args .normal) rfl (λt k v h h' hr hrun=>?_) ds h' t k hs ho;refine VH rfl λw fw=>?_;obtain ⟨w',es,r1,r2⟩:=hrun w fw;refine ⟨v,w',seen P f es++ #[],h',?_,r2.sub (es':=seen P f es++ #[]) λe he=>?_,hpost v h' hr w' r2.fits⟩
  ·rw [Kh];unfold unwind;have hfn:(EW (Frame.enter P f args .normal) t [] k).fn=f:=rfl;have hk:(EW (Frame.enter P f args .normal) t [] k).kind=.normal:=rfl;have hm:(EW (Frame.enter P f args .normal) t [] k).mode=.returning:=rfl;have hd:(EW (Frame.enter P f args .normal) t [] k).defers=[]:=rfl;have ht:(EW (Frame.enter P f args .normal) t [] k).tmps=t:=rfl;simp only [hd,hm,hfn,hf,ht,r1,GStep.after,doReturn,hk,hin];rfl
  ·rw [Array.append_empty] at he;exact mem_seen he
 refine x (Frame.enter P f args .normal) [] [] L _ rfl rfl ⟨?_,?_,?_⟩ ⟨by simp;omega,λi=>?_⟩ ?_
 ·rintro t ds h' ⟨_,O,hs,ho⟩;exact Wk.go (EW (Frame.enter P f args .normal) t ds []) (λw=>by rw [A7];simp [stepG.exec,Cg,EW,G,Frame.enter]) (fin O ds h' t [] hs ho)
 ·rintro t ds h' k ⟨_,O,hs,ho⟩;exact Wk.go (EW (Frame.enter P f args .normal) t ds (.code .ret ::k)) (λw=>by rw [A7];simp [stepG.exec,Cg,EW,G,Frame.enter]) (fin O ds h' t _ hs ho)
 ·rintro id t ds h' k _ ⟨h1 | h1,_⟩ <;> cases h1
 ·by_cases hi:i<args.size
  ·simp [Array.getD_eq_getD_getElem?,Array.getElem?_append_left hi]
  ·simp only [Array.getD_eq_getD_getElem?];rw [Array.getElem?_append_right aA,Array.getElem?_eq_none (show args.size<=i by omega),Array.getElem?_replicate];split <;> rfl
 ·rintro e O ds h' ⟨he,ho⟩ t' ht';rcases he with rfl | rfl
  ·exact Wk.go (EW (Frame.enter P f args .normal) t' ds []) (λw=>by rw [A7];simp [stepG.exec,Cg,EW,G,Frame.enter]) (fin O ds h' t' [] ht' ho)
  ·exact ⟨.inr rfl,O,ht',ho⟩
def GH.of(W:World):GH:=λb=>(W.heap[b]?).map λo=>(false,o)
theorem GH.of_some{W:World}{b:Nat}{o:Obj}(h:W.heap[b]? =some o):GH.of W b=some (false,o):=by unfold GH.of;rw [h];rfl
theorem fits_of(W:World):D5 W (GH.of W):=λb p o h=>by
 unfold GH.of at h;cases e:W.heap[b]? with
 | none=>rw [e] at h;cases h
 | some x=>rw [e] at h;cases h;rfl
theorem kept_of{W w:World}{h:GH}(l:(GH.of W).Le h)(f:D5 w h){b:Nat}{o:Obj}(hb:W.heap[b]? =some o):w.heap[b]? =some o:=f b _ _ (l.keep (GH.of_some hb) rfl)
theorem WD{g:Goroutine}{W:World}(hg:Dz P Post g (GH.of W)):Bq P (Iq Post W.os W.output) (solo g W) #[]:=by
 have hno:∀k a,touchAt (#[]:Trace) k=some a->False:=λk a h=>by
  obtain ⟨op,h1,_⟩:=touch_of h;simp at h1
 refine hg #[g] W none (λ_=>0) #[] ⟨rfl,?_,fits_of W,?_,?_,λk a b hk=>(hno k a hk).elim,?_,λk a hk=>(hno k a hk).elim,λb p o k a _ _ hk=>(hno k a hk).elim⟩
 ·intro j x hj hx;rw [Array.getElem?_eq_none (by simp;omega)] at hx;cases hx
 ·intro op hop;simp at hop
 ·rintro said ⟨i,j,hij,⟨a,b,ha,_⟩,_⟩;exact hno i a ha
 ·intro op hop;simp at hop
end
end Go.Ns
namespace Go.Ns
open Go.Conc Go.ChangeShapes Go.WideShapes Go.ChangeAt Go.RowKit
section
variable {P:Program} {W:World}
theorem WE{b off n:Nat}{cs:List Value}(h:W.cells? 0 ⟨b,off,none⟩ n=some cs)(hn:0<n):Ab (GH.of W) b off n cs.toArray:=by
 obtain ⟨_,hl,hc⟩:=World.cells?_some h;have hcell:∀i,i<n->W.cell? ⟨b,off+i,none⟩=cs[i]? :=λi hi=>by
  have:=hc i hi
  unfold Addr.add at this;split at this
  ·rename_i e;subst e;exact this
  ·exact this
 have h0:=hcell 0 hn;unfold World.cell? at h0;cases hb:W.heap[b]? with
 | none=>simp [hb,List.getElem?_eq_getElem (show 0<cs.length by omega)] at h0
 | some o=>
  cases o with
  | cells c t f=>
   have hall:∀i,i<n->c[off+i]? =cs[i]? :=λi hi=>by
    have:=hcell i hi
    unfold World.cell? at this;simpa [hb] using this
   have hlast:=hall (n-1) aA;rw [List.getElem?_eq_getElem (show n-1<cs.length by omega)] at hlast;have hsz:=(Array.getElem?_eq_some_iff.1 hlast).1;refine ⟨false,c,t,f,GH.of_some hb,aA,?_⟩;apply Array.ext
   ·simp;omega
   ·intro i h1 h2;have hi:i<n:=by simp at h2;omega
    have:=hall i hi
    rw [Array.getElem?_eq_getElem aA,List.getElem?_eq_getElem aA] at this;simpa using this
  | _=>simp [hb,List.getElem?_eq_getElem (show 0<cs.length by omega)] at h0
def Mb(P:Program)(W:World)(e:TypeId){V:Type}(enc:V->Array Value)(good:V->Prop):Prop:=
 ∀{H:Type}(en:TypeId×Value->H)(sp:Nat->Bool)(held:Bool)(fuel:Nat)(cs:List Value)(x:DataW H×List MemPlace),DataW.trod en P W 0 sp held fuel e cs=some x->(∀y ∈ x.1.weights P e,y<=reachBytes)->∃a:V,cs=(enc a).toList/\good a
theorem Jr{H:Type}{e:TypeId}{d:DataW H}{y:Nat}:∀{l:List (DataW H)},d ∈ l->y ∈ d.weights P e->y ∈ DataW.weightsAll P e l
 | c ::l,hd,hy=>by
  unfold DataW.weightsAll;rcases List.mem_cons.1 hd with rfl | hd
  ·exact List.mem_append_left _ hy
  ·exact List.mem_append_right _ (Jr hd hy)
theorem Ig{H:Type}{en:TypeId×Value->H}{sp:Nat->Bool}{held:Bool}{fuel:Nat}{t e:TypeId}{n:Nat}{V:Type}{enc:V->Array Value}{good:V->Prop}{v:Value}{d:DataW H}{ps:List MemPlace}(ht:P.underlying t=some (.slice e))(hc:P.cellsOf e=n)(hn:0<n)
  (hb:1<=P.bytesOf e) (ho:Mb P W e enc good) (h:DataW.trod en P W 0 sp held fuel t [v]=some (d,ps)) (hw:∀y ∈ d.weights P t,y<=reachBytes):∃xs:List V,AD (GH.of W) v n enc xs/\∀x ∈ xs,good x:=by
 rcases DataW.trod_slice ht h with ⟨h1,_⟩ | ⟨a,len,cap,elems,rest,m,rfl,h1,h2,_,hl,_,hlen,hel,_,_⟩
 ·simp at h1;subst h1;exact ⟨[],AD.nil _ _ _,λx hx=>by cases hx⟩
 ·simp only [List.cons.injEq,and_true] at h1;subst h1;simp only [Prod.mk.injEq] at h2;have hd:d=.slice (elems.map (·.1)) (rest.map (·.1)):=h2.1;have hlim:len<=140737488355328:=by
   have:=hw ((elems.map (·.1)).length+(rest.map (·.1)).length |>.mul (P.bytesOf e)) (by rw [hd];unfold DataW.weights;rw [ht];exact List.mem_cons_self ..)
   have h3:(elems.map (·.1)).length+(rest.map (·.1)).length<=((elems.map (·.1)).length+(rest.map (·.1)).length)*P.bytesOf e:=Nat.le_mul_of_pos_right _ hb;have h4:((elems.map (·.1)).length+(rest.map (·.1)).length)*P.bytesOf e<=reachBytes:=this;rw [List.length_map] at h3 h4;unfold reachBytes at h4;omega
  have each:∀i,i<len->∃x:V,∃b off,a=⟨b,off,none⟩/\Ab (GH.of W) b (off+i*n) n (enc x)/\good x:=λi hi=>by
   have:=hel i hi
   rw [List.getElem?_eq_getElem aA,hc] at this;simp only [Option.bind_eq_some_iff] at this;obtain ⟨cs,hcs,hx⟩:=this;obtain ⟨x,e1,e2⟩:=ho _ _ _ _ _ _ hx λy hy=>hw y (by rw [hd];unfold DataW.weights;rw [ht];exact List.mem_cons_of_mem _ (List.mem_append_left _ (Jr (List.mem_map.2 ⟨_,List.getElem_mem (show i<elems.length by omega),rfl⟩) hy)));have hc0:=(World.cells?_some hcs).2.2 0 hn;have hlen2:=(World.cells?_some hcs).2.1;rw [List.getElem?_eq_getElem (show 0<cs.length by omega)] at hc0;have hsp:=World.cell?_spot hc0;obtain ⟨b,off,spot⟩:=a;have hspot:spot=none\/i≠0:=by
    by_cases e0:i=0
    ·subst e0;left;simpa [Addr.add] using hsp
    ·exact .inr e0
   have hfirst:spot=none:=by
    rcases hspot with e | e
    ·exact e
    ·have h00:=hel 0 aA;rw [List.getElem?_eq_getElem aA,hc] at h00;simp only [Option.bind_eq_some_iff] at h00;obtain ⟨c0,hc00,_⟩:=h00;have z:=(World.cells?_some hc00).2.2 0 hn;have zl:=(World.cells?_some hc00).2.1;rw [List.getElem?_eq_getElem (show 0<c0.length by omega)] at z
     have:=World.cell?_spot z
     simpa [Addr.add] using this
   subst hfirst;refine ⟨x,b,off,rfl,?_,e2⟩;have ea:(Addr.add ⟨b,off,none⟩ (i*n))=⟨b,off+i*n,none⟩:=by
    unfold Addr.add;split
    ·rename_i e;rw [e];rfl
    ·rfl
   rw [ea] at hcs
   have:=WE hcs hn
   rw [e1] at this;simpa using this
  by_cases hz:len=0
  ·subst hz;exact ⟨[],⟨some a,cap,rfl,Nat.zero_le _,Nat.zero_le _,λi hi=>by simp at hi⟩,λx hx=>by cases hx⟩
  ·have hch:∀i:Fin len,∃x:V,∃b off,a=⟨b,off,none⟩/\Ab (GH.of W) b (off+i.val*n) n (enc x)/\good x:=λi=>each i.val i.isLt;refine ⟨List.ofFn λi=>Classical.choose (hch i),⟨some a,cap,by rw [List.length_ofFn],by rw [List.length_ofFn];exact hl,by rw [List.length_ofFn];exact hlim,λi hi=>?_⟩,λx hx=>?_⟩
   ·rw [List.length_ofFn] at hi;obtain ⟨b,off,e1,e2,_⟩:=Classical.choose_spec (hch ⟨i,hi⟩);refine ⟨b,off,by rw [e1],?_⟩;rw [List.getElem_ofFn];exact e2
   ·obtain ⟨i,rfl⟩:=List.mem_ofFn.1 hx;obtain ⟨_,_,_,_,e3⟩:=Classical.choose_spec (hch i);exact e3
theorem Mc{H:Type}{en:TypeId×Value->H}{t:TypeId}(hl:laidOutB P=true)(hr:P.readableRec t=true)(hrow:t<P.types.size){W':World}{v:Value}{d:DataW H}{ps:List MemPlace}(h:DataW.Trod en P W 0 (λ_=>true) true t v d ps)
  (hk:∀(b:Nat)(o:Obj),W.heap[b]? =some o->W'.heap[b]? =some o) (hlt:∀x ∈ ps,x.block<W.heap.size):DataW.Trod en P W' 0 (λb=>decide (b<W.heap.size)) true t v d ps:=by
 let W2:World:={ W' with os:=W.os,tape:=W.tape,output:=W.output };have hsz:W.heap.size<=W'.heap.size:=by
  rcases Nat.lt_or_ge W'.heap.size W.heap.size with x | x
  ·have:=hk W'.heap.size _ (Array.getElem?_eq_getElem x)
   rw [Array.getElem?_eq_none (Nat.le_refl _)] at this;cases this
  ·exact x
 have hb:Below W.heap.size W W2:=⟨rfl,rfl,rfl,hsz,λk hk'=>by
  show W'.heap[k]? =_;rw [Array.getElem?_eq_getElem hk'];exact hk k _ (Array.getElem?_eq_getElem hk')⟩
 exact DataW.Trod.of_heap (w:=W2) (w':=W') rfl (Below.trod hl hr hrow h hb hlt)
theorem kept_but{W':World}(hk:∀(b:Nat)(o:Obj),W.heap[b]? =some o->W'.heap[b]? =some o)(ho:W'.os=W.os)(hp:W'.output=W.output)(may:MemPlace->Prop):W.keptBut W' may:=by
 refine ⟨ho,hp,λi hi=>?_⟩;rw [hk i _ (Array.getElem?_eq_getElem hi),Array.getElem?_eq_getElem hi];split <;> simp_all
end
end Go.Ns
namespace Go.Ns
open Go.Conc
theorem Kv{P:Program}{E:GG P}{O:Nat->Value}{ds:List Deferred}{h:GH}{T:(Nat->Value)->List Deferred->GH->Prop}{dst:Option Nat}{ty:TypeId}{pos:String}{af:Array Edge}{gd:Option (Nat×Bool)}{V:Type}
  {s x:TypeId} {o1 o2:Operand} {h0:GH} {w:Value} {r e n bytes:Nat} {enc:V->Array Value} {ys:List V} (ht:IZ P s x=some (e,n,bytes)) (h1:AR O o1=.slice (some ⟨r,0,none⟩) 0 0) (h2:AR O o2=w)
  (hv:AU h0 h (.slice (some ⟨r,0,none⟩) 0 0) e n enc ([]:List V)) (hw:AD h w n enc ys) (l0:∀q,h q=none->h0 q=none) (hb:(2*(([]:List V).length+ys.length)+512)*bytes<=2 ^ 48) (hfine:∀y ∈ ys,(enc y).toList.all (·.oneCell')=true)
  (k:∀v' h',AU h0 h' v' e n enc ys->GE h h' (.slice (some ⟨r,0,none⟩) 0 0) v'->h.Le h'->T (putS O dst v') ds h'):BV E ⟨dst,.call ⟨.builtin .append,#[o1,o2],#[s,x]⟩,ty,pos,af,gd⟩ O ds h T:=
 ON ht h1 h2 hv hw l0 hb hfine λv' h' o g1 g2 g3=>k v' h' o ⟨g1,g2⟩ (.of λb y hb=>by
  by_cases e:b=r
  ·subst e;rcases hv with ⟨q,_⟩ | ⟨b1,cap,c,q,_,q2,q3,_⟩
   ·cases q
   ·simp only [Value.slice.injEq,Option.some.injEq,Addr.mk.injEq,and_true] at q;obtain ⟨rfl,_,rfl⟩:=q;obtain ⟨c',q5,q6⟩:=g3 b c rfl q2;rw [q2] at hb;cases hb;rw [q5,Array.eq_empty_of_size_eq_zero (show c.size=0 by omega),Array.eq_empty_of_size_eq_zero (show c'.size=0 by omega)]
  ·exact g1 b y hb λq=>e (by simpa [Ca] using q.symm))
def JT(n:Nat)(l:List Int):Prop:=l.Nodup/\∀x ∈ l,0<=x/\x<n
section
variable {n i:Nat} {l kn rest:List Int}
theorem JT.at(h:JT n l)(k:Nat)(hk:k<l.length):0<=l.getD k 0/\l.getD k 0<n:=h.2 _ (Bl hk)
theorem JT.bell(h:JT n l):Ah n l=0:=CF (k:=l.length) (λj hj=>by
 have r:=h.at j hj;have e:D9 n (l.getD j 0)=0:=by unfold D9;rw [if_neg aA]
 unfold EA;rw [if_neg (λq=>q e),if_neg];intro q;obtain ⟨x,hx,e2⟩:=List.any_eq_true.1 q;have e3:l.getD j 0=x:=of_decide_eq_true e2;obtain ⟨t,ht,e4⟩:=List.mem_iff_getElem.1 hx;rw [List.length_take] at ht;rw [List.getElem_take] at e4
 have:=(List.pairwise_iff_getElem.1 (List.nodup_iff_pairwise_ne.1 h.1)) t j aA hj aA
 rw [DS 0 hj] at e3;exact this (e4.trans e3.symm)) (Nat.le_refl _)
theorem JT.len(h:JT n l):l.length<=n:=Hb h.bell
theorem JT.left(h:JT n (kn++rest)):JT n kn:=⟨(List.nodup_append.1 h.1).1,λx hx=>h.2 x (List.mem_append_left _ hx)⟩
theorem perm_out{l:List Int}:∀{i:Nat}(hi:i<l.length),([l[i]]++l.eraseIdx i).Perm l:=by
 induction l with
 | nil=>intro i hi;cases hi
 | cons x l ih=>
  intro i hi;cases i with
  | zero=>exact List.Perm.refl _
  | succ i=>exact (List.Perm.swap _ _ _).trans ((ih (Nat.lt_of_succ_lt_succ hi)).cons x)
theorem JT.next(h:JT n (kn++rest))(hi:i<rest.length):JT n (kn++[rest.getD i 0]++rest.eraseIdx i):=by
 have p:(kn++[rest.getD i 0]++rest.eraseIdx i).Perm (kn++rest):=by
  rw [List.append_assoc];refine List.Perm.append_left kn ?_;rw [DS 0 hi];exact perm_out hi
 exact ⟨p.nodup_iff.2 h.1,λx hx=>h.2 x (p.mem_iff.1 hx)⟩
theorem JT.first(n:Nat):JT n (Cs n):=by
 induction n with
 | zero=>exact ⟨List.nodup_nil,λx hx=>by cases hx⟩
 | succ n ih=>
  have m:∀x ∈ Cs n,0<=x/\x<(n:Int):=ih.2;refine ⟨List.nodup_append.2 ⟨ih.1,aD,λa ha b hb e=>?_⟩,λx hx=>?_⟩
  ·rw [List.mem_singleton.1 hb] at e
   have:=m a ha
   omega
  ·rcases List.mem_append.1 hx with hx | hx
   ·have:=m x hx
    omega
   ·rw [List.mem_singleton.1 hx];omega
end
def E8:Nat->Nat
 | 0=>1
 | n+1=>1+(n+1)*E8 n
theorem Pa:∀n,n<=4->E8 n<=65
 | 0,_=>aC
 | 1,_=>aC
 | 2,_=>aC
 | 3,_=>aC
 | 4,_=>aC
 | n+5,h=>aA
theorem WF{n i:Nat}(hn:n<=4)(hi:i<=n):1+i*E8 (n-1)<=65:=by
 rcases Nat.eq_zero_or_pos n with e | e
 ·subst e
  have:i=0:=aA
  subst this;decide
 ·have h:=Pa n hn;have e2:E8 n=1+n*E8 (n-1):=by
   cases n with
   | zero=>omega
   | succ n=>rfl
  have:=Nat.mul_le_mul_right (E8 (n-1)) hi
  omega
theorem Ui{n i:Nat}(hi:i=n){m:Nat}(h:m<=1+i*E8 (n-1)):m<=E8 n:=by
 subst hi;cases i with
 | zero=>simp at h;exact h
 | succ i=>exact h
def HG(n:Nat)(xl:List Sl):Prop:=∀x ∈ xl,JT n x.2
section
variable {n:Nat} {a b:List Sl}
theorem HG.app(ha:HG n a)(hb:HG n b):HG n (a++b):=λx hx=>(List.mem_append.1 hx).elim (ha x) (hb x)
theorem HG.one{v:Value}{l:List Int}(h:JT n l):HG n [(v,l)]:=λx hx=>by rw [List.mem_singleton.1 hx];exact h
theorem HG.at(h:HG n a){k:Nat}(hk:k<a.length):JT n (a.getD k Sl.z).2:=h _ (Bl hk)
end
section
variable {l:List Int} {i q:Nat}
end
section
variable {bag kinds:Int} {ps:List ByteArray} {ws:List AH} {js:List AQ} {ns:List AM} {l:List Int} {p:AI} {i:Nat}
end
section
variable {F G:AI->Int} {l:List AI}
end
section
variable {bag kinds:Int} {ps:List ByteArray} {ws:List AH} {js:List AQ} {ns:List AM} {l:List Int} {i k:Nat}
end
end Go.Ns
namespace Go.Ns
section
variable {bag kinds:Int} {ps:List ByteArray} {ws:List AH} {js:List AQ} {ns:List AM} {r l:List Int} {i k:Nat} {s:Int}
end
end Go.Ns
namespace Go.Ns
theorem WG{a b:List Int}{k:Nat}(hk:k<=a.length)(hkb:k<=b.length)(h:¬((k:Int)<a.length/\(k:Int)<b.length)):(Dd a b (a.length-k) k<0)↔(a.length:Int)<b.length:=by
 by_cases hA:(k:Int)<a.length
 ·rw [GP aA,if_pos aA];omega
 ·rw [Jb (k:=k) hA];split <;> omega
theorem ZG{a b:List Int}{k:Nat}(hk:k<a.length)(hkb:k<b.length)(h:¬a.getD k 0=b.getD k 0):(Dd a b (a.length-k) k<0)↔a.getD k 0<b.getD k 0:=by
 rw [GP hk,if_neg aA];unfold HN;split
 ·simp_all
 ·split <;> simp_all <;> omega
theorem ZH{a b:List Int}{k:Nat}(hk:k<a.length)(hkb:k<b.length)(h:¬¬a.getD k 0=b.getD k 0):Dd a b (a.length-k) k=Dd a b (a.length-(k+1)) (k+1):=by
 have e:=Decidable.not_not.1 h;rw [GP hk,if_neg aA,if_neg (by unfold HN;rw [e];simp)]
section
variable {a b c:List Int} {x y:Int}
theorem Lt(x y:Int)(a b:List Int):∀f k,Dd (x ::a) (y ::b) f (k+1)=Dd a b f k
 | 0,k=>by
  unfold Dd;by_cases h:(a.length:Int)<b.length
  ·rw [if_pos h,if_pos (by simp only [List.length_cons];omega)]
  ·rw [if_neg h,if_neg (by simp only [List.length_cons];omega)]
 | f+1,k=>by
  unfold Dd;rw [Lt x y a b f (k+1)];by_cases h:(b.length:Int)<=(k:Int)
  ·rw [if_pos h,if_pos (by simp only [List.length_cons];omega)]
  ·rw [if_neg h,if_neg (by simp only [List.length_cons];omega)];rfl
theorem Md(x y:Int)(a b:List Int):Dy (x ::a) (y ::b)=if¬HN x y=0 then HN x y else Dy a b:=by
 show Dd (x ::a) (y ::b) (a.length+1) 0=_;unfold Dd;rw [if_neg (by simp only [List.length_cons];omega),Lt];rfl
theorem cmpL_nil(b:List Int):Dy [] b<0↔b≠[]:=by
 cases b with
 | nil=>exact ⟨λh=>absurd h aC,λh=>absurd rfl h⟩
 | cons y b=>
  refine ⟨λ_=>aD,λ_=>?_⟩;show (if ((([]:List Int).length:Nat):Int)<((y ::b).length:Nat) then (-1:Int) else 0)<0;rw [if_pos (by simp only [List.length_cons,List.length_nil];omega)];decide
theorem Ro(x:Int)(a:List Int):¬Dy (x ::a) []<0:=by
 show¬Dd (x ::a) [] (a.length+1) 0<0
 unfold Dd;rw [if_pos aD];decide
theorem Me:∀(a b:List Int),Dy a b<0->¬Dy b a<0
 | [],[],h=>absurd h aC
 | [],y ::b,_=>Ro y b
 | x ::a,[],h=>absurd h (Ro x a)
 | x ::a,y ::b,h=>by
  rw [Md] at h ⊢;have ih:=Me a b;by_cases h1:x<y
  ·rw [show HN y x=1 by unfold HN;rw [if_neg aA,if_pos h1],if_pos aC];decide
  ·by_cases h2:y<x
   ·rw [show HN x y=1 by unfold HN;rw [if_neg h1,if_pos h2],if_pos aC] at h;exact absurd h aC
   ·rw [show HN x y=0 by unfold HN;rw [if_neg h1,if_neg h2],if_neg aC] at h;rw [show HN y x=0 by unfold HN;rw [if_neg h2,if_neg h1],if_neg aC];exact ih h
theorem Uj(a:List Int):¬Dy a a<0:=λh=>Me a a h h
theorem Uk(l:List Int):∀{a b:List Int},Dy a b<0->Dy (l++a) (l++b)<0:=by
 induction l with
 | nil=>exact λh=>h
 | cons x l ih=>
  intro a b h;show Dy (x ::(l++a)) (x ::(l++b))<0;rw [Md,if_neg (by unfold HN;simp)];exact ih h
theorem cmpL_lt(h:x<y)(a b:List Int):Dy (x ::a) (y ::b)<0:=by
 rw [Md,show HN x y= -1 by unfold HN;rw [if_pos h],if_pos aC];decide
end
section
variable {jobs l r:List Int} {f n:Nat}
theorem JC:∀(f:Nat)(l:List Int),∀r ∈ BK jobs f l,∃s,r=l++s
 | 0,l,r,h=>⟨[],by rw [List.mem_singleton.1 h];simp⟩
 | f+1,l,r,h=>by
  rcases List.mem_cons.1 h with e | h
  ·exact ⟨[],by rw [e];simp⟩
  ·obtain ⟨k,_,h⟩:=List.mem_flatMap.1 h;split at h
   ·cases h
   ·obtain ⟨s,e⟩:=JC f _ r h;exact ⟨k ::s,by rw [e];simp⟩
theorem Ul{l:List Int}{k:Int}:HQ l k=true↔k ∈ l:=by
 unfold HQ;rw [List.any_eq_true];exact ⟨λ⟨x,hx,e⟩=>by rw [of_decide_eq_true e];exact hx,λh=>⟨k,h,decide_eq_true rfl⟩⟩
theorem Pb(hj:jobs.Pairwise (· < ·)):∀(f:Nat)(l:List Int),(BK jobs f l).Pairwise λa b=>Dy a b<0
 | 0,l=>List.pairwise_singleton _ _
 | f+1,l=>by
  refine List.pairwise_cons.2 ⟨λr hr=>?_,?_⟩
  ·obtain ⟨k,_,h⟩:=List.mem_flatMap.1 hr;split at h
   ·cases h
   ·obtain ⟨s,e⟩:=JC f _ r h;rw [e,List.append_assoc]
    have:=Uk l (a:=[]) (b:=[k]++s) ((cmpL_nil _).2 aD)
    rwa [List.append_nil] at this
  ·rw [List.pairwise_flatMap];refine ⟨λk _=>?_,hj.imp λ{k k'} hk x hx y hy=>?_⟩
   ·split
    ·exact List.Pairwise.nil
    ·exact Pb hj f _
   ·split at hx
    ·cases hx
    ·split at hy
     ·cases hy
     ·obtain ⟨s,e⟩:=JC f _ x hx;obtain ⟨t,e2⟩:=JC f _ y hy;rw [e,e2,List.append_assoc,List.append_assoc];exact Uk l (cmpL_lt hk s t)
end
section
variable {g pre:List (List Int)} {x:List Int}
end
section
variable {G:List Int->Int} {l:List (List Int)}
theorem ZI{k:Nat}:(l.drop 1).getD k []=l.getD (k+1) []:=by
 rw [List.getD_eq_getElem?_getD,List.getElem?_drop,<-List.getD_eq_getElem?_getD,Nat.add_comm]
theorem Pc:∀k,∃i,i<=k/\(DA G l k).1=l.getD i []/\(DA G l k).2=G (l.getD i [])/\∀j,j<=k->G (l.getD i [])<=G (l.getD j [])/\(j<i->G (l.getD i [])<G (l.getD j []))
 | 0=>⟨0,Nat.le_refl _,rfl,rfl,λj hj=>by rw [show j=0 by omega];exact ⟨Int.le_refl _,λq=>absurd q (Nat.lt_irrefl _)⟩⟩
 | k+1=>by
  obtain ⟨i,h1,h2,h3,h4⟩:=Pc k;unfold DA;rw [ZI];split
  ·rename_i c
   rw [h3] at c;refine ⟨k+1,Nat.le_refl _,rfl,rfl,λj hj=>?_⟩;by_cases e:j=k+1
   ·subst e;exact ⟨Int.le_refl _,λq=>absurd q (Nat.lt_irrefl _)⟩
   ·have:=(h4 j aA).1
    exact ⟨aA,λ_=>aA⟩
  ·rename_i c
   rw [h3] at c;refine ⟨i,aA,h2,h3,λj hj=>?_⟩;by_cases e:j=k+1
   ·subst e;exact ⟨aA,λq=>aA⟩
   ·exact h4 j aA
theorem WH(hl:l.Pairwise λa b=>Dy a b<0){r:List Int}(hr:r ∈ l):G (Cu G l)<=G r/\(G (Cu G l)=G r->¬Dy r (Cu G l)<0):=by
 obtain ⟨i,h1,h2,_,h4⟩:=Pc (G:=G) (l:=l) (l.length-1);obtain ⟨j,hj,e⟩:=List.mem_iff_getElem.1 hr;have e2:l.getD j []=r:=by rw [List.getD_eq_getElem?_getD,List.getElem?_eq_getElem hj];exact e
 have hq:=h4 j aA;rw [e2] at hq;unfold Cu;rw [h2];refine ⟨hq.1,λq c=>?_⟩;have hi:i<l.length:=aA
 have ei:l.getD i []=l[i]:=by rw [List.getD_eq_getElem?_getD,List.getElem?_eq_getElem hi];rfl
 rcases Nat.lt_trichotomy j i with z | z | z
 ·have:=hq.2 z;omega
 ·subst z;rw [e2] at c;exact Uj _ c
 ·have:=(List.pairwise_iff_getElem.1 hl) i j hi hj z
  rw [ei,<-e] at c;exact Me _ _ this c
end
end Go.Ns
namespace Go.Ns
theorem YA{l l':List Int}(h:l.Pairwise (· < ·))(h':l'.Pairwise (· < ·))(e:∀x,x ∈ l↔x ∈ l'):l=l':=by
 induction l generalizing l' with
 | nil=>
  cases l' with
  | nil=>rfl
  | cons y l'=>exact absurd ((e y).2 List.mem_cons_self) aD
 | cons x l ih=>
  cases l' with
  | nil=>exact absurd ((e x).1 List.mem_cons_self) aD
  | cons y l'=>
   rw [List.pairwise_cons] at h h';have hxy:x=y:=by
    rcases List.mem_cons.1 ((e x).1 List.mem_cons_self) with q | q
    ·exact q
    ·rcases List.mem_cons.1 ((e y).2 List.mem_cons_self) with q' | q'
     ·exact q'.symm
     ·have h1:=h.1 y q';have h2:=h'.1 x q;omega
   subst hxy;congr 1;refine ih h.2 h'.2 λz=>⟨λhz=>?_,λhz=>?_⟩
   ·rcases List.mem_cons.1 ((e z).1 (List.mem_cons_of_mem _ hz)) with rfl | q
    ·exact absurd (h.1 z hz) aA
    ·exact q
   ·rcases List.mem_cons.1 ((e z).2 (List.mem_cons_of_mem _ hz)) with rfl | q
    ·exact absurd (h'.1 z hz) aA
    ·exact q
theorem ins_at{s l:List Int}{x:Int}{k i:Nat}(ha:s.Pairwise (· < ·))(hm:∀y,y ∈ s↔y ∈ l.take i)(hi:i<l.length)(hx:l.getD i 0=x)(hk:k<=s.length)(hge:∀j,k<=j->j<s.length->x<=s.getD j 0)(hlt:k=0\/s.getD (k-1) 0<x)(hne:¬(k<s.length/\s.getD k 0=x)) :
  (s.take k++[x]++s.drop k).Pairwise (· < ·)/\∀y,y ∈ s.take k++[x]++s.drop k↔y ∈ l.take (i+1):=by
 have hs:s=s.take k++s.drop k:=(List.take_append_drop k s).symm;have ha2:=ha;rw [hs] at ha2;obtain ⟨p1,p2,p3⟩:=List.pairwise_append.1 ha2;have mono:∀a b,a<b->b<s.length->s.getD a 0<s.getD b 0:=λa b hab hb=>by
  rw [DS 0 aA,DS 0 hb];exact List.pairwise_iff_getElem.1 ha a b aA hb hab
 have lo:∀y ∈ s.take k,y<x:=λy hy=>by
  obtain ⟨j,hj,e⟩:=List.mem_take_iff_getElem.1 hy;have hj2:j<s.length:=aA
  rcases hlt with rfl | hlt
  ·omega
  ·by_cases q:j=k-1
   ·rw [<-e,<-DS 0 hj2,q];exact hlt
   ·have:=mono j (k-1) aA aA
    rw [<-e,<-DS 0 hj2];omega
 have hi2:∀y ∈ s.drop k,x<y:=λy hy=>by
  obtain ⟨j,hj,e⟩:=List.mem_drop_iff_getElem.1 hy;have hkl:k<s.length:=aA
  have h0:=hge k (Nat.le_refl _) hkl;have h1:s.getD k 0≠x:=λe=>hne ⟨hkl,e⟩;by_cases q:j=0
  ·subst q
   have:s.getD k 0=y:=by rw [DS 0 hkl,<-e];simp
   omega
  ·have h2:=mono k (k+j) aA aA
   have:s.getD (k+j) 0=y:=by rw [DS 0 aA,<-e]
   omega
 refine ⟨List.pairwise_append.2 ⟨List.pairwise_append.2 ⟨p1,List.pairwise_singleton ..,λa h b hb=>by rw [List.mem_singleton.1 hb];exact lo a h⟩,p2,λa h b hb=>?_⟩,λy=>?_⟩
 ·rcases List.mem_append.1 h with h | h
  ·exact p3 a h b hb
  ·rw [List.mem_singleton.1 h];exact hi2 b hb
 ·have e:y ∈ s↔y ∈ s.take k\/y ∈ s.drop k:=by rw [<-List.mem_append,<-hs]
  rw [Dt 0 hi,hx];simp only [List.mem_append,List.mem_singleton,<-hm y,e];constructor
  ·rintro ((h | h) | h)
   ·exact .inl (.inl h)
   ·exact .inr h
   ·exact .inl (.inr h)
  ·rintro ((h | h) | h)
   ·exact .inl (.inl h)
   ·exact .inr h
   ·exact .inl (.inr h)
theorem ins_had{s l:List Int}{x:Int}{k i:Nat}(hm:∀y,y ∈ s↔y ∈ l.take i)(hi:i<l.length)(hx:l.getD i 0=x)(h:k<s.length/\s.getD k 0=x):∀y,y ∈ s↔y ∈ l.take (i+1):=λy=>by
 rw [Dt 0 hi,hx,List.mem_append,List.mem_singleton,<-hm y];exact ⟨.inl,λq=>q.elim id λe=>by rw [e,<-h.2];exact Bl h.1⟩
theorem ge_next{s:List Int}{x:Int}{k:Nat}(h:∀j,k<=j->j<s.length->x<=s.getD j 0)(hk:0<k)(hx:x<=s.getD ((k:Int)-1).toNat 0):∀j,k-1<=j->j<s.length->x<=s.getD j 0:=λj h1 h2=>by
 by_cases q:j=k-1
 ·rw [show ((k:Int)-1).toNat=k-1 by omega] at hx;rw [q];exact hx
 ·exact h j aA h2
section
variable {nj:Nat} {l:List Int} {k:Nat}
theorem cr6(h:¬(0<=l.getD k 0/\l.getD k 0<=(nj:Int)-1)):EA nj l k=6:=by
 have e:D9 nj (l.getD k 0)=6:=if_pos h;unfold EA;rw [e,if_pos aC]
theorem cr5(h:0<=l.getD k 0/\l.getD k 0<=(nj:Int)-1)(hm:l.getD k 0 ∈ l.take k):EA nj l k=5:=by
 have e:D9 nj (l.getD k 0)=0:=if_neg (λq=>q h);unfold EA;rw [e,if_neg aD,if_pos];exact List.any_eq_true.2 ⟨_,hm,decide_eq_true rfl⟩
theorem cr0(h:0<=l.getD k 0/\l.getD k 0<=(nj:Int)-1)(hm:¬l.getD k 0 ∈ l.take k):EA nj l k=0:=by
 have e:D9 nj (l.getD k 0)=0:=if_neg (λq=>q h);unfold EA;rw [e,if_neg aD,if_neg];intro q;obtain ⟨x,hx,hd⟩:=List.any_eq_true.1 q;exact hm (by rw [of_decide_eq_true hd];exact hx)
end
theorem sw_fin{w x y z u:Int}{c:Prop}[Decidable c](h0:w=0)(h1:y<=z)(h2:y<=u/\(y=u->¬c)):(((((decide (w=0/\w=0)) && ((x==x) && ((y==y) && true))) && (decide (y<=z))) && (decide (y<u\/(y=u/\¬c)))) && true)=true:=by
 have h3:y<u\/(y=u/\¬c):=(Int.lt_or_eq_of_le h2.1).imp id λe=>⟨e,h2.2 e⟩;rw [decide_eq_true (show w=0/\w=0 from ⟨h0,h0⟩),decide_eq_true h1,decide_eq_true h3];simp
section
variable {jobs l r q:List Int} {f n:Nat}
theorem Rp:∀(f:Nat)(l:List Int),∀r ∈ BK jobs f l,(l.Nodup->r.Nodup)/\∀y ∈ r,y ∈ l\/y ∈ jobs
 | 0,l,r,h=>by rw [List.mem_singleton.1 h];exact ⟨id,λy hy=>.inl hy⟩
 | f+1,l,r,h=>by
  rcases List.mem_cons.1 h with e | h
  ·rw [e];exact ⟨id,λy hy=>.inl hy⟩
  ·obtain ⟨k,hk,h⟩:=List.mem_flatMap.1 h;split at h
   ·cases h
   ·rename_i c
    obtain ⟨h1,h2⟩:=Rp f (l++[k]) r h;refine ⟨λhl=>h1 (List.nodup_append.2 ⟨hl,aD,λa ha b hb e=>?_⟩),λy hy=>?_⟩
    ·rw [List.mem_singleton.1 hb] at e;exact c (Ul.2 (e▸ha))
    ·rcases h2 y hy with z | z
     ·rcases List.mem_append.1 z with z | z
      ·exact .inl z
      ·rw [List.mem_singleton.1 z];exact .inr hk
     ·exact .inr z
theorem Pd:∀(s l:List Int)(f:Nat),s.length<=f->(l++s).Nodup->(∀y ∈ s,y ∈ jobs)->l++s ∈ BK jobs f l
 | [],l,f,_,_,_=>by rw [List.append_nil,FN];exact List.mem_cons_self
 | k ::s,l,0,h,_,_=>absurd h aD
 | k ::s,l,f+1,h,hv,hj=>by
  have e:l++k ::s=(l++[k])++s:=aD
  refine List.mem_cons_of_mem _ (List.mem_flatMap.2 ⟨k,hj k List.mem_cons_self,?_⟩);have hn:¬HQ l k=true:=λq=>by
   have d:=List.nodup_append.1 hv;exact d.2.2 k (Ul.1 q) k List.mem_cons_self rfl
  rw [if_neg hn,e];exact Pd s (l++[k]) f (by simp at h;omega) (by rw [<-e];exact hv) λy hy=>hj y (List.mem_cons_of_mem _ hy)
theorem nodup_le:∀{a b:List Int},a.Nodup->(∀y ∈ a,y ∈ b)->a.length<=b.length:=λ{a b} ha h=>(List.subset_def.2 (λ{y} hy=>h y hy) |> λs=>(List.Nodup.length_le_of_subset ha s))
theorem same_mem{a b:List Int}(ha:a.Nodup)(hb:b.Nodup)(hl:a.length=b.length)(h:∀y ∈ a,y ∈ b):∀y,y ∈ a↔y ∈ b:=λy=>⟨h y,λhy=>Decidable.byContradiction λc=>by
 have h1:(y ::a).Nodup:=List.nodup_cons.2 ⟨c,ha⟩
 have:=nodup_le h1 λz hz=>(List.mem_cons.1 hz).elim (λe=>e▸hy) (h z)
 simp at this;omega⟩
theorem GV{y:Int}:y ∈ B6 l↔y ∈ l:=by rw [Hs];exact List.mem_mergeSort
theorem Um(h:l.Nodup):(B6 l).Nodup:=by rw [Hs];exact (List.mergeSort_perm l _).nodup_iff.2 h
theorem KD(h:l.Nodup):(B6 l).Pairwise (· < ·):=by
 have a:=List.pairwise_mergeSort (le:=λx y:Int=>decide (x<=y)) (λa b c h1 h2=>by simp at *;omega) (λa b=>by simp;omega) l;rw [<-Hs] at a;have b:=List.nodup_iff_pairwise_ne.1 (Um h);exact (List.pairwise_and_iff.2 ⟨a,b⟩).imp λ{x y} q=>by
  have:=of_decide_eq_true q.1
  have:=q.2
  omega
theorem sort_is{s:List Int}(h:l.Nodup)(ha:s.Pairwise (· < ·))(hm:∀y,y ∈ s↔y ∈ l):B6 l=s:=YA (KD h) ha λy=>GV.trans (hm y).symm
theorem ZJ{a b:List Int}(ha:a.Nodup)(hb:b.Nodup)(e:∀y,y ∈ a↔y ∈ b):B6 a=B6 b:=YA (KD ha) (KD hb) λy=>GV.trans ((e y).trans GV.symm)
theorem sort_mem{a b:List Int}(e:B6 a=B6 b):∀y,y ∈ a↔y ∈ b:=λy=>by rw [<-GV (l:=a),e,GV]
theorem Un(hr:r.Nodup):q ∈ Ll (B6 r) r.length↔q.Nodup/\q.length=r.length/\∀y,y ∈ q↔y ∈ r:=by
 unfold Ll;rw [List.mem_filter];constructor
 ·rintro ⟨h1,h2⟩;have h2':=of_decide_eq_true h2;obtain ⟨a,b⟩:=Rp (B6 r).length [] q h1;have nd:=a List.nodup_nil;exact ⟨nd,h2',same_mem nd hr h2' λy hy=>(b y hy).elim (λz=>by cases z) GV.1⟩
 ·rintro ⟨h1,h2,h3⟩;refine ⟨?_,decide_eq_true h2⟩
  have:=Pd (jobs:=B6 r) q [] (B6 r).length (by rw [De];omega) h1 λy hy=>GV.2 ((h3 y).1 hy)
  exact this
end
section
variable {bag kinds:Int} {ps:List ByteArray} {ws:List AH} {js:List AQ} {ns:List AM} {r o:List Int}
theorem Rq(h0:AE bag kinds ps ws js ns 0=0)(hr:JT js.length r):AV bag kinds ps ws js ns r=Cu (λl=>Al (λx=>AF ps.length ws js x l) (AA ws js ns)) (Ll (B6 r) r.length):=by
 unfold AV;rw [hr.bell];exact if_neg (λe=>e h0)
theorem swift_in(h0:AE bag kinds ps ws js ns 0=0)(hr:JT js.length r):AV bag kinds ps ws js ns r ∈ Ll (B6 r) r.length:=by
 rw [Rq h0 hr];exact V4 (Ri hr.1)
theorem ZK(h0:AE bag kinds ps ws js ns 0=0)(hr:JT js.length r):JT js.length (AV bag kinds ps ws js ns r)/\∀y,y ∈ AV bag kinds ps ws js ns r↔y ∈ r:=by
 have m:=(Un hr.1).1 (swift_in h0 hr);exact ⟨⟨m.1,λx hx=>hr.2 x ((m.2.2 x).1 hx)⟩,m.2.2⟩
theorem WI(h0:¬AE bag kinds ps ws js ns 0=0)(hr:JT js.length r):(AV bag kinds ps ws js ns r).length=0:=by
 unfold AV;rw [hr.bell,if_pos h0];rfl
theorem Rr(h0:AE bag kinds ps ws js ns 0=0)(hr:JT js.length r)(ho:JT js.length o)(hl:o.length=r.length)(hm:∀y,y ∈ o↔y ∈ r) :
  BX (AE bag kinds ps ws js ns 0) (Al (λx=>AF ps.length ws js x (AV bag kinds ps ws js ns r)) (AA ws js ns))<=BX (AE bag kinds ps ws js ns 0) (Al (λx=>AF ps.length ws js x o) (AA ws js ns))/\
  (BX (AE bag kinds ps ws js ns 0) (Al (λx=>AF ps.length ws js x (AV bag kinds ps ws js ns r)) (AA ws js ns))=BX (AE bag kinds ps ws js ns 0) (Al (λx=>AF ps.length ws js x o) (AA ws js ns))->¬Dy o (AV bag kinds ps ws js ns r)<0):=by
 rw [h0];simp only [Lf];have asc:(Ll (B6 r) r.length).Pairwise λa b=>Dy a b<0:=List.Pairwise.filter _ (Pb (KD hr.1) _ [])
 have:=WH (G:=λl=>Al (λx=>AF ps.length ws js x l) (AA ws js ns)) asc ((Un hr.1).2 ⟨ho.1,hl,hm⟩)
 rwa [<-Rq h0 hr] at this
end
end Go.Ns
namespace Go.Ns
open Go.Conc
universe u
theorem Z{V:Sort u}{a:V}:a=a:=rfl
theorem Lr{h:GH}:GH.Le h h:=GH.Le.refl h
theorem Ln{h h':GH}(l:h.Le h'){r:Nat}(hr:h' r=none):h r=none:=l.nothing hr
theorem CV{h:GH}{b r:Nat}{p:Bool}{o:Obj}(hb:h b=some (p,o))(hr:h r=none):b≠r:=GH.ne_of hb hr
theorem Nb{a b:Nat}(h:Nat.ble a b=true):a<=b:=Nat.le_of_ble_eq_true h
theorem Dn{p:Prop}[Decidable p](h:¬¬p):p:=Decidable.not_not.1 h
theorem Et{V:Sort u}{a b c:V}(x:a=b)(y:b=c):a=c:=x.trans y
theorem Kl{h0 h:GH}(k:KeepD (λb=>h0 b=none) h0 h):h0.Le h:=k.leOf
theorem Bx{h:GH}{b:Nat}{p:Bool}{c:Array Value}{t:TypeId}{f:Nat×Nat}(hb:h b=some (p,.cells c t f)){n:Nat}(hn:c.size=n):Ab h b 0 n c:=Ab.box hb hn
abbrev lE(v:Value):Law2:=λ_ u _=>u=v
abbrev lF(v:Value):QZ:=λu _=>u=v
abbrev zP:Array Value:=#[.int .i64 0,.int .i64 0,.slice none 0 0,.slice none 0 0,.slice none 0 0,.slice none 0 0,.map none]
section
variable {P:Program} {E:GG P} {O:Nat->Value} {ds:List Deferred} {h:GH} {Q:Post} {T:(Nat->Value)->List Deferred->GH->Prop}
variable {dst:Option Nat} {ty:TypeId} {pos:String} {af:Array Edge} {ops:Array Oper} {o:Oper} {l:List Oper}
theorem Sq{x y:Code}(a:Tr E x O ds h (λe σ' ds' h'=>match e with | .normal=>Tr E y σ' ds' h' Q | e=>Q e σ' ds' h')):Tr E (.seq x y) O ds h Q:=tr_seq a
theorem Rg{id:Nat}{l:List Oper}(a:DJ E l.toArray l O ds h Q):Tr E (.region id l.toArray false) O ds h Q:=YH a
theorem Nl(q:Q .normal O ds h):DJ E ops [] O ds h Q:=trL_nil q
abbrev Rt:=@tr_ret
abbrev Bk:=@tr_block
abbrev Sk:=@tr_skip
abbrev Xt:=@tr_exit
def plainB(N:Nat)(o:Oper):Bool:=o.guard.isNone && !C1 o.op && Cz o.dst N
theorem Pl(hp:plainB E.N o=true)(x:BV E o O ds h λσ' ds' h'=>DJ E ops l σ' ds' h' Q):DJ E ops (o ::l) O ds h Q:=by
 simp only [plainB,Bool.and_eq_true,Option.isNone_iff_eq_none,Bool.not_eq_true'] at hp;exact GJ hp.1.1 hp.1.2 hp.2 x
theorem Mv{x:Operand}(v:Value)(hp:Cz dst E.N=true)(hx:AR O x=v)(k:DJ E ops l (putS O dst v) ds h Q):DJ E ops (⟨dst,.move x,ty,pos,af,none⟩ ::l) O ds h Q:=GJ rfl rfl hp (E0 hx k)
theorem As{x:Operand}(v:Value)(hp:Cz dst E.N=true)(hx:AR O x=v)(k:DJ E ops l (putS O dst v) ds h Q):DJ E ops (⟨dst,.assign x,ty,pos,af,none⟩ ::l) O ds h Q:=GJ rfl rfl hp (MB hx k)
theorem Ld{t:TypeId}{x:Operand}{b off:Nat}(v:Value)(hp:Cz dst E.N=true)(hx:AR O x=.pointer (some ⟨b,off,none⟩))(hr:Rd P h t b off v)(k:DJ E ops l (putS O dst v) ds h Q):DJ E ops (⟨dst,.load t x,ty,pos,af,none⟩ ::l) O ds h Q:=
 GJ rfl rfl hp (CW hx hr k)
theorem Fa{s:TypeId}{x:Operand}{f o b off:Nat}(hf:Dw P s f=some o)(hp:Cz dst E.N=true)(hx:AR O x=.pointer (some ⟨b,off,none⟩))(k:DJ E ops l (putS O dst (.pointer (some ⟨b,off+o,none⟩))) ds h Q) :
  DJ E ops (⟨dst,.fieldAddr s x f,ty,pos,af,none⟩ ::l) O ds h Q:=GJ rfl rfl hp (AL hf hx k)
theorem Pk{c a b:Operand}(t:Bool)(v:Value)(hp:Cz dst E.N=true)(hc:AR O c=.bool t)(hv:(if t then AR O a else AR O b)=v)(k:DJ E ops l (putS O dst v) ds h Q):DJ E ops (⟨dst,.pick c a b,ty,pos,af,none⟩ ::l) O ds h Q:=
 GJ rfl rfl hp (Av hc hv k)
theorem Ad{xt yt:TypeId}{x y:Operand}(a b:Int)(hp:Cz dst E.N=true)(hx:AR O x=.int .i64 a)(hy:AR O y=.int .i64 b)(hr: -9223372036854775808<=a+b/\a+b<=9223372036854775807)(k:DJ E ops l (putS O dst (.int .i64 (a+b))) ds h Q) :
  DJ E ops (⟨dst,.binOp .add xt x y yt,ty,pos,af,none⟩ ::l) O ds h Q:=GJ rfl rfl hp (DX hx hy hr k)
def skipB(N:Nat)(ops:Array Oper)(o:Oper)(j d:Nat)(is:Bool):Bool:=(match o.guard with
 | some (i,w)=>i==j && w !=is
 | none=>false) && (match ops[j]? with
 | some oj=>(match oj.dst with
  | some e=>e==d
  | none=>false)
 | none=>false) && Nat.blt d N && Cz o.dst N
theorem Gs(j d:Nat){is:Bool}(hv:O d=.bool is)(hs:skipB E.N ops o j d is=true)(x:DJ E ops l (putS O o.dst undef) ds h Q):DJ E ops (o ::l) O ds h Q:=by
 simp only [skipB,Bool.and_eq_true] at hs;obtain ⟨⟨⟨h1,h2⟩,h3⟩,h4⟩:=hs;cases hg:o.guard with
 | none=>rw [hg] at h1;cases h1
 | some q=>
  obtain ⟨i,w⟩:=q;rw [hg] at h1;simp only [Bool.and_eq_true,beq_iff_eq,bne_iff_ne,ne_eq] at h1;obtain ⟨rfl,hne⟩:=h1;cases hj:ops[i]? with
  | none=>rw [hj] at h2;cases h2
  | some oj=>
   cases hd:oj.dst with
   | none=>simp [hj,hd] at h2
   | some e=>
    obtain rfl:e=d:=by simpa [hj,hd] using h2
    exact OE hg hj hd hv h3 hne h4 x
def goB(N:Nat)(ops:Array Oper)(o:Oper)(j d:Nat)(is:Bool):Bool:=(match o.guard with
 | some (i,w)=>i==j && w==is
 | none=>false) && (match ops[j]? with
 | some oj=>(match oj.dst with
  | some e=>e==d
  | none=>false)
 | none=>false) && Nat.blt d N && !C1 o.op && Cz o.dst N
theorem Gg(j d:Nat){is:Bool}(hv:O d=.bool is)(hs:goB E.N ops o j d is=true)(x:BV E o O ds h λσ' ds' h'=>DJ E ops l σ' ds' h' Q):DJ E ops (o ::l) O ds h Q:=by
 simp only [goB,Bool.and_eq_true,Bool.not_eq_true'] at hs;obtain ⟨⟨⟨⟨h1,h2⟩,h3⟩,h5⟩,h4⟩:=hs;cases hg:o.guard with
 | none=>rw [hg] at h1;cases h1
 | some q=>
  obtain ⟨i,w⟩:=q;rw [hg] at h1;simp only [Bool.and_eq_true,beq_iff_eq] at h1;obtain ⟨rfl,rfl⟩:=h1;cases hj:ops[i]? with
  | none=>rw [hj] at h2;cases h2
  | some oj=>
   cases hd:oj.dst with
   | none=>simp [hj,hd] at h2
   | some e=>
    obtain rfl:e=d:=by simpa [hj,hd] using h2
    exact trL_opg hg hj hd hv h3 (.inr h5) h4 x
end
section
variable {S:Nat->Prop} {Pre:Nat->GH->Prop} {Φ:List Law2} {cl:List Nat} {k d:Nat} {h h':GH} {O:Nat->Value} {ds:List Deferred} {v:Value}
theorem fL{Φ:List QZ}(p:LL Φ k v h):ds=ds/\GH.Le h h/\∃w,putS O (some d) v=putS O (some d) w/\LL Φ k w h:=⟨rfl,GH.Le.refl _,_,rfl,p⟩
theorem K1{R:GH->GH->Prop}{Φ:List QZ}{a:Value}(x:Fw R Φ):Fw R (lF a ::Φ):=⟨λ_ _ _ _ y=>y,x⟩
theorem K2{R:GH->GH->Prop}{Φ:List QZ}{a b:Value}(x:Fw R Φ):Fw R (lF a ::lF b ::Φ):=K1 (K1 x)
theorem K4{R:GH->GH->Prop}{Φ:List QZ}{a b c d:Value}(x:Fw R Φ):Fw R (lF a ::lF b ::lF c ::lF d ::Φ):=K2 (K2 x)
theorem K8{R:GH->GH->Prop}{Φ:List QZ}{a b c d a' b' c' d':Value}(x:Fw R Φ):Fw R (lF a ::lF b ::lF c ::lF d ::lF a' ::lF b' ::lF c' ::lF d' ::Φ):=K4 (K4 x)
end
end Go.Ns
namespace Go.Ns
open Go.Conc
section
variable {P:Program} {E:GG P} {O:Nat->Value} {ds:List Deferred} {h:GH} {Q:Post} {T:(Nat->Value)->List Deferred->GH->Prop}
variable {dst:Option Nat} {ty:TypeId} {pos:String} {af:Array Edge} {ops:Array Oper} {o:Oper} {l:List Oper} {gd:Option (Nat×Bool)}
theorem Mz{x:Operand}(v:Value)(e:(Cz dst E.N,AR O x)=(true,v))(k:DJ E ops l (putS O dst v) ds h Q):DJ E ops (⟨dst,.move x,ty,pos,af,none⟩ ::l) O ds h Q:=Mv v (congrArg Prod.fst e) (congrArg Prod.snd e) k
theorem Az{x:Operand}(v:Value)(e:(Cz dst E.N,AR O x)=(true,v))(k:DJ E ops l (putS O dst v) ds h Q):DJ E ops (⟨dst,.assign x,ty,pos,af,none⟩ ::l) O ds h Q:=As v (congrArg Prod.fst e) (congrArg Prod.snd e) k
theorem Lz{t:TypeId}{x:Operand}{b off:Nat}(v:Value)(e:(Cz dst E.N,AR O x)=(true,.pointer (some ⟨b,off,none⟩)))(hr:Rd P h t b off v)(k:DJ E ops l (putS O dst v) ds h Q):DJ E ops (⟨dst,.load t x,ty,pos,af,none⟩ ::l) O ds h Q:=
 Ld v (congrArg Prod.fst e) (congrArg Prod.snd e) hr k
theorem Fz{s:TypeId}{x:Operand}{f o b off:Nat}(hf:Dw P s f=some o)(e:(Cz dst E.N,AR O x)=(true,.pointer (some ⟨b,off,none⟩)))(k:DJ E ops l (putS O dst (.pointer (some ⟨b,off+o,none⟩))) ds h Q) :
  DJ E ops (⟨dst,.fieldAddr s x f,ty,pos,af,none⟩ ::l) O ds h Q:=Fa hf (congrArg Prod.fst e) (congrArg Prod.snd e) k
theorem Pz{c a b:Operand}(t:Bool)(v:Value)(e:(Cz dst E.N,AR O c,(if t then AR O a else AR O b))=(true,.bool t,v))(k:DJ E ops l (putS O dst v) ds h Q):DJ E ops (⟨dst,.pick c a b,ty,pos,af,none⟩ ::l) O ds h Q:=
 Pk t v (congrArg Prod.fst e) (congrArg (λq=>q.2.1) e) (congrArg (λq=>q.2.2) e) k
theorem Yd{xt yt:TypeId}{x y:Operand}{a b:Int}(e:(Cz dst E.N,AR O x,AR O y)=(true,.int .i64 a,.int .i64 b))(hr: -9223372036854775808<=a+b/\a+b<=9223372036854775807)(k:DJ E ops l (putS O dst (.int .i64 (a+b))) ds h Q) :
  DJ E ops (⟨dst,.binOp .add xt x y yt,ty,pos,af,none⟩ ::l) O ds h Q:=Ad a b (congrArg Prod.fst e) (congrArg (λq=>q.2.1) e) (congrArg (λq=>q.2.2) e) hr k
theorem Mo{x:Operand}(v:Value)(hx:AR O x=v)(k:T (putS O dst v) ds h):BV E ⟨dst,.move x,ty,pos,af,gd⟩ O ds h T:=E0 hx k
theorem Lo{t:TypeId}{x:Operand}{b off:Nat}(v:Value)(hx:AR O x=.pointer (some ⟨b,off,none⟩))(hr:Rd P h t b off v)(k:T (putS O dst v) ds h):BV E ⟨dst,.load t x,ty,pos,af,gd⟩ O ds h T:=CW hx hr k
theorem Ex{x:Operand}{n:Nat}{vs:Array Value}(v:Value)(e:(AR O x,vs[n]?)=(.tuple vs,some v))(k:T (putS O dst v) ds h):BV E ⟨dst,.extract x n,ty,pos,af,gd⟩ O ds h T:=VM (congrArg Prod.fst e) (congrArg Prod.snd e) k
theorem Bo{t:TypeId}{x:Operand}{v:Value}(c:Array Value)(hx:AR O x=v)(hc:v.cells=c)
  (k:∀r h',h r=none->h.Le h'->h' r=some (true,.cells c t (0,0))->(∀b,b≠r->h' b=h b)->T (putS O dst (.pointer (some ⟨r,0,none⟩))) ds h'):BV E ⟨dst,.box t x,ty,pos,af,gd⟩ O ds h T:=SX hx hc k
theorem So{t:TypeId}{a x:Operand}{b off n:Nat}{g:Bool}{c:Array Value}{et:TypeId}(v:Value)(c':Array Value)(ht:Cd P t=some (g,n))(e:(AR O a,AR O x)=(.pointer (some ⟨b,off,none⟩),v))(hb:h b=some (true,.cells c et (0,0)))
  (e2:(v.cells.size,Value.fine v)=(n,true)) (hn:off+n<=c.size) (hc:B0 c off v.cells.toList=c') (k:∀h',h' b=some (true,.cells c' et (0,0))->(∀x,x≠b->h' x=h x)->T (putS O dst undef) ds h') :
  BV E ⟨dst,.store t a x,ty,pos,af,gd⟩ O ds h T:=An ht (congrArg Prod.fst e) (congrArg Prod.snd e) hb (congrArg Prod.fst e2) (congrArg Prod.snd e2) hn hc k
theorem Ot{fn:Func}{R:Value->GH->Prop}{t:Tmp}(v:Value)(e:(fn.results,O t)=(#[.tmp t],v))(x:R v h):GI P fn O R [] h:=Hi (congrArg Prod.fst e) (congrArg Prod.snd e) x
theorem Ou{fn:Func}{R:Value->GH->Prop}{t u:Tmp}(v v':Value)(e:(fn.results,O t,O u)=(#[.tmp t,.tmp u],v,v'))(x:R (.tuple #[v,v']) h):GI P fn O R [] h:=outs2 (congrArg Prod.fst e) (congrArg (λq=>q.2.1) e) (congrArg (λq=>q.2.2) e) x
theorem Sr{id:Nat}{y:Code}(a:DJ E l.toArray l O ds h (λe σ' ds' h'=>match e with | .normal=>Tr E y σ' ds' h' Q | e=>Q e σ' ds' h')):Tr E (.seq (.region id l.toArray false) y) O ds h Q:=Sq (Rg a)
theorem S2{id:Nat}{y z:Code}(a:DJ E l.toArray l O ds h (λe σ' ds' h'=>match e with | .normal=>Tr E y σ' ds' h' (λe σ' ds' h'=>match e with | .normal=>Tr E z σ' ds' h' Q | e=>Q e σ' ds' h') | e=>(λe σ' ds' h'=>match e with | .normal=>Tr E z σ' ds' h' Q | e=>Q e σ' ds' h') e σ' ds' h')) :
  Tr E (.seq (.seq (.region id l.toArray false) y) z) O ds h Q:=Sq (Sq (Rg a))
theorem Zr{V:Type}{a b:V}:a=b\/a=a:=.inr rfl
theorem M2{x x':Operand}{dst':Option Nat}{ty':TypeId}{pos':String}{af':Array Edge}(v v':Value)(e:(Cz dst E.N,AR O x,Cz dst' E.N,AR (putS O dst v) x')=(true,v,true,v'))(k:DJ E ops l (putS (putS O dst v) dst' v') ds h Q):DJ E ops (⟨dst,.move x,ty,pos,af,none⟩ ::⟨dst',.move x',ty',pos',af',none⟩ ::l) O ds h Q:=
 Mv v (congrArg Prod.fst e) (congrArg (λq=>q.2.1) e) (Mv v' (congrArg (λq=>q.2.2.1) e) (congrArg (λq=>q.2.2.2) e) k)
theorem A2{x x':Operand}{dst':Option Nat}{ty':TypeId}{pos':String}{af':Array Edge}(v v':Value)(e:(Cz dst E.N,AR O x,Cz dst' E.N,AR (putS O dst v) x')=(true,v,true,v'))(k:DJ E ops l (putS (putS O dst v) dst' v') ds h Q):DJ E ops (⟨dst,.assign x,ty,pos,af,none⟩ ::⟨dst',.assign x',ty',pos',af',none⟩ ::l) O ds h Q:=
 As v (congrArg Prod.fst e) (congrArg (λq=>q.2.1) e) (As v' (congrArg (λq=>q.2.2.1) e) (congrArg (λq=>q.2.2.2) e) k)
theorem Ct{W:Wk P}{f:FuncId}{fn:Func}{c:Code}{args:Array Value}{R:Value->GH->Prop}(hf:P.funcs[f]? =some fn)(e:(fn.body,Nat.ble args.size fn.ntmps)=(some c,true))
  (x:Tr ⟨W,f,none,fn.ntmps⟩ c (λi=>args.getD i undef) [] h (λe O ds h'=>(e=.normal\/e=.ret)/\GI P fn O R ds h')):AZ W f args h R:=VL hf (congrArg Prod.fst e) (Nat.le_of_ble_eq_true (congrArg Prod.snd e)) x
end
section
variable {P:Program} {E:GG P} {l:List Oper} {n:Nat} {fl:Bool} {hs:GH} {ds:List Deferred} {Lw:Nat->Value->GH->Prop} {F:(Nat->Value)->GH->Prop} {π:List Nat} {O:Nat->Value} {h:GH} {m k g d:Nat} {dst:Option Nat} {op:Op} {ty:TypeId} {pos:String} {af:Array Edge} {v:Value} {w is:Bool} {og:Oper}
theorem Rz(e:(KW m,l[k]?)=((.r,k),some ⟨dst,op,ty,pos,af,none⟩))(x:Sd E ⟨dst,op,ty,pos,af,none⟩ O ds h v)(y:TD E l n fl hs ds Lw F (dK π) (putS O dst v) h):TD E l n fl hs ds Lw F (dK (m ::π)) O h:=tR (congrArg Prod.fst e) (congrArg Prod.snd e) x y
theorem Rm{x:Operand}(v:Value)(e:(KW m,l[k]?,AR O x)=((.r,k),some ⟨dst,.move x,ty,pos,af,none⟩,v))(y:TD E l n fl hs ds Lw F (dK π) (putS O dst v) h):TD E l n fl hs ds Lw F (dK (m ::π)) O h:=
 tR (congrArg Prod.fst e) (congrArg (λq=>q.2.1) e) (E0 (congrArg (λq=>q.2.2) e) vz) y
theorem Rl{t:TypeId}{x:Operand}{b off:Nat}(v:Value)(e:(KW m,l[k]?,AR O x)=((.r,k),some ⟨dst,.load t x,ty,pos,af,none⟩,.pointer (some ⟨b,off,none⟩)))(hr:Rd P h t b off v)(y:TD E l n fl hs ds Lw F (dK π) (putS O dst v) h):TD E l n fl hs ds Lw F (dK (m ::π)) O h:=
 tR (congrArg Prod.fst e) (congrArg (λq=>q.2.1) e) (CW (congrArg (λq=>q.2.2) e) hr vz) y
theorem Py(e:(KW m,l[k]?)=((.p,k),some ⟨dst,op,ty,pos,af,none⟩))(x:∀hx,Sd E ⟨dst,op,ty,pos,af,none⟩ O ds hx v)(y:TD E l n fl hs ds Lw F (dK π) (putS O dst v) h):TD E l n fl hs ds Lw F (dK (m ::π)) O h:=tP (congrArg Prod.fst e) (congrArg Prod.snd e) x y
theorem Ry(e:(KW m,l[k]?,l[g]?,og.dst)=((.r,k),some ⟨dst,op,ty,pos,af,some (g,w)⟩,some og,some d))(h3:O d=.bool w)(x:Sd E ⟨dst,op,ty,pos,af,some (g,w)⟩ O ds h v)
  (y:TD E l n fl hs ds Lw F (dK π) (putS O dst v) h):TD E l n fl hs ds Lw F (dK (m ::π)) O h:=tRg (congrArg Prod.fst e) (congrArg (λq=>q.2.1) e) (congrArg (λq=>q.2.2.1) e) (congrArg (λq=>q.2.2.2) e) h3 x y
theorem Sz{kd:Kd}(e:(KW m,l[k]?,l[g]?,og.dst)=((kd,k),some ⟨dst,op,ty,pos,af,some (g,w)⟩,some og,some d))(h3:O d=.bool is)(hne:(is==w)=false)
  (y:TD E l n fl hs ds Lw F (dK π) (putS O dst undef) h) (hl:(kd !=Kd.l)=true:=by rfl):TD E l n fl hs ds Lw F (dK (m ::π)) O h:=tS (congrArg Prod.fst e) (congrArg (λq=>q.2.1) e) (congrArg (λq=>q.2.2.1) e) (congrArg (λq=>q.2.2.2) e) h3 hne y hl
end
end Go.Ns
namespace Go.Ns
open Go.Conc
abbrev J(x:Int):Value:=.int .i64 x
abbrev Pt(b:Nat):Value:=.pointer (some ⟨b,0,none⟩)
abbrev Sc(b:Nat)(n c:Nat):Value:=.slice (some ⟨b,0,none⟩) n c
abbrev Q0:Array Value:=#[J 0,J 0,.slice none 0 0,.slice none 0 0,.slice none 0 0,.slice none 0 0,.slice none 0 0,.map none]
abbrev Q1(a:List AH)(b:List AQ)(c:List AM)(d:Nat):Array Value:=#[J (((AA a b c).getD (((d:Int)-1).toNat) AI.zero).ways 0),J (((AA a b c).getD (((d:Int)-1).toNat) AI.zero).ways 1),J (((AA a b c).getD (((d:Int)-1).toNat) AI.zero).ways 2),J (((AA a b c).getD (((d:Int)-1).toNat) AI.zero).ways 3),J (((AA a b c).getD (((d:Int)-1).toNat) AI.zero).ways 4)]
abbrev Q2(a:List AH)(b:List AQ)(c:List AM)(d:Nat):Array Value:=#[J (((AA a b c).getD d AI.zero).ways 0),J (((AA a b c).getD d AI.zero).ways 1),J (((AA a b c).getD d AI.zero).ways 2),J (((AA a b c).getD d AI.zero).ways 3),J (((AA a b c).getD d AI.zero).ways 4)]
abbrev Q3(a:List AH)(b:Nat):Array Value:=#[J ((a.getD b AH.z).a),J ((a.getD b AH.z).b),J ((a.getD b AH.z).low),J ((a.getD b AH.z).high)]
abbrev Q4(a:ByteArray)(b:Nat):=decide (¬(((97<=((bytesOf a).getD b 0))/\(((bytesOf a).getD b 0)<=122))\/(((0<(b:Int))/\(48<=((bytesOf a).getD b 0)))/\(((bytesOf a).getD b 0)<=57))))
abbrev Q5(a:Int):=KN (KN a (FF a 13)) ((KN a (FF a 13)) / 128)
abbrev Q6:Value:=.slice none 0 0
abbrev Q7(a:List AM)(b:Nat):Array Value:=#[(a.getD b AM.z).wv,J ((a.getD b AM.z).low),J ((a.getD b AM.z).high)]
abbrev Q8(a:ByteArray)(b:Nat):=(bytesOf a).getD b 0
abbrev Q9(a:List AQ)(b:Nat):=decide ((¬(((0<=((a.getD b AQ.z).low)/\((a.getD b AQ.z).low)<=((a.getD b AQ.z).high))/\((a.getD b AQ.z).high)<=30)/\((a.getD b AQ.z).high)-((a.getD b AQ.z).low)<2))\/(¬(0<=((a.getD b AQ.z).due)/\((a.getD b AQ.z).due)<=200)))
abbrev Qa(a:List AH)(b:Nat):=(a.getD b AH.z).b
abbrev Qb(a:List AQ)(b:Nat):Array Value:=#[J ((a.getD b AQ.z).place),J ((a.getD b AQ.z).low),J ((a.getD b AQ.z).high),J ((a.getD b AQ.z).due),(a.getD b AQ.z).pv]
abbrev Qc(a:List AI)(b:Nat):=(a.drop (1)).getD b AI.zero
abbrev Qd(a:List Value)(b:Array Int)(c:Nat)(d:Nat):=Bm a ((b.setIfInBounds c (b[d]!)).setIfInBounds d (b[c]!))
abbrev Qe(a:Nat)(b:Array Int)(c:Nat):=Sc a b.size c
abbrev Qf(a:List AH)(b:Nat):=(a.getD b AH.z).a
abbrev Qg(a:List ByteArray)(b:List AH)(c:List AQ)(d:List AM):=decide ((((20<(a.length:Int))\/(20<(b.length:Int)))\/(20<(c.length:Int)))\/(20<(d.length:Int)))
abbrev Qh(a:Int)(b:Int):=decide ((¬(0<=a/\a<=9))\/(¬(0<=b/\b<=3)))
abbrev Qi(a:Int)(b:Int):Value:=.bool (decide (a<=b))
abbrev Qj(a:List AH)(b:List AQ)(c:List AM)(d:Nat):Value:=.agg (Ag ((AA a b c).getD d AI.zero))
abbrev Qk(a:Int)(b:Int)(c:Int)(d:Int):=decide ((((0<=a)/\(a<=b))/\(b<=c))/\((b-a)<d))
abbrev Ql(a:List ByteArray)(b:List AH)(c:Nat):=J (B7 a.length [(b.getD c AH.z).a,(b.getD c AH.z).b])
abbrev Qm(a:Nat)(b:Nat)(c:Array Int)(d:Nat):=decide (((a:Int)<=(b:Int))/\(¬((c[b]!)<(c[d]!))))
abbrev Qn(a:List Int)(b:Nat):=J (a.getD b 0)
abbrev Qo(a:List AI):=a.getD 0 AI.zero
abbrev Qp(a:List AQ)(b:List Int):=Ah a.length b
abbrev Qq(a:List AQ)(b:List Int)(c:Int):=(a.getD ((b.getD (c.toNat) 0).toNat) AQ.z).due
abbrev Qr(a:List ByteArray)(b:Int)(c:Int):=B7 a.length [b,c]
abbrev Qs(a:List AM)(b:Nat):Array Value:=#[J ((a.getD b AM.z).low),J ((a.getD b AM.z).high)]
abbrev Qt(a:List AQ)(b:Int):=D9 a.length b
abbrev Qu(a:List AH)(b:Nat):Array Value:=#[J ((a.getD b AH.z).low),J ((a.getD b AH.z).high)]
abbrev Qv(a:List AQ)(b:Nat):Array Value:=#[J ((a.getD b AQ.z).low),J ((a.getD b AQ.z).high)]
abbrev Qw(a:List AM)(b:Nat)(c:Nat):=((a.getD b AM.z).ways).getD c 0
abbrev Qx(a:Int)(b:Int):=decide (((0<=a/\a<=b)/\b<=30)/\((b-a)<2))
abbrev Qy(a:List Value)(b:Array Int)(c:Nat)(d:Nat):=Bm a (b.setIfInBounds c (b[d]!))
abbrev Qz(a:Nat):=J ((2*(a:Int))+1)
abbrev Q10(a:Nat)(b:Int)(c:Array Int)(d:Nat):=decide (((((2*(a:Int))+1)+1)<b)/\((c[(d+((2*a)+1))]!)<(c[((d+((2*a)+1))+1)]!)))
abbrev Q11(a:List AQ)(b:List Int)(c:Int):=Eo a.length b c
abbrev Q12(a:Int)(b:Int)(c:Int):=decide ((a<=b)/\(b<=c))
abbrev Q13(a:Nat)(b:Nat):Value:=.bool (decide ((a:Int)<=(b:Int)))
abbrev Q14(a:Nat)(b:Nat):=J ((a:Int)-(b:Int))
abbrev Q15(a:Int)(b:Int)(c:Int)(d:Int):=decide (((a<=b)/\(b<=c))/\(c<=d))
abbrev Q16(a:Nat)(b:Nat)(c:Array Int):=decide (((a:Int)<(b:Int))/\((c[b]!)<(c[((b:Int)-1).toNat]!)))
abbrev Q17(a:List AQ)(b:Nat):=(a.getD b AQ.z).due
abbrev Q18(a:List AM)(b:Nat):=(a.getD b AM.z).wv
abbrev Q19:Array Value:=#[J 0,J 0,.slice none 0 0,.slice none 0 0,.slice none 0 0,.slice none 0 0]
abbrev Q1a(a:Nat):=J (((2*(a:Int))+1)+1)
abbrev Q1b(a:Nat)(b:Array Int)(c:Nat):=decide ((0<(a:Int))/\(¬((b[((a:Int)-1).toNat]!)<(b[c]!))))
abbrev Q1c(a:ByteArray):=decide (((a.size:Int)<1)\/(10<(a.size:Int)))
abbrev Q1d(a:List AQ)(b:Nat):=(a.getD b AQ.z).high
abbrev Q1e(a:Int):=decide ((97<=a)/\(a<=122))
abbrev Uo(a:Int)(b:Int)(c:Value)(d:Value)(e:Value)(f:Value):Array Value:=#[.agg #[J a,J b,c,d,e,f]]
abbrev Q1g(a:Array Int)(b:Nat)(c:Nat):=decide (¬((a[b]!)<(a[c]!)))
abbrev Q1h(a:Nat)(b:List Int)(c:List Int):=decide (((a:Int)<(b.length:Int))/\((a:Int)<(c.length:Int)))
abbrev Q1i(a:Int):=decide (¬(0<=a/\a<=3))
abbrev Q1j(a:List Int)(b:Nat)(c:List Int):=J (HN (a.getD b 0) (c.getD b 0))
abbrev Q1k(a:List Sl)(b:Nat):=((a.drop (1)).getD b Sl.z).1
abbrev Q1l(a:Int):=decide ((48<=a)/\(a<=57))
abbrev Q1m(a:Nat):Value:=.func (.func 95) #[] #[Pt a]
abbrev Q1n(a:Nat):Value:=.func (.func 69) #[] #[Pt a]
abbrev Q1o(a:List AQ)(b:Nat):=(a.getD b AQ.z).low
abbrev Q1p:=Ag AI.zero
abbrev Q1q(a:Nat)(b:Nat):Value:=.func (.func 81) #[] #[Pt a,Pt b]
abbrev Q1r(a:Nat)(b:Nat):Value:=.func (.func 66) #[] #[Pt a,Pt b]
abbrev Q1s(a:List AQ)(b:List Int)(c:Nat):=J (D9 a.length (b.getD c 0))
end Go.Ns
namespace Go.Ns
open Go.Conc Go.Proofs Go.Proofs.Tryz
theorem QL:IZ prog 101 101=some (126,9,72):=aB
theorem Up:IZ prog 22 22=some (9,1,16):=aB
theorem Uq:IZ prog 23 23=some (79,4,32):=aB
theorem Ur:IZ prog 24 24=some (57,5,56):=aB
theorem Js:IZ prog 25 25=some (82,3,40):=aB
theorem CE:IZ prog 32 32=some (3,1,8):=aB
theorem Us:IZ prog 45 45=some (49,2,16):=aB
theorem Fj:IZ prog 97 97=some (32,1,24):=aB
theorem ZL:arrOf prog 142=some (5,false,1):=aB
theorem Hd:M1 prog 123=some (5,1):=aB
theorem Du:M1 prog 124=some (4,1):=aB
theorem EV:M1 prog 138=some (4,1):=aB
theorem E9:M1 prog 166=some (4,4):=aB
theorem fx_bt3:La prog 3=some 8:=aB
theorem fx_bt4:La prog 4=some 1:=aB
theorem Rs:AO Tryz.f10=true:=aB
theorem WJ:AO Tryz.f100=true:=aB
theorem WK:AO Tryz.f101=true:=aB
theorem WL:AO Tryz.f102=true:=aB
theorem WM:AO Tryz.f103=true:=aB
theorem Pe:AO Tryz.f104=true:=aB
theorem JD:AO Tryz.f105=true:=aB
theorem Kw:AO Tryz.f106=true:=aB
theorem Pf:AO Tryz.f107=true:=aB
theorem Pg:AO Tryz.f108=true:=aB
theorem WN:AO Tryz.f109=true:=aB
theorem WO:AO Tryz.f110=true:=aB
theorem Kx:AO Tryz.f111=true:=aB
theorem Ph:AO Tryz.f112=true:=aB
theorem WP:AO Tryz.f113=true:=aB
theorem WQ:AO Tryz.f114=true:=aB
theorem Pi:AO Tryz.f115=true:=aB
theorem WR:AO Tryz.f116=true:=aB
theorem JE:AO Tryz.f117=true:=aB
theorem Pj:AO Tryz.f118=true:=aB
theorem Ky:AO Tryz.f119=true:=aB
theorem WT:AO Tryz.f120=true:=aB
theorem Pm:AO Tryz.f121=true:=aB
theorem WU:AO Tryz.f122=true:=aB
theorem WV:AO Tryz.f123=true:=aB
theorem WW:AO Tryz.f124=true:=aB
theorem WX:AO Tryz.f125=true:=aB
theorem WY:AO Tryz.f126=true:=aB
theorem Cw:AO Tryz.f127=true:=aB
theorem WZ:AO Tryz.f128=true:=aB
theorem Wa:AO Tryz.f129=true:=aB
theorem ZM:AO Tryz.f13=true:=aB
theorem Wb:AO Tryz.f131=true:=aB
theorem Wc:AO Tryz.f132=true:=aB
theorem Wd:AO Tryz.f133=true:=aB
theorem We:AO Tryz.f134=true:=aB
theorem Wf:AO Tryz.f135=true:=aB
theorem Wg:AO Tryz.f136=true:=aB
theorem Pn:AO Tryz.f137=true:=aB
theorem Wh:AO Tryz.f138=true:=aB
theorem Wi:AO Tryz.f139=true:=aB
theorem ZN:AO Tryz.f14=true:=aB
theorem Kz:AO Tryz.f140=true:=aB
theorem Po:AO Tryz.f141=true:=aB
theorem K0:AO Tryz.f142=true:=aB
theorem ZO:AO Tryz.f15=true:=aB
theorem Wj:AO Tryz.f159=true:=aB
theorem He:AO Tryz.f16=true:=aB
theorem Wl:AO Tryz.f160=true:=aB
theorem Wm:AO Tryz.f161=true:=aB
theorem Wn:AO Tryz.f162=true:=aB
theorem Wo:AO Tryz.f163=true:=aB
theorem Wp:AO Tryz.f164=true:=aB
theorem Wq:AO Tryz.f165=true:=aB
theorem Wr:AO Tryz.f166=true:=aB
theorem Ws:AO Tryz.f167=true:=aB
theorem K3:AO Tryz.f168=true:=aB
theorem Wt:AO Tryz.f169=true:=aB
theorem ZP:AO Tryz.f17=true:=aB
theorem Pp:AO Tryz.f170=true:=aB
theorem Wu:AO Tryz.f171=true:=aB
theorem Wv:AO Tryz.f172=true:=aB
theorem Ww:AO Tryz.f173=true:=aB
theorem Wx:AO Tryz.f174=true:=aB
theorem Wy:AO Tryz.f175=true:=aB
theorem Wz:AO Tryz.f176=true:=aB
theorem W0:AO Tryz.f177=true:=aB
theorem Fk:AO Tryz.f18=true:=aB
theorem ZQ:AO Tryz.f19=true:=aB
theorem ZR:AO Tryz.f21=true:=aB
theorem ZS:AO Tryz.f22=true:=aB
theorem KE:AO Tryz.f24=true:=aB
theorem ZT:AO Tryz.f26=true:=aB
theorem ZU:AO Tryz.f27=true:=aB
theorem Fl:AO Tryz.f30=true:=aB
theorem Ru:AO Tryz.f31=true:=aB
theorem Mf:AO Tryz.f32=true:=aB
theorem KF:AO Tryz.f33=true:=aB
theorem Rv:AO Tryz.f34=true:=aB
theorem Rw:AO Tryz.f36=true:=aB
theorem ZV:AO Tryz.f37=true:=aB
theorem ZW:AO Tryz.f38=true:=aB
theorem ZX:AO Tryz.f39=true:=aB
theorem ZY:AO Tryz.f40=true:=aB
theorem ZZ:AO Tryz.f41=true:=aB
theorem Za:AO Tryz.f42=true:=aB
theorem Zb:AO Tryz.f43=true:=aB
theorem Zc:AO Tryz.f44=true:=aB
theorem FA:AO Tryz.f45=true:=aB
theorem Ih:AO Tryz.f46=true:=aB
theorem Rx:AO Tryz.f49=true:=aB
theorem Zd:AO Tryz.f50=true:=aB
theorem Hf:AO Tryz.f52=true:=aB
theorem Ii:AO Tryz.f53=true:=aB
theorem Ze:AO Tryz.f54=true:=aB
theorem Zf:AO Tryz.f55=true:=aB
theorem Fm:AO Tryz.f56=true:=aB
theorem Mg:AO Tryz.f57=true:=aB
theorem KG:AO Tryz.f58=true:=aB
theorem DH:AO Tryz.f59=true:=aB
theorem GW:AO Tryz.f60=true:=aB
theorem R0:AO Tryz.f61=true:=aB
theorem R1:AO Tryz.f62=true:=aB
theorem R2:AO Tryz.f63=true:=aB
theorem Zg:AO Tryz.f64=true:=aB
theorem R3:AO Tryz.f66=true:=aB
theorem Mh:AO Tryz.f67=true:=aB
theorem EH:AO Tryz.f68=true:=aB
theorem R4:AO Tryz.f69=true:=aB
theorem fx_call7:AO Tryz.f7=true:=aB
theorem R5:AO Tryz.f70=true:=aB
theorem R6:AO Tryz.f71=true:=aB
theorem Zh:AO Tryz.f72=true:=aB
theorem R7:AO Tryz.f75=true:=aB
theorem R8:AO Tryz.f76=true:=aB
theorem R9:AO Tryz.f77=true:=aB
theorem Ij:AO Tryz.f79=true:=aB
theorem Ik:AO Tryz.f8=true:=aB
theorem SA:AO Tryz.f80=true:=aB
theorem SB:AO Tryz.f81=true:=aB
theorem Mi:AO Tryz.f82=true:=aB
theorem Mj:AO Tryz.f83=true:=aB
theorem Zi:AO Tryz.f84=true:=aB
theorem Zj:AO Tryz.f85=true:=aB
theorem Zk:AO Tryz.f86=true:=aB
theorem Zl:AO Tryz.f87=true:=aB
theorem Zm:AO Tryz.f88=true:=aB
theorem SC:AO Tryz.f89=true:=aB
theorem SD:AO Tryz.f90=true:=aB
theorem Zn:AO Tryz.f91=true:=aB
theorem Zo:AO Tryz.f92=true:=aB
theorem Zp:AO Tryz.f93=true:=aB
theorem Zq:AO Tryz.f94=true:=aB
theorem SE:AO Tryz.f95=true:=aB
theorem Zs:AO Tryz.f96=true:=aB
theorem SF:AO Tryz.f97=true:=aB
theorem Zt:AO Tryz.f98=true:=aB
theorem KH:AO Tryz.f99=true:=aB
theorem SG:prog.eqGuardType prog.depth 123=false:=aB
theorem Gx:prog.eqGuardType prog.depth 49=false:=aB
theorem FB:Ed prog 101=some 9:=aB
theorem Ml:Ed prog 153=some 1:=aB
theorem Zu:Ed prog 214=some 1:=aB
theorem Gy:Ed prog 22=some 1:=aB
theorem FP:Ed prog 23=some 4:=aB
theorem FQ:Ed prog 24=some 5:=aB
theorem H2:Ed prog 25=some 3:=aB
theorem AP:Ed prog 32=some 1:=aB
theorem Ut:Ed prog 45=some 2:=aB
theorem Er:Ed prog 97=some 1:=aB
theorem KI:∀a:E6,ckP prog 4 135 (El a)=true:=by intros;kernel_rfl
theorem KJ:∀a b:E6,OP prog 4 135 (El a) (El b)=some ((a.1.1==b.1.1 && (a.1.2.1==b.1.2.1 && (a.1.2.2.1==b.1.2.2.1 && (a.1.2.2.2.1==b.1.2.2.2.1 && (a.1.2.2.2.2==b.1.2.2.2.2 && true))))) && (a.2.1==b.2.1 && (a.2.2==b.2.2 && true))):=by intros;kernel_rfl
theorem Ay:Dw prog 103 0=some 0:=aB
theorem Di:Dw prog 109 0=some 0:=aB
theorem Gz:Dw prog 109 1=some 6:=aB
theorem IB:Dw prog 109 2=some 7:=aB
theorem Cn:Dw prog 126 0=some 0:=aB
theorem Jt:Dw prog 126 1=some 5:=aB
theorem Uu:Dw prog 152 0=some 0:=aB
theorem Uv:Dw prog 152 1=some 1:=aB
theorem K5:Dw prog 27 0=some 0:=aB
theorem H3:Dw prog 27 1=some 1:=aB
theorem CN:Dw prog 27 2=some 2:=aB
theorem B3:Dw prog 27 3=some 3:=aB
theorem Bv:Dw prog 27 4=some 4:=aB
theorem CJ:Dw prog 27 5=some 5:=aB
theorem D4:Dw prog 49 0=some 0:=aB
theorem B4:Dw prog 49 1=some 1:=aB
theorem JF:Dw prog 57 0=some 0:=aB
theorem K6:Dw prog 57 1=some 1:=aB
theorem JG:Dw prog 57 2=some 3:=aB
theorem EL:Dw prog 57 3=some 4:=aB
theorem CU:Dw prog 79 0=some 0:=aB
theorem Cb:Dw prog 79 1=some 1:=aB
theorem K7:Dw prog 79 2=some 2:=aB
theorem EM:Dw prog 82 0=some 0:=aB
theorem JH:Dw prog 82 1=some 1:=aB
theorem W1:(prog.info? 152).isSome=true:=aB
theorem fx_infs3:(prog.info? 3).isSome=true:=aB
theorem fx_infs4:(prog.info? 4).isSome=true:=aB
theorem W3:(prog.info? 152).map (·.zero)=some (some (.agg #[.int .i64 0,.bool false])):=aB
theorem fx_infz3:(prog.info? 3).map (·.zero)=some (some (.int .i64 0)):=aB
theorem fx_infz4:(prog.info? 4).map (·.zero)=some (some (.bool false)):=aB
theorem K9:ME prog 156=some .u64:=aB
theorem W4:ME prog 185=some .u64:=aB
theorem FR:ME prog 3=some .i64:=aB
theorem G0:ME prog 5=some .u8:=aB
theorem KK:LM prog 107=some (135,3):=aB
theorem Mm:LM prog 139=some (3,3):=aB
theorem Mn:∀a:Int,ckP prog 3 3 (Do a)=true:=by intros;kernel_rfl
theorem Mp:∀a b:Int,OP prog 3 3 (Do a) (Do b)=some (a==b):=by intros;kernel_rfl
theorem Ae:prog.follows .mixedOrders=true:=aB
theorem Pq:(prog.info? 3).bind (·.zero)=some (.int .i64 0):=aB
theorem Uw:(prog.info? 3).bind (·.zero)=some (.int .i64 0):=aB
theorem G1:Ee prog 103=some [(0,6)]:=aB
theorem G2:Ee prog 109=some [(0,6),(6,1),(7,1)]:=aB
theorem Lu:Ee prog 135=some [(0,5),(5,1),(6,1)]:=aB
theorem fx_pl152:Ee prog 152=some [(0,1),(1,1)]:=aB
theorem fx_pl27:Ee prog 27=some [(0,1),(1,1),(2,1),(3,1),(4,1),(5,1)]:=aB
theorem JI:Ee prog 49=some [(0,1),(1,1)]:=aB
theorem TQ:Ee prog 57=some [(0,1),(1,2),(3,1),(4,1)]:=aB
theorem TR:Ee prog 79=some [(0,1),(1,1),(2,2)]:=aB
theorem TS:Ee prog 82=some [(0,1),(1,2)]:=aB
theorem Ux:s2bOf prog 9 214=some 5:=aB
theorem Zv:DR prog 101=some (9,#[.int .i64 0,.int .i64 0,.int .i64 0,.int .i64 0,.int .i64 0,.int .i64 0,.int .i64 0,.int .i64 0,.int .i64 0],126):=aB
theorem Zw:DR prog 153=some (1,#[.bool false],4):=aB
theorem Uy:DR prog 22=some (1,#[.string ⟨#[]⟩],9):=aB
theorem Uz:DR prog 23=some (4,#[.int .i64 0,.int .i64 0,.int .i64 0,.int .i64 0],79):=aB
theorem U0:DR prog 24=some (5,#[.int .i64 0,.int .i64 0,.int .i64 0,.int .i64 0,.slice none 0 0],57):=aB
theorem Lx:DR prog 25=some (3,#[.slice none 0 0,.int .i64 0,.int .i64 0],82):=aB
theorem BP:DR prog 32=some (1,#[.int .i64 0],3):=aB
theorem U1:DR prog 45=some (2,#[.int .i64 0,.int .i64 0],49):=aB
theorem Il:DR prog 97=some (1,#[.slice none 0 0],32):=aB
theorem Es:KM prog 101=true:=aB
theorem fx_sl153:KM prog 153=true:=aB
theorem fx_sl214:KM prog 214=true:=aB
theorem Dg:KM prog 22=true:=aB
theorem EB:KM prog 23=true:=aB
theorem Eb:KM prog 24=true:=aB
theorem FV:KM prog 25=true:=aB
theorem A8:KM prog 32=true:=aB
theorem TT:KM prog 45=true:=aB
theorem Gk:KM prog 97=true:=aB
theorem EN:OK prog 9=true:=aB
theorem G3:Cd prog 101=some (false,1):=aB
theorem CC:Cd prog 103=some (true,6):=aB
theorem Ly:Cd prog 107=some (false,1):=aB
theorem Ax:Cd prog 109=some (true,8):=aB
theorem G4:Cd prog 123=some (true,5):=aB
theorem Cc:Cd prog 126=some (true,9):=aB
theorem L0:Cd prog 129=some (false,1):=aB
theorem fx_ty142:Cd prog 142=some (true,5):=aB
theorem L1:Cd prog 148=some (false,1):=aB
theorem L2:Cd prog 149=some (false,1):=aB
theorem Pr:Cd prog 150=some (false,1):=aB
theorem fx_ty152:Cd prog 152=some (true,2):=aB
theorem fx_ty163:Cd prog 163=some (false,1):=aB
theorem Ju:Cd prog 164=some (false,1):=aB
theorem Eu:Cd prog 185=some (false,1):=aB
theorem Dh:Cd prog 22=some (false,1):=aB
theorem DB:Cd prog 23=some (false,1):=aB
theorem C5:Cd prog 24=some (false,1):=aB
theorem DW:Cd prog 25=some (false,1):=aB
theorem Ap:Cd prog 27=some (true,6):=aB
theorem AK:Cd prog 3=some (false,1):=aB
theorem Bp:Cd prog 32=some (false,1):=aB
theorem GX:Cd prog 4=some (false,1):=aB
theorem A6:Cd prog 49=some (true,2):=aB
theorem fx_ty5:Cd prog 5=some (false,1):=aB
theorem IC:Cd prog 57=some (true,5):=aB
theorem F8:Cd prog 79=some (true,4):=aB
theorem FW:Cd prog 82=some (true,3):=aB
theorem Mq:Cd prog 9=some (false,1):=aB
theorem HV:Cd prog 97=some (false,1):=aB
theorem Zx:(prog.underlying 156).isSome=true:=aB
theorem Fo:(prog.underlying 180).isSome=true:=aB
theorem fx_und29:(prog.underlying 29).isSome=true:=aB
theorem OB:(prog.underlying 3).isSome=true:=aB
theorem ID:(prog.underlying 5).isSome=true:=aB
theorem Jv:prog.underlying 148=some (.chan .both 152):=aB
theorem Jw:prog.underlying 149=some (.chan .both 3):=aB
theorem Jx:prog.underlying 150=some (.chan .both 4):=aB
theorem W5:Bz prog 101=some #[.slice none 0 0]:=aB
theorem Da:Bz prog 103=some #[.int .i64 0,.int .i64 0,.slice none 0 0,.slice none 0 0,.slice none 0 0,.slice none 0 0]:=aB
theorem BD:Bz prog 109=some #[.int .i64 0,.int .i64 0,.slice none 0 0,.slice none 0 0,.slice none 0 0,.slice none 0 0,.slice none 0 0,.map none]:=aB
theorem Fc:Bz prog 126=some #[.int .i64 0,.int .i64 0,.int .i64 0,.int .i64 0,.int .i64 0,.int .i64 0,.int .i64 0,.int .i64 0,.int .i64 0]:=aB
theorem W6:Bz prog 129=some #[.nilFunc]:=aB
theorem JJ:Bz prog 135=some #[.int .i64 0,.int .i64 0,.int .i64 0,.int .i64 0,.int .i64 0,.int .i64 0,.int .i64 0]:=aB
theorem Ps:Bz prog 138=some #[.bool false,.bool false,.bool false,.bool false]:=aB
theorem W7:Bz prog 148=some #[.chan none]:=aB
theorem W8:Bz prog 149=some #[.chan none]:=aB
theorem W9:Bz prog 150=some #[.chan none]:=aB
theorem Pu:Bz prog 152=some #[.int .i64 0,.bool false]:=aB
theorem XA:Bz prog 164=some #[.nilFunc]:=aB
theorem XB:Bz prog 166=some #[.int .i64 0,.int .i64 0,.int .i64 0,.int .i64 0,.int .i64 0,.int .i64 0,.int .i64 0,.int .i64 0,.int .i64 0,.int .i64 0,.int .i64 0,.int .i64 0,.int .i64 0,.int .i64 0,.int .i64 0,.int .i64 0]:=aB
theorem XC:Bz prog 185=some #[.int .u64 0]:=aB
theorem GY:Bz prog 27=some #[.int .i64 0,.int .i64 0,.slice none 0 0,.slice none 0 0,.slice none 0 0,.slice none 0 0]:=aB
theorem fx_zero3:Bz prog 3=some #[.int .i64 0]:=aB
theorem fx_zero32:Bz prog 32=some #[.slice none 0 0]:=aB
theorem fx_zero4:Bz prog 4=some #[.bool false]:=aB
theorem Bd:Bz prog 49=some #[.int .i64 0,.int .i64 0]:=aB
theorem GZ:Bz prog 57=some #[.int .i64 0,.int .i64 0,.int .i64 0,.int .i64 0,.slice none 0 0]:=aB
theorem Fp:Bz prog 79=some #[.int .i64 0,.int .i64 0,.int .i64 0,.int .i64 0]:=aB
theorem Fq:Bz prog 82=some #[.slice none 0 0,.int .i64 0,.int .i64 0]:=aB
theorem fx_zero9:Bz prog 9=some #[.string ⟨#[]⟩]:=aB
theorem SH:Bz prog 97=some #[.slice none 0 0]:=aB
end Go.Ns
namespace Go.Ns
open Go.Conc Go.Proofs Go.Proofs.Tryz
attribute [local irreducible] BV DJ Tr AZ Bw BY
variable {W:Wk prog} {h:GH} (d m:Int) (gs:List Good) (gsv:Value) (ms:List Cq) (msv:Value) (cs:List CI) (csv:Value)
theorem IW(a:List Int)(av:Value)(b:List Int)(bv:Value)(ha:AD h av 1 eI a)(hb:AD h bv 1 eI b):AZ W 32 #[av,bv] h (λv h'=>v=(.bool (decide (a=b)):Value)/\h.Le h'):=by
 have ad:=ha.len;have ae:=hb.len;refine Ct func32 Z (Sr (Az (.bool false) Z (Nl (S2 (Mz av Z (Pl Z (AS A8 ha Z (Mz bv Z (Pl Z (AS A8 hb Z (Pl Z (BF Z Z (Nl (AW Z (λar=>?_) (λar=>?_)))))))))))))))
 ·exact Sr (Az (.bool false) Z (Nl (Rt (⟨Zr,Ot (.bool false) Z (⟨(by (rw [decide_eq_false (ne_len aA)];done)),Lr⟩)⟩))))
 ·refine Sk (S2 (Az (J 0) Z (Nl (Bk (Ac (λnn σ' ds' h'=>∃(k:Nat),nn=a.length-k/\(k<=a.length)/\(a.take k=b.take k)/\ds'=[]/\GH.Le h h'/\σ' 0=av/\σ' 1=bv/\σ' 5=J k) ⟨0,Z,aA,(by rfl),Z,Lr,Z,Z,Z⟩ (λnn _ _ _ au=>?_))))));obtain ⟨k,rfl,hk,hs,x8,x9,af,aq,ac⟩:=au;subst x8;refine S2 (Mv (J k) Z ac (Mv av Z af (Pl Z (AS A8 (ha.le x9) Z (Pl Z (Ao Z Z (Nl (AW Z (λag=>?_) (λag=>?_)))))))))
  ·refine Sk (Sq (Bk (Sq (Bf 8 false [1,6,10,16,21,26,30,36] Ae aB (Rz Z (Mo av af vz) (Rz Z (Mo (J k) ac vz) ?_))))));have ah:(0:Int)<=(k:Int):=aA
   have ai:(k:Int)<((a.length:Nat):Int):=aA
   refine tI Z Z AP ha Z Z ah ai λaw aa aj=>have ak:Ab _ aw aa 1 (eI (a.getD k 0)):=Ab.getD 0 aj;Rl (Qn a k) Z (BA AK (ak.le x9) Z) (Rz Z (Mo bv aq vz) (Rz Z (Mo (J k) ac vz) ?_));have al:(0:Int)<=(k:Int):=aA
   have am:(k:Int)<((b.length:Nat):Int):=aA
   refine tI Z Z AP hb Z Z al am λax ab an=>have ao:Ab _ ax ab 1 (eI (b.getD k 0)):=Ab.getD 0 an;Rl (Qn b k) Z (BA AK (ao.le x9) Z) (tN (Pl Z (BF Z Z (Nl (AW Z (λap=>?_) (λap=>?_))))))
   ·exact Sr (Az (.bool false) Z (Nl (Rt (⟨Zr,Ot (.bool false) Z (⟨(by (rw [decide_eq_false (ne_getD (k:=k) (d:=0) ‹_›)])),x9⟩)⟩))))
   ·exact Sk (Rg (Mv (J k) Z ac (Yd Z aA (Az (J ((k:Int)+1)) Z (Nl (⟨_,aA,k+1,Z,aA,(by exact Ob 0 hs aA aA aF),Z,x9,af,aq,Z⟩))))))
  ·exact Xt (Sr (Az (.bool true) Z (Nl (Rt (⟨Zr,Ot (.bool true) Z (⟨(by (rw [decide_eq_true (Si hs hk ‹_› aA)];done)),x9⟩)⟩)))))
theorem L3(a:List Int)(av:Value)(n:Int)(ha:AD h av 1 eI a):AZ W 24 #[av,J n] h (λv h'=>v=(.bool (decide (n ∈ a)):Value)/\h.Le h'):=by
 have ab:=ha.len;refine Ct func24 Z (Sr (Az (.bool false) Z (Nl (S2 (Az (J 0) Z (Nl (Bk (Ac (λnn σ' ds' h'=>∃(k:Nat),nn=a.length-k/\(k<=a.length)/\(¬n ∈ a.take k)/\ds'=[]/\GH.Le h h'/\σ' 0=av/\σ' 1=J n/\σ' 5=J k) ⟨0,Z,aA,aD,Z,Lr,Z,Z,Z⟩ (λnn _ _ _ aj=>?_)))))))));obtain ⟨k,rfl,hk,hs,x6,x7,x8,x9,ac⟩:=aj;subst x6;refine S2 (Mv (J k) Z ac (Mv av Z x8 (Pl Z (AS A8 (ha.le x7) Z (Pl Z (Ao Z Z (Nl (AW Z (λad=>?_) (λad=>?_)))))))))
 ·refine Sk (Sq (Bk (Sr (Mv av Z x8 (Mv (J k) Z ac ?_)))));have ae:(0:Int)<=(k:Int):=aA
  have af:(k:Int)<((a.length:Nat):Int):=aA
  refine Pl Z (Af AP ha Z Z ae af λak aa ag=>have ah:Ab _ ak aa 1 (eI (a.getD k 0)):=Ab.getD 0 ag;Lz (Qn a k) Z (BA AK (ah.le x7) Z) (Mv (J n) Z x9 (Pl Z (By Z Z (Nl (AW Z (λai=>?_) (λai=>?_)))))))
  ·exact Sr (Az (.bool true) Z (Nl (Rt (⟨Zr,Ot (.bool true) Z (⟨(by (rw [decide_eq_true (has_hit (k:=k) ‹_› ‹_›)];done)),x7⟩)⟩))))
  ·exact Sk (Rg (Mv (J k) Z ac (Yd Z aA (Az (J ((k:Int)+1)) Z (Nl (⟨_,aA,k+1,Z,aA,(by exact has_next ‹_› hs ‹_›),Z,x7,x8,x9,Z⟩))))))
 ·exact Xt (Sr (Az (.bool false) Z (Nl (Rt (⟨Zr,Ot (.bool false) Z (⟨(by (rw [decide_eq_false (has_end (k:=k) ‹_› hs)])),x7⟩)⟩)))))
theorem IE(n:Int)(lo:Int)(hi:Int):AZ W 18 #[J n,J lo,J hi] h (λv h'=>v=(.bool (decide (lo<=n/\n<=hi)):Value)/\h=h'):=by
 refine Ct func18 Z (Sr (Az (.bool false) Z (Nl (BH (λσ' ds' h'=>ds'=[]/\h=h'/\σ' 6=.bool (Q12 lo n hi)) ?_ ?_))))
 ·refine Rg (Mz (J n) Z (Mz (J lo) Z (Pl Z (CT Z Z (Mz (Qi lo n) Z (A0 (p:=lo<=n) ?_ ?_))))))
  ·intro aa;exact Gg 3 10 (AB Z aa) Z (Mo (J n) Z (Gg 3 10 (AB Z aa) Z (Mo (J hi) Z (Gg 3 10 (AB Z aa) Z (DM Z Z (Pk true (Qi n hi) Z (AB Z aa) Z (Az (Qi n hi) Z (Nl (⟨Z,Z,Et (b:=(.bool (decide (n<=hi)):Value)) Z (congrArg Value.bool (by (simp [aa];done):decide (n<=hi)=(Q12 lo n hi)))⟩)))))))))
  ·intro aa;exact Gs 3 10 (AC Z aa) Z (Gs 3 10 (AC Z aa) Z (Gs 3 10 (AC Z aa) Z (Pk false (.bool false) Z (AC Z aa) Z (Az (.bool false) Z (Nl (⟨Z,Z,Et (b:=(.bool false:Value)) Z (congrArg Value.bool (by (simp [aa];done):false=(Q12 lo n hi)))⟩))))))
 ·rintro _ _ _ ⟨ac,ab,ad⟩;subst ac;subst ab;exact Rt (⟨Zr,Hi Z (v:=.bool (Q12 lo n hi)) ad (⟨(by rfl),Z⟩)⟩)
theorem Na(xl:Int)(xh:Int)(lo:Int)(hi:Int):AZ W 115 #[.agg #[J xl,J xh],J lo,J hi] h (λv h'=>v=(.bool (decide ((lo<=xl/\xl<=xh)/\xh<=hi)):Value)/\h.Le h'):=by
 refine Ct func115 Z (Sr (Pl Z (Bo #[J xl,J xh] Z Z λ_ h2 _ ae ad _=>Az (.bool false) Z (Nl (BH (λσ' ds' h'=>ds'=[]/\h2=h'/\σ' 6=.bool (Q15 lo xl xh hi)) ?_ ?_)))))
 ·refine Rg (Fz D4 Z (Lz (J xl) Z (Rd.one AK ad Z) (Mz (J lo) Z (Pl Z (CT Z Z (Mz (Qi lo xl) Z (A0 (p:=lo<=xl) ?_ ?_)))))))
  ·intro aa;refine Gg 4 11 (AB Z aa) Z (AL B4 Z (Gg 4 11 (AB Z aa) Z (Lo (J xh) Z (Rd.one AK ad Z) (Gg 4 11 (AB Z aa) Z (AL D4 Z (Gg 4 11 (AB Z aa) Z (Lo (J xl) Z (Rd.one AK ad Z) (Gg 4 11 (AB Z aa) Z (CT Z Z (Pk true (Qi xl xh) Z (AB Z aa) Z (Mz (Qi xl xh) Z (A0 (p:=xl<=xh) ?_ ?_))))))))))))
   ·intro ab;exact Gg 11 18 (AB Z ab) Z (AL B4 Z (Gg 11 18 (AB Z ab) Z (Lo (J xh) Z (Rd.one AK ad Z) (Gg 11 18 (AB Z ab) Z (Mo (J hi) Z (Gg 11 18 (AB Z ab) Z (DM Z Z (Pk true (Qi xh hi) Z (AB Z ab) Z (Az (Qi xh hi) Z (Nl (⟨Z,Z,Et (b:=(.bool (decide (xh<=hi)):Value)) Z (congrArg Value.bool (by (simp [aa,ab];done):decide (xh<=hi)=(Q15 lo xl xh hi)))⟩)))))))))))
   ·intro ab;exact Gs 11 18 (AC Z ab) Z (Gs 11 18 (AC Z ab) Z (Gs 11 18 (AC Z ab) Z (Gs 11 18 (AC Z ab) Z (Pk false (.bool false) Z (AC Z ab) Z (Az (.bool false) Z (Nl (⟨Z,Z,Et (b:=(.bool false:Value)) Z (congrArg Value.bool (by (simp [aa,ab];done):false=(Q15 lo xl xh hi)))⟩)))))))
  ·intro aa;exact Gs 4 11 (AC Z aa) Z (Gs 4 11 (AC Z aa) Z (Gs 4 11 (AC Z aa) Z (Gs 4 11 (AC Z aa) Z (Gs 4 11 (AC Z aa) Z (Pk false (.bool false) Z (AC Z aa) Z (Mz (.bool false) Z (Gs 11 18 Z Z (Gs 11 18 Z Z (Gs 11 18 Z Z (Gs 11 18 Z Z (Pz false (.bool false) Z (Az (.bool false) Z (Nl (⟨Z,Z,Et (b:=(.bool false:Value)) Z (congrArg Value.bool (by (simp [aa];done):false=(Q15 lo xl xh hi)))⟩))))))))))))))
 ·rintro _ _ _ ⟨af,ac,ag⟩;subst af;subst ac;exact Rt (⟨Zr,Hi Z (v:=.bool (Q15 lo xl xh hi)) ag (⟨(by rfl),ae⟩)⟩)
theorem U2(c:Int):AZ W 132 #[.int .u8 c] h (λv h'=>v=(.bool (decide (Eh c)):Value)/\h=h'):=by
 refine Ct func132 Z (Sr (Az (.bool false) Z (Nl (BH (λσ' ds' h'=>ds'=[]/\h=h'/\σ' 2=.bool (Q1e c)) ?_ ?_))))
 ·refine Rg (Mz (.int .u8 c) Z (Pl Z (CT Z Z (Mz (.bool (decide (97<=c))) Z (A0 (p:=97<=c) ?_ ?_)))))
  ·intro aa;exact Gg 2 5 (AB Z aa) Z (Mo (.int .u8 c) Z (Gg 2 5 (AB Z aa) Z (DM Z Z (Pk true (.bool (decide (c<=122))) Z (AB Z aa) Z (Az (.bool (decide (c<=122))) Z (Nl (⟨Z,Z,Et (b:=(.bool (decide (c<=122)):Value)) Z (congrArg Value.bool (by (simp [aa];done):decide (c<=122)=(Q1e c)))⟩)))))))
  ·intro aa;exact Gs 2 5 (AC Z aa) Z (Gs 2 5 (AC Z aa) Z (Pk false (.bool false) Z (AC Z aa) Z (Az (.bool false) Z (Nl (⟨Z,Z,Et (b:=(.bool false:Value)) Z (congrArg Value.bool (by (simp [aa];done):false=(Q1e c)))⟩)))))
 ·rintro _ _ _ ⟨ac,ab,ad⟩;subst ac;subst ab;exact Rt (⟨Zr,Hi Z (v:=.bool (Q1e c)) ad (⟨(by rfl),Z⟩)⟩)
theorem XD(c:Int):AZ W 133 #[.int .u8 c] h (λv h'=>v=(.bool (decide (E2 c)):Value)/\h=h'):=by
 refine Ct func133 Z (Sr (Az (.bool false) Z (Nl (BH (λσ' ds' h'=>ds'=[]/\h=h'/\σ' 2=.bool (Q1l c)) ?_ ?_))))
 ·refine Rg (Mz (.int .u8 c) Z (Pl Z (CT Z Z (Mz (.bool (decide (48<=c))) Z (A0 (p:=48<=c) ?_ ?_)))))
  ·intro aa;exact Gg 2 5 (AB Z aa) Z (Mo (.int .u8 c) Z (Gg 2 5 (AB Z aa) Z (DM Z Z (Pk true (.bool (decide (c<=57))) Z (AB Z aa) Z (Az (.bool (decide (c<=57))) Z (Nl (⟨Z,Z,Et (b:=(.bool (decide (c<=57)):Value)) Z (congrArg Value.bool (by (simp [aa];done):decide (c<=57)=(Q1l c)))⟩)))))))
  ·intro aa;exact Gs 2 5 (AC Z aa) Z (Gs 2 5 (AC Z aa) Z (Pk false (.bool false) Z (AC Z aa) Z (Az (.bool false) Z (Nl (⟨Z,Z,Et (b:=(.bool false:Value)) Z (congrArg Value.bool (by (simp [aa];done):false=(Q1l c)))⟩)))))
 ·rintro _ _ _ ⟨ac,ab,ad⟩;subst ac;subst ab;exact Rt (⟨Zr,Hi Z (v:=.bool (Q1l c)) ad (⟨(by rfl),Z⟩)⟩)
theorem QM(xs:List Int)(xsv:Value)(fv:Value)(p:Int->Bool)(hxs:AD h xsv 1 eI xs)(hf:∀x ∈ xs,∀h1,h.Le h1->Bw W fv #[J x] h1 λv h2=>v=.bool (p x)/\h1.Le h2):AZ W 176 #[xsv,fv] h (λv h'=>v=(J (idxOf p xs):Value)/\h.Le h'):=by
 have ac:=hxs.len;refine Ct func176 Z (Sr (Az (J 0) Z (Nl (S2 (Mz xsv Z (Pl Z (AS A8 hxs Z (Mz (J 0) Z (Nl (Bk (Ac (λnn σ' ds' h'=>∃(k:Nat),nn=xs.length-k/\(k<=xs.length)/\((xs.take k).any p=false)/\ds'=[]/\GH.Le h h'/\σ' 0=xsv/\σ' 1=fv/\σ' 7=J (xs.length:Int)/\σ' 8=J k) ⟨0,Z,aA,aD,Z,Lr,Z,Z,Z,Z⟩ (λnn _ _ _ am=>?_))))))))))));obtain ⟨k,rfl,hk,hs,x6,x7,x8,x9,al,ad⟩:=am;subst x6;refine Sr (Pl Z (Ao ad al (Nl (Sq (AW Z (λae=>?_) (λae=>?_))))))
 ·refine Sk (Sq (Bk (Sr (Mv (J k) Z ad (Az (J k) Z (Nl (Sr (Mv fv Z x9 (Mv xsv Z x8 (Mz (J k) Z ?_))))))))));have af:(0:Int)<=(k:Int):=aA
  have ag:(k:Int)<((xs.length:Nat):Int):=aA
  refine Pl Z (Af AP hxs Z Z af ag λan ab ah=>have ai:Ab _ an ab 1 (eI (xs.getD k 0)):=Ab.getD 0 ah;Lz (Qn xs k) Z (BA AK (ai.le x7) Z) (Pl Z (Kn Z (vs:=#[J (xs.getD k 0)]) (by simp only [List.map_toArray,List.map_cons,List.map_nil,AR] <;> rfl) ((hf (xs.getD k 0) (Bl aA) _ x7).mono λ_ _ aj=>?_))));obtain ⟨rfl,aa⟩:=aj;refine Nl (Ch Z (λak=>?_) (λak=>?_))
  ·exact Sr (Mz (J k) Z (Az (J k) Z (Nl (Rt (⟨Zr,Ot (J k) Z (⟨(by (rw [Ha (k:=k) aA hs ‹_›];done)),(x7.trans aa)⟩)⟩)))))
  ·exact Sk (Rg (Ad _ _ Z ad Z aA (Mz (J ((k:Int)+1)) Z (Nl (⟨_,aA,k+1,Z,aA,(by exact EQ (d:=0) aA hs ‹_›),Z,(x7.trans aa),x8,x9,al,Z⟩)))))
 ·exact Xt (Sr (Az (J (-1)) Z (Nl (Rt (⟨Zr,Ot (J (-1)) Z (⟨(by (rw [GO (k:=k) aA hs])),x7⟩)⟩)))))
theorem Im(xs:List Int)(xsv:Value)(fv:Value)(p:Int->Bool)(hxs:AD h xsv 1 eI xs)(hf:∀x ∈ xs,∀h1,h.Le h1->Bw W fv #[J x] h1 λv h2=>v=.bool (p x)/\h1.Le h2):AZ W 170 #[xsv,fv] h (λv h'=>v=(.bool (xs.any p):Value)/\h.Le h'):=by
 have aa:=hxs.len;refine Ct func170 Z (Sr (Az (.bool false) Z (Nl (Sr (Mz xsv Z (Mz fv Z (Pl Z (AT func176 Wz Z Z ((QM xs xsv fv p hxs (λx hx h1 l1=>hf x hx h1 (GH.Le.trans Lr l1))).mono λ_ _ ac=>?_)))))))));obtain ⟨rfl,ab⟩:=ac;exact Pl Z (CT Z Z (Az (.bool (decide (0<=(idxOf p xs)))) Z (Nl (Rt (⟨Zr,Ot (.bool (decide (0<=(idxOf p xs)))) Z (⟨(by rw [show decide (0<=idxOf p xs)=xs.any p from by rw [Bool.eq_iff_iff];simp [E3]]),ab⟩)⟩)))))
end Go.Ns
