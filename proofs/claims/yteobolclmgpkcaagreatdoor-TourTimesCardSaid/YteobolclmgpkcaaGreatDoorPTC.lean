/- Rules and walks, part 3 of 7. No conditions. -/
import Derived.Carry
import Derived.Conc.LeavingOf
import Derived.LaidMore
import Derived.OpenShut
import Derived.Test.YteobolclmgpkcaaGreatDoorPTB
set_option linter.unusedVariables false
set_option linter.unusedSimpArgs false
set_option linter.unnecessarySimpa false
set_option linter.unusedSectionVars false
set_option linter.constructorNameAsVariable false
namespace Go.Ns
open Go.Conc
section
variable {P:Program} {E:Ho P} {V:Nat->bW} {ds:List Deferred} {h:A} {bN:(Nat->bW)->List Deferred->A->Prop} {dst:Option Nat} {ty:bX} {pos:String} {af:Array Edge} {gd:Option (Nat×Bool)}
theorem ok_eqlB{xt yt:bX}{x y:Operand}{a b:Bool}(hx:Ag V x=.bool a)(hy:Ag V y=.bool b)(he:SA P 1 xt (.bool a) (.bool b)=some (a==b))(k:bN (putS V dst (.bool (a==b))) ds h):B9 E ⟨dst,.binOp .eql xt x y yt,ty,pos,af,gd⟩ V ds h bN:=by
 unfold B9 execOp;simp only [hx,hy];refine HL (AI _ _ ?_);have c:∀(Q:Unit->A->Prop),Q () h->(eqGuard .eql xt x y (.bool a) (.bool b)).gh P h Q:=λQ q=>q;refine c _ ?_;show Sem.gh P (do pure (Value.bool (<-Op.equal xt (.bool a) (.bool b))):Sem bW) h _;refine AI _ _ ?_;exact KZ 1 _ _ _ _ (a==b) h _ aF he k
theorem UZ{t:bX}{x o:Operand}{m n b off hi:Nat}(ht:Px P t=some (m,n))(hx:Ag V x=.pointer (some ⟨b,off,none⟩))(ho:∃kd,Ag V o=.int kd hi)(h2:hi<=m)(k:bN (putS V dst (.slice (some ⟨b,off,none⟩) hi m)) ds h) :
  B9 E ⟨dst,.slice t x none (some o) none,ty,pos,af,gd⟩ V ds h bN:=by
 obtain ⟨kd,e⟩:=ho;unfold B9 execOp;simp only [hx];refine HL ?_;unfold Px at ht;unfold Instr.sliceAt;cases a:P.underlying t with
 | none=>rw [a] at ht;cases ht
 | some d=>
  rw [a] at ht;cases d <;> first | (cases ht;done) | skip
  rename_i f
  simp only [Option.map_eq_some_iff,Prod.mk.injEq] at ht;obtain ⟨g,c,rfl,rfl⟩:=ht;refine AI _ _ (BG a ?_);dsimp only;refine AI _ _ (BS ?_);unfold Instr.sliceBounds;simp only [Option.map_some,Option.map_none,e,Bool.false_eq_true,↓reduceIte];refine AI _ _ (AI _ _ (BS (AI _ _ (EC O O (AI _ _ (BS (BS ?_)))))));refine AI _ _ (FL c (BS ?_));simp only [Nat.sub_zero,Nat.zero_mul,KR,Nat.add_zero,ite_self,Int.toNat_natCast];exact k
end
def eBo(b:Bool):Array bW:=#[.bool b]
theorem can_sl{h:A}{r n:Nat}{p:Bool}{c:G2}{t:bX}{f:Nat×Nat}(hb:h r=some (p,.cells (HY c) t f))(hn:n<=4):Ai h (.slice (some ⟨r,0,none⟩) n 4) 1 eBo (OB c n):=by
 refine ⟨some ⟨r,0,none⟩,4,by simp [OB],by simpa [OB] using hn,by simp [OB];omega,λi a=>⟨r,0,rfl,p,_,t,f,hb,?_,?_⟩⟩
 ·have:i<n:=by simpa [OB] using a
  show 0+i*1+1<=4;omega
 ·have b:i<n:=by simpa [OB] using a
  have d:i<4:=O
  have e:(OB c n)[i]=c i:=by simp [OB]
  rw [e]
  match i,d with
  | 0,_=>rfl
  | 1,_=>rfl
  | 2,_=>rfl
  | 3,_=>rfl
theorem Si{ws:List AF}{c c':G2}{np k:Nat}(h:FB ws (np-k) c=c')(hk:np<=k):c=c':=by
 rw [Nat.sub_eq_zero_of_le hk] at h;exact h
theorem YU{ws:List AF}{c c':G2}{np k:Nat}(h:FB ws (np-k) c=c')(hk:k<np):FB ws (np-(k+1)) (IN ws c)=c':=by
 rw [show np-k=(np-(k+1))+1 by omega] at h;exact h
def Bq(ws:List AF)(c:G2)(k:Nat):G2:=(ws.take k).foldl GF c
theorem canTo_succ{ws:List AF}{c:G2}{k:Nat}(hk:k<ws.length):Bq ws c (k+1)=GF (Bq ws c k) (ws.getD k AF.z):=by
 unfold Bq;rw [DF AF.z hk,List.foldl_append];rfl
theorem canTo_all{ws:List AF}{c:G2}{k:Nat}(hk:ws.length<=k):Bq ws c k=IN ws c:=by
 unfold Bq IN;rw [List.take_of_length_le hk]
structure AG where
 ways:Nat->Int
 works:Nat->Int
def AG.zero:AG:=⟨λ_=>0,λ_=>0⟩
def A3(p:AG):Array bW:=#[.int .i64 (p.ways 0),.int .i64 (p.ways 1),.int .i64 (p.ways 2),.int .i64 (p.ways 3),.int .i64 (p.ways 4),
 .int .i64 (p.works 0),.int .i64 (p.works 1),.int .i64 (p.works 2),.int .i64 (p.works 3)]
theorem HE(p:AG):(Value.agg (A3 p)).cells.size=9:=rfl
theorem HF(p:AG):Value.fine (.agg (A3 p))=true:=rfl
theorem Hz(p:AG):0+9<=(A3 p).size:=Nat.le_refl 9
theorem H0(p q:AG):CK (A3 p) 0 (Value.agg (A3 q)).cells.toList=A3 q:=by
 simp [Value.cells,A3,CK]
def AG.setWay(p:AG)(i:Nat)(n:Int):AG:={ p with ways:=λk=>if k=i then n else p.ways k }
def AG.setWork(p:AG)(i:Nat)(n:Int):AG:={ p with works:=λk=>if k=i then n else p.works k }
theorem H1{p:AG}{i:Nat}(h:i<5):(A3 p)[0+i*1]? =some (.int .i64 (p.ways i)):=by
 match i,h with
 | 0,_=>rfl
 | 1,_=>rfl
 | 2,_=>rfl
 | 3,_=>rfl
 | 4,_=>rfl
theorem Li{p:AG}{i:Nat}(h:i<4):(A3 p)[5+i*1]? =some (.int .i64 (p.works i)):=by
 match i,h with
 | 0,_=>rfl
 | 1,_=>rfl
 | 2,_=>rfl
 | 3,_=>rfl
theorem Ua{p:AG}{i:Nat}{n:Int}(h:i<5):CK (A3 p) (0+i*1) [.int .i64 n]=A3 (p.setWay i n):=by
 match i,h with
 | 0,_=>rfl
 | 1,_=>rfl
 | 2,_=>rfl
 | 3,_=>rfl
 | 4,_=>rfl
theorem Sj{p:AG}{i:Nat}{n:Int}(h:i<4):CK (A3 p) (5+i*1) [.int .i64 n]=A3 (p.setWork i n):=by
 match i,h with
 | 0,_=>rfl
 | 1,_=>rfl
 | 2,_=>rfl
 | 3,_=>rfl
def AG.put(p:AG)(nw i:Nat)(n:Int):AG:=if i<nw then p.setWay i n else p.setWork (i-nw) n
theorem AG.put_put(p:AG)(nw i:Nat)(n m:Int):(p.put nw i n).put nw i m=p.put nw i m:=by
 unfold AG.put;split
 ·unfold AG.setWay;congr 1;funext k;simp only [];split <;> rfl
 ·unfold AG.setWork;congr 1;funext k;simp only [];split <;> rfl
def GW(p:AG)(l:List Int):Int:=(l.map λk=>p.ways k.toNat).sum
def CM(ns:List AO)(p:AG):Bool:=ns.all λx=>decide (x.low<=GW p x.ways/\GW p x.ways<=x.high)
structure Bt(p:AG):Prop where
 ways:∀k,0<=p.ways k/\p.ways k<=30
 works:∀k,0<=p.works k/\p.works k<=30
def OC(ns:List AO)(p:AG)(k:Nat):Bool:=decide ((ns.getD k AO.z).low<=GW p (ns.getD k AO.z).ways/\GW p (ns.getD k AO.z).ways<=(ns.getD k AO.z).high)
theorem OD{p:AG}{l:List Int}{q:Nat}(h:q<l.length):GW p (l.take (q+1))=GW p (l.take q)+p.ways (l.getD q 0).toNat:=by
 unfold GW;rw [DF 0 h];simp
theorem QG{p:AG}{l:List Int}{q:Nat}(h:l.length<=q):GW p (l.take q)=GW p l:=by rw [List.take_of_length_le h]
theorem QH{p:AG}{ns:List AO}{k q:Nat}{s:Int}(hs:s=GW p ((ns.getD k AO.z).ways.take q))(hq:(ns.getD k AO.z).ways.length<=q)(h:(ns.getD k AO.z).low<=s/\s<=(ns.getD k AO.z).high):OC ns p k=true:=by
 rw [QG hq] at hs;subst hs;exact decide_eq_true h
theorem Sm{p:AG}{ns:List AO}{k:Nat}(h:∀j,j<k->OC ns p j=true)(hk:ns.length<=k):CM ns p=true:=by
 unfold CM;rw [List.all_eq_true];intro x a;obtain ⟨i,b,rfl⟩:=List.mem_iff_getElem.1 a
 have:=h i O
 unfold OC at this;rw [Cy AO.z b] at this;exact this
theorem U6{p:AG}{ns:List AO}{k q:Nat}{s:Int}(hk:k<ns.length)(hs:s=GW p ((ns.getD k AO.z).ways.take q))(hq:(ns.getD k AO.z).ways.length<=q)(h:¬((ns.getD k AO.z).low<=s/\s<=(ns.getD k AO.z).high)):CM ns p=false:=by
 rw [QG hq] at hs;subst hs;rw [Cy AO.z hk] at h;unfold CM;rw [List.all_eq_false];exact ⟨ns[k],List.getElem_mem hk,by simpa using h⟩
theorem NH{f:Nat->Bool}{k:Nat}(h:∀j,j<k->f j=true)(e:f k=true):∀j,j<k+1->f j=true:=λj a=>by
 rcases Nat.lt_succ_iff_lt_or_eq.1 a with q | rfl
 ·exact h j q
 ·exact e
theorem NI{nw:Nat}{ns:List AO}(h:∀k,k<ns.length->Ek nw ns k=0)(k:Nat):(ns.getD k AO.z).ways.length<=5/\(∀q,0<=(ns.getD k AO.z).ways.getD q 0/\((ns.getD k AO.z).ways.getD q 0=0\/(ns.getD k AO.z).ways.getD q 0<=(nw:Int)-1)):=by
 rcases Nat.lt_or_ge k ns.length with hk | hk
 ·have e:=h k hk;unfold Ek at e;split at e
  ·cases e
  ·split at e
   ·cases e
   ·rename_i d b
    refine ⟨O,λq=>?_⟩;rcases Nat.lt_or_ge q (ns.getD k AO.z).ways.length with hq | hq
    ·have c:¬∃x ∈ (ns.getD k AO.z).ways,¬(0<=x/\x<=(nw:Int)-1):=by simpa [List.any_eq_true] using b
     have a:0<=(ns.getD k AO.z).ways.getD q 0/\(ns.getD k AO.z).ways.getD q 0<=(nw:Int)-1:=Classical.byContradiction λz=>c ⟨_,CS hq,z⟩;exact ⟨a.1,.inr a.2⟩
    ·rw [CH hq];exact ⟨Int.le_refl _,.inl rfl⟩
 ·rw [CH hk];refine ⟨by simp [AO.z],λq=>?_⟩;simp [AO.z]
def C8(ws:List AF)(js:List AY)(i:Nat):Int:=if i<ws.length then (ws.getD i AF.z).low else (js.getD (i-ws.length) AY.z).low
def HG(ws:List AF)(js:List AY)(i:Nat):Int:=if i<ws.length then (ws.getD i AF.z).high else (js.getD (i-ws.length) AY.z).high
def C0(ag:AG->Bool)(ws:List AF)(js:List AY):Nat->Nat->AG->List AG
 | 0,_,p=>[p]
 | f+1,i,p=>(FI (C8 ws js i) (HG ws js i)).flatMap λn=>if i+1=ws.length/\ag (p.put ws.length i n)=false then [] else C0 ag ws js f (i+1) (p.put ws.length i n)
def Cm(ag:AG->Bool)(ws:List AF)(js:List AY)(f i:Nat)(p:AG)(n:Int):List AG:=
 if i+1=ws.length/\ag (p.put ws.length i n)=false then [] else C0 ag ws js f (i+1) (p.put ws.length i n)
theorem FC(ag:AG->Bool)(ws:List AF)(js:List AY)(f i:Nat)(p:AG) :
  C0 ag ws js (f+1) i p=(FI (C8 ws js i) (HG ws js i)).flatMap (Cm ag ws js f i p):=rfl
def AC(ws:List AF)(js:List AY)(ns:List AO):List AG:=
 if 0<ws.length\/CM ns AG.zero=true then C0 (CM ns) ws js (ws.length+js.length) 0 AG.zero else []
def Id(nw i:Nat):Nat:=if i<nw then 0+i*1 else 5+(i-nw)*1
theorem tCell_way{nw i:Nat}(h:i<nw):Id nw i=0+i*1:=bV h
theorem tCell_work{nw i:Nat}(h:¬i<nw):Id nw i=5+(i-nw)*1:=bU h
theorem MU{p:AG}{nw nj i:Nat}{v:Int}(hw:nw<=5)(hj:nj<=4)(hi:i<nw+nj):(A3 (p.put nw i v))[Id nw i]? =some (.int .i64 v):=by
 unfold AG.put Id;split
 ·rw [H1 O];simp [AG.setWay]
 ·rw [Li O];simp [AG.setWork]
theorem HZ{p:AG}{nw nj i:Nat}{v:Int}(hw:nw<=5)(hj:nj<=4)(hi:i<nw+nj):CK (A3 p) (Id nw i) [.int .i64 v]=A3 (p.put nw i v):=by
 unfold AG.put Id;split
 ·exact Ua O
 ·exact Sj O
theorem Lj{nw nj i:Nat}(hw:nw<=5)(hj:nj<=4)(hi:i<nw+nj):Id nw i+1<=9:=by unfold Id;split <;> omega
def AG.zeros(p:AG)(nw i:Nat):Prop:=(∀k,i<=k->k<nw->p.ways k=0)/\∀k,i<=nw+k->p.works k=0
theorem AG.zeros_put{p:AG}{nw i:Nat}(h:p.zeros nw i):p.put nw i 0=p:=by
 obtain ⟨b,c⟩:=p;unfold AG.put AG.setWay AG.setWork;split
 ·rename_i a
  congr 1;funext k;split
  ·rename_i e;subst e;exact (h.1 k (Nat.le_refl _) a).symm
  ·rfl
 ·rename_i a
  congr 1;funext k;split
  ·rename_i e;subst e;exact (h.2 (i-nw) O).symm
  ·rfl
theorem AG.zeros_next{p:AG}{nw i:Nat}{v:Int}(h:p.zeros nw i):(p.put nw i v).zeros nw (i+1):=by
 unfold AG.put;split
 ·refine ⟨λk a b=>?_,λk a=>h.2 k O⟩;show (if k=i then v else p.ways k)=0;rw [bU O];exact h.1 k O b
 ·refine ⟨λk a b=>h.1 k O b,λk a=>?_⟩;show (if k=i-nw then v else p.works k)=0;rw [bU O];exact h.2 k O
theorem AG.zeros_zero(nw i:Nat):AG.zero.zeros nw i:=⟨λ_ _ _=>rfl,λ_ _=>rfl⟩
theorem Bt.zero:Bt AG.zero:=⟨λ_=>(aF:(0:Int)<=0/\(0:Int)<=30),λ_=>(aF:(0:Int)<=0/\(0:Int)<=30)⟩
theorem Bt.put{p:AG}(h:Bt p){nw i:Nat}{v:Int}(hv:0<=v/\v<=30):Bt (p.put nw i v):=by
 unfold AG.put;split
 ·refine ⟨λk=>?_,h.works⟩;show 0<=(if k=i then v else p.ways k)/\(if k=i then v else p.ways k)<=30;split
  ·exact hv
  ·exact h.ways k
 ·refine ⟨h.ways,λk=>?_⟩;show 0<=(if k=i-nw then v else p.works k)/\(if k=i-nw then v else p.works k)<=30;split
  ·exact hv
  ·exact h.works k
section
variable {bP bO:Int} {ps:List bY} {ws:List AF} {js:List AY} {ns:List AO} {ag:AG->Bool} {p:AG} {all pre:List AG} {f i k:Nat}
theorem Bd.few(b:Bd bP bO ps ws js ns)(hi:i<ws.length+js.length):0<=C8 ws js i/\C8 ws js i<=HG ws js i/\HG ws js i<=30/\HG ws js i-C8 ws js i<2:=by
 unfold C8 HG;by_cases h:i<ws.length
 ·rw [bV h,bV h];exact (JB b.way i h).time
 ·rw [bU h,bU h];exact (Lh (b.job (i-ws.length) O)).time
theorem tour_skip(e:i+1=ws.length)(h:ag (p.put ws.length i (C8 ws js i+(k:Int)))=false) :
  pre++(DC (C8 ws js i) (k+1)).flatMap (Cm ag ws js f i p)=pre++(DC (C8 ws js i) k).flatMap (Cm ag ws js f i p):=by
 rw [P7];unfold Cm;rw [bV ⟨e,h⟩,List.append_nil]
theorem U7(h:¬(i+1=ws.length/\ag (p.put ws.length i (C8 ws js i+(k:Int)))=false)) :
  pre++(DC (C8 ws js i) (k+1)).flatMap (Cm ag ws js f i p)=(pre++(DC (C8 ws js i) k).flatMap (Cm ag ws js f i p))++C0 ag ws js f (i+1) (p.put ws.length i (C8 ws js i+(k:Int))):=by
 rw [P7,<-List.append_assoc];congr 1;unfold Cm;rw [bU h]
theorem QI(hw:DD all pre (C0 ag ws js (f+1) i p))(hk:C8 ws js i+(k:Int)<=HG ws js i)(h:¬(i+1=ws.length/\ag (p.put ws.length i (C8 ws js i+(k:Int)))=false)) :
  DD all (pre++(DC (C8 ws js i) k).flatMap (Cm ag ws js f i p)) (C0 ag ws js f (i+1) (p.put ws.length i (C8 ws js i+(k:Int)))):=by
 rw [FC] at hw
 have:=hw.round hk
 unfold Cm at this ⊢;rw [bU h] at this;exact this
end
theorem NJ{lo hi:Int}(h:hi-lo<2):(FI lo hi).length<=2:=by unfold FI DC;simp;omega
theorem OE{bP bO:Int}{ps:List bY}{ws:List AF}{js:List AY}{ns:List AO}(b:Bd bP bO ps ws js ns)(ag:AG->Bool):∀(f i:Nat)(p:AG),i+f=ws.length+js.length->(C0 ag ws js f i p).length<=2 ^ f
 | 0,_,_,_=>Nat.le_refl _
 | f+1,i,p,h=>by
  rw [FC];have a:=(b.few (i:=i) O).2.2.2;have d:=LY (f:=Cm ag ws js f i p) (c:=2 ^ f) (l:=FI (C8 ws js i) (HG ws js i)) λx _=>by
   unfold Cm;split
   ·exact Nat.zero_le _
   ·exact OE b ag f (i+1) _ O
  have e:=Nat.mul_le_mul_right (2 ^ f) (NJ a);rw [Nat.pow_succ];omega
theorem Ee{bP bO:Int}{ps:List bY}{ws:List AF}{js:List AY}{ns:List AO}(b:Bd bP bO ps ws js ns):(AC ws js ns).length<=2000000:=by
 unfold AC;split
 ·have a:=OE b (CM ns) (ws.length+js.length) 0 AG.zero O;have c:2 ^ (ws.length+js.length)<=2 ^ 9:=Nat.pow_le_pow_right O (by have:=b.wlen;have:=b.jlen;omega);omega
 ·exact Nat.zero_le _
def Eq(bP bO:Int)(ps:List bY)(ws:List AF)(js:List AY)(ns:List AO):Int:=if B7 bP bO ps ws js ns=0 then ((AC ws js ns).length:Int) else 0
section
variable {bP bO:Int} {ps:List bY} {ws:List AF} {js:List AY} {ns:List AO}
theorem U8(h:¬B7 bP bO ps ws js ns=0):(.tuple #[.int .i64 0,.int .i64 (B7 bP bO ps ws js ns)]:bW)=.tuple #[.int .i64 (Eq bP bO ps ws js ns),.int .i64 (B7 bP bO ps ws js ns)]:=by
 unfold Eq;rw [bU h]
theorem tHist_ok(h:¬¬B7 bP bO ps ws js ns=0):(.tuple #[.int .i64 ((AC ws js ns).length:Int),.int .i64 0]:bW)=.tuple #[.int .i64 (Eq bP bO ps ws js ns),.int .i64 (B7 bP bO ps ws js ns)]:=by
 have e:=Decidable.not_not.1 h;unfold Eq;rw [bV e,e]
end
section
variable {α:Type} {hB h hc h':A} {I:List α->(Nat->Prop)->A->Prop} {bK:A->Prop} {rp:Nat} {bN:bX} {c c':Array bW} {X0 X:Nat->Prop} {pre l:List α} {v:bW}
theorem F3.stoppedI{I':List α->(Nat->Prop)->A->Prop}{pre':List α}(hv:v=.bool false)(r:∀l',F3 hB I bK pre X0 h l' (.bool false) h'):F3 hB I' bK pre' X0 h l v h':=by
 obtain ⟨g,X',e,a,b,d,_,f⟩:=r [];cases e;exact ⟨false,X',hv,a,b,d,(λx=>by cases x),f⟩
def EM(I:List α->(Nat->Prop)->A->Prop)(rp:Nat)(bN:bX)(c:Array bW):List α->(Nat->Prop)->A->Prop:=λpre X h=>
 ∃X',I pre X' h/\¬X' rp/\(∀b,X b↔X' b\/b=rp)/\h rp=some (true,.cells c bN (0,0))
theorem EM.prom(P:Hk hB I):Hk hB (EM I rp bN c):=by
 refine ⟨?_,?_⟩
 ·rintro pre X h b ⟨X',i,n,a,d⟩ e;rcases (a b).1 e with q | rfl
  ·exact P.dom _ _ _ _ i q
  ·exact ⟨_,_,d,rfl⟩
 ·rintro pre X h h' ⟨X',i,n,a,d⟩ same f;exact ⟨X',P.stable _ _ _ _ i (λb e=>same b ((a b).2 (.inl e))) f,n,a,by rw [same rp ((a rp).2 (.inr rfl))];exact d⟩
theorem EM.box(x:EM I rp bN c pre X h):h rp=some (true,.cells c bN (0,0)):=by obtain ⟨_,_,_,_,e⟩:=x;exact e
theorem EM.mem(x:EM I rp bN c pre X h):X rp:=by obtain ⟨X',_,_,a,_⟩:=x;exact (a rp).2 (.inr rfl)
theorem Fl.put(P:Hk hB I)(y:Fl hB (EM I rp bN c) X0 h pre X hc)(rB:hB rp=none)(nb:h' rp=some (true,.cells c' bN (0,0)))(ho:∀b,b≠rp->h' b=hc b):Fl hB (EM I rp bN c') X0 h pre X h':=by
 obtain ⟨⟨X',i,n,a,d⟩,sub,keep,base⟩:=y;exact ⟨⟨X',P.store i n ho (base.upd rB ho),n,a,nb⟩,sub,keep.store' (sub rp ((a rp).2 (.inr rfl))) ho,base.upd rB ho⟩
theorem EM.call{P:Program}{W:Wk P}{yv:bW}{args:Array bW}(x:EM I rp bN c pre X hc)(k:∀X',I pre X' hc->CW W yv args hc (F3 hB I bK pre X' hc l)):CW W yv args hc (F3 hB (EM I rp bN c) bK pre X hc l):=by
 have C:=x;obtain ⟨X',i,n,a,d⟩:=x;refine (k X' i).mono λv h' r=>?_;obtain ⟨j,X1,m,f,g,s,t,u⟩:=r;have w:¬X1 rp:=λq=>(f rp q).elim n λe=>by rw [d] at e;cases e
 refine ⟨j,λb=>X1 b\/b=rp,m,?_,λb p o y z=>g b p o y λq=>z ((a b).2 (.inl q)),s,λe=>⟨X1,t e,w,λ_=>Iff.rfl,g.box d n rfl⟩,u⟩;rintro b (q | rfl)
 ·exact (f b q).imp (λq=>(a b).2 (.inl q)) id
 ·exact .inl ((a _).2 (.inr rfl))
theorem EM.start(x:I pre X hc)(hp:hc rp=some (true,.cells c bN (0,0)))(n:¬X rp):EM I rp bN c pre (λb=>X b\/b=rp) hc:=⟨X,x,n,λ_=>Iff.rfl,hp⟩
theorem EM.final{X0:Nat->Prop}(y:Fl hB I X0 h pre X hc)(hn:h rp=none)(r:F3 hB (EM I rp bN c) bK pre (λb=>X b\/b=rp) hc l v h'):F3 hB I bK pre X0 h l v h':=by
 obtain ⟨t,X1,m,u,n,s,w,x⟩:=r;cases t with
 | true=>
  obtain ⟨X2,C,D,f,E⟩:=w rfl;refine ⟨true,X2,m,λb q=>?_,?_,s,λ_=>C,λe=>by cases e⟩
  ·rcases u b ((f b).2 (.inl q)) with (q1 | rfl) | q1
   ·exact y.sub b q1
   ·exact absurd q D
   ·exact subX y.sub y.keep (X1:=λz=>z=b) (λz e=>.inr (by rw [e];exact q1)) b rfl
  ·intro b p o a d;obtain ⟨g,i,e2⟩:=y.keep b p o a d;obtain ⟨j,k,e4⟩:=n b p g i (λq=>q.elim (λq=>(y.sub b q).elim d λe=>by rw [e] at a;cases a) λe=>by rw [e,hn] at a;cases a);refine ⟨j,k,?_⟩;rcases e2 with rfl | e2
   ·exact e4
   ·rcases e4 with rfl | e4
    ·exact .inr e2
    ·exact .inr ⟨e2.1,e4.2⟩
 | false=>
  refine ⟨false,λb=>X0 b\/h b=none,m,λb q=>q,?_,s,(λe=>by cases e),λ_=>x rfl⟩;intro b p o a d;obtain ⟨g,i,e2⟩:=y.keep b p o a d;obtain ⟨j,k,e4⟩:=n b p g i (λq=>q.elim (λq=>(y.sub b q).elim d λe=>by rw [e] at a;cases a) λe=>by rw [e,hn] at a;cases a);refine ⟨j,k,?_⟩;rcases e2 with rfl | e2
  ·exact e4
  ·rcases e4 with rfl | e4
   ·exact .inr e2
   ·exact .inr ⟨e2.1,e4.2⟩
end
end Go.Ns
namespace Go.Ns
open Go.Conc
abbrev FZ:=Nat->Nat->Int
def Mi(m:FZ):Array bW:=#[.int .i64 (m 0 0),.int .i64 (m 0 1),.int .i64 (m 0 2),.int .i64 (m 0 3),.int .i64 (m 1 0),.int .i64 (m 1 1),.int .i64 (m 1 2),.int .i64 (m 1 3),
 .int .i64 (m 2 0),.int .i64 (m 2 1),.int .i64 (m 2 2),.int .i64 (m 2 3),.int .i64 (m 3 0),.int .i64 (m 3 1),.int .i64 (m 3 2),.int .i64 (m 3 3)]
def FZ.zero:FZ:=λ_ _=>0
def FZ.set(m:FZ)(i k:Nat)(v:Int):FZ:=λa b=>if a=i/\b=k then v else m a b
theorem Lk{m:FZ}{i k:Nat}(hi:i<4)(hk:k<4):(Mi m)[0+i*4+k*1]? =some (.int .i64 (m i k)):=by
 match i,hi with
 | 0,_=>match k,hk with
  | 0,_=>rfl
  | 1,_=>rfl
  | 2,_=>rfl
  | 3,_=>rfl
 | 1,_=>match k,hk with
  | 0,_=>rfl
  | 1,_=>rfl
  | 2,_=>rfl
  | 3,_=>rfl
 | 2,_=>match k,hk with
  | 0,_=>rfl
  | 1,_=>rfl
  | 2,_=>rfl
  | 3,_=>rfl
 | 3,_=>match k,hk with
  | 0,_=>rfl
  | 1,_=>rfl
  | 2,_=>rfl
  | 3,_=>rfl
theorem OF{m:FZ}{i k:Nat}{v:Int}(hi:i<4)(hk:k<4):CK (Mi m) (0+i*4+k*1) [.int .i64 v]=Mi (m.set i k v):=by
 match i,hi with
 | 0,_=>match k,hk with
  | 0,_=>rfl
  | 1,_=>rfl
  | 2,_=>rfl
  | 3,_=>rfl
 | 1,_=>match k,hk with
  | 0,_=>rfl
  | 1,_=>rfl
  | 2,_=>rfl
  | 3,_=>rfl
 | 2,_=>match k,hk with
  | 0,_=>rfl
  | 1,_=>rfl
  | 2,_=>rfl
  | 3,_=>rfl
 | 3,_=>match k,hk with
  | 0,_=>rfl
  | 1,_=>rfl
  | 2,_=>rfl
  | 3,_=>rfl
def NK(i:Nat)(m:FZ)(k:Nat):FZ:=if¬(i:Int)=(k:Int) then m.set i k 1048576 else m
def IO(i:Nat)(m:FZ)(n:Nat):FZ:=(List.range n).foldl (NK i) m
def Jt(n:Nat):FZ:=(List.range n).foldl (λm i=>IO i m 4) FZ.zero
def Ll(p:AG)(ws:List AF)(m:FZ)(k:Nat):FZ:=(m.set (ws.getD k AF.z).a.toNat (ws.getD k AF.z).b.toNat (p.ways k)).set (ws.getD k AF.z).b.toNat (ws.getD k AF.z).a.toNat (p.ways k)
def BU(p:AG)(ws:List AF)(n:Nat):FZ:=(List.range n).foldl (Ll p ws) (Jt 4)
def Rb(by_ i:Nat)(m:FZ)(k:Nat):FZ:=m.set i k (min (m i k) (m i by_+m by_ k))
def Il(by_ i:Nat)(m:FZ)(n:Nat):FZ:=(List.range n).foldl (Rb by_ i) m
def QJ(by_ np:Nat)(m:FZ)(i:Nat):FZ:=if m i by_=1048576 then m else Il by_ i m np
def F4(by_ np:Nat)(m:FZ)(n:Nat):FZ:=(List.range n).foldl (QJ by_ np) m
def DR(np:Nat)(m:FZ)(n:Nat):FZ:=(List.range n).foldl (λm b=>F4 b np m np) m
def Ap(np:Nat)(ws:List AF)(p:AG):FZ:=DR np (BU p ws ws.length) np
theorem BO{β:Type}(f:β->Nat->β)(b:β)(n:Nat):(List.range (n+1)).foldl f b=f ((List.range n).foldl f b) n:=by rw [List.range_succ,List.foldl_append];rfl
def FZ.ok(m:FZ):Prop:=∀i k,0<=m i k/\m i k<=1048576
theorem FZ.ok_set{m:FZ}(h:m.ok){i k:Nat}{v:Int}(hv:0<=v/\v<=1048576):(m.set i k v).ok:=λa b=>by
 unfold FZ.set;split
 ·exact hv
 ·exact h a b
theorem FZ.ok_zero:FZ.zero.ok:=λ_ _=>⟨Int.le_refl 0,(aF:(0:Int)<=1048576)⟩
theorem JC{β:Type}{Q:β->Prop}{f:β->Nat->β}(hf:∀b k,Q b->Q (f b k)):∀{l:List Nat}{b:β},Q b->Q (l.foldl f b)
 | [],_,h=>h
 | x ::l,b,h=>JC hf (l:=l) (hf b x h)
theorem farRow_ok{i:Nat}{m:FZ}{k:Nat}(h:m.ok):(NK i m k).ok:=by
 unfold NK;split
 ·exact FZ.ok_set h aF
 ·exact h
theorem far0K_ok{i:Nat}{m:FZ}{n:Nat}(h:m.ok):(IO i m n).ok:=JC (λ_ _=>farRow_ok) h
theorem far0_ok{n:Nat}:(Jt n).ok:=JC (λ_ _ h=>far0K_ok h) FZ.ok_zero
theorem farWay_ok{p:AG}{ws:List AF}{m:FZ}{k:Nat}(hp:Bt p)(h:m.ok):(Ll p ws m k).ok:=by
 have:=hp.ways k
 exact FZ.ok_set (FZ.ok_set h O) O
theorem NL{p:AG}{ws:List AF}{n:Nat}(hp:Bt p):(BU p ws n).ok:=JC (λ_ _ h=>farWay_ok hp h) far0_ok
theorem farStep_ok{b i:Nat}{m:FZ}{k:Nat}(h:m.ok):(Rb b i m k).ok:=by
 have a:=h i k;have c:=h i b;have d:=h b k;exact FZ.ok_set h O
theorem farK_ok{b i:Nat}{m:FZ}{n:Nat}(h:m.ok):(Il b i m n).ok:=JC (λ_ _ h=>farStep_ok h) h
theorem farI1_ok{b np:Nat}{m:FZ}{i:Nat}(h:m.ok):(QJ b np m i).ok:=by
 unfold QJ;split
 ·exact h
 ·exact farK_ok h
theorem Rc{b np:Nat}{m:FZ}{n:Nat}(h:m.ok):(F4 b np m n).ok:=JC (λ_ _ h=>farI1_ok h) h
theorem YV{np:Nat}{m:FZ}{n:Nat}(h:m.ok):(DR np m n).ok:=JC (λ_ _ h=>Rc h) h
theorem Cu{c c':Array bW}(h:c.size=c'.size):CK c 0 c'.toList=c':=by
 apply Array.toList_inj.1;rw [Fi _ _ _ (by simp [h])];simp [h]
theorem Ju{b:Bool}(h:(!b)=true):b=false:=by cases b <;> simp_all
theorem Jv{b:Bool}(h:(!b)=false):b=true:=by cases b <;> simp_all
abbrev GX:=(Int×Int×Int×Int×Int)×Int×Int
def GG(a:GX):bW:=.agg #[.int .i64 a.1.1,.int .i64 a.1.2.1,.int .i64 a.1.2.2.1,.int .i64 a.1.2.2.2.1,.int .i64 a.1.2.2.2.2,.int .i64 a.2.1,.int .i64 a.2.2]
def YW:GX->Option Int:=λ_=>none
def AG.w5(p:AG):Int×Int×Int×Int×Int:=(p.ways 0,p.ways 1,p.ways 2,p.ways 3,p.ways 4)
theorem GX.eq_iff(a b:GX):((a.1.1==b.1.1 && (a.1.2.1==b.1.2.1 && (a.1.2.2.1==b.1.2.2.1 && (a.1.2.2.2.1==b.1.2.2.2.1 && (a.1.2.2.2.2==b.1.2.2.2.2 && true))))) && (a.2.1==b.2.1 && (a.2.2==b.2.2 && true)))=decide (a=b):=by
 obtain ⟨⟨c,d,e,f,g⟩,h,i⟩:=a;obtain ⟨⟨j,k,l,m,n⟩,o,p⟩:=b;rw [Bool.eq_iff_iff];simp [and_assoc]
theorem Ub(a:GX):Instr.sameBits 10000 (GG a) (GG a)=true:=by
 have b:∀(n:Nat)(x:Int),Instr.sameBits n (.int .i64 x) (.int .i64 x)=true:=λn x=>by
  cases n <;> (unfold Instr.sameBits;simp)
 unfold GG;show Instr.sameBits (9999+1) _ _=true;unfold Instr.sameBits;simp only [List.zip_cons_cons,List.zip_nil_left,List.all_cons,List.all_nil,b];simp
def farPut(m:FZ)(w:Int×Int×Int×Int×Int)(i:Nat)(M:GX->Option Int)(k:Nat):GX->Option Int:=λb=>if b=(w,(i:Int),(k:Int)) then some (m i k) else M b
def Ha(m:FZ)(w:Int×Int×Int×Int×Int)(i:Nat)(M:GX->Option Int)(n:Nat):GX->Option Int:=(List.range n).foldl (farPut m w i) M
def C7(m:FZ)(w:Int×Int×Int×Int×Int)(np:Nat)(M:GX->Option Int)(n:Nat):GX->Option Int:=(List.range n).foldl (λM i=>Ha m w i M np) M
theorem QK{m:FZ}{w:Int×Int×Int×Int×Int}{i k:Nat}{M:GX->Option Int}:∀{n:Nat},k<n->Ha m w i M n (w,(i:Int),(k:Int))=some (m i k)
 | 0,h=>absurd h (Nat.not_lt_zero _)
 | n+1,h=>by
  unfold Ha;rw [BO];unfold farPut;by_cases e:k=n
  ·subst e;rw [bV rfl]
  ·rw [bU (λq=>e (by have a:(k:Int)=(n:Int):=congrArg (λz:GX=>z.2.2) q;omega))];exact QK (n:=n) O
theorem Kf{m:FZ}{w:Int×Int×Int×Int×Int}{i:Nat}{M:GX->Option Int}{b:GX}(hb:b.1≠w\/b.2.1≠(i:Int)):∀{n:Nat},Ha m w i M n b=M b
 | 0=>rfl
 | n+1=>by
  unfold Ha;rw [BO];unfold farPut;rw [bU (λq=>by subst q;rcases hb with h | h <;> exact h rfl)];exact Kf hb (n:=n)
theorem QL{m:FZ}{w:Int×Int×Int×Int×Int}{np i k:Nat}{M:GX->Option Int}(hk:k<np):∀{n:Nat},i<n->C7 m w np M n (w,(i:Int),(k:Int))=some (m i k)
 | 0,h=>absurd h (Nat.not_lt_zero _)
 | n+1,h=>by
  unfold C7;rw [BO];by_cases e:i=n
  ·subst e;exact QK hk
  ·rw [Kf (.inr (by show (i:Int)≠(n:Int);omega))];exact QL hk (n:=n) O
theorem OG{m:FZ}{w:Int×Int×Int×Int×Int}{np:Nat}{M:GX->Option Int}{b:GX}(hb:b.1≠w):∀{n:Nat},C7 m w np M n b=M b
 | 0=>rfl
 | n+1=>by
  unfold C7;rw [BO,Kf (.inl hb)];exact OG hb (n:=n)
theorem w5_at{p q:AG}(e:q.w5=p.w5){k:Nat}(h:k<5):q.ways k=p.ways k:=by
 simp only [AG.w5,Prod.mk.injEq] at e;obtain ⟨a,b,c,d,f⟩:=e
 match k,h with
 | 0,_=>exact a
 | 1,_=>exact b
 | 2,_=>exact c
 | 3,_=>exact d
 | 4,_=>exact f
theorem Sn{p q:AG}{ws:List AF}(e:q.w5=p.w5):∀{n:Nat},n<=5->BU q ws n=BU p ws n
 | 0,_=>rfl
 | n+1,h=>by
  have a:=Sn (ws:=ws) e (n:=n) O;unfold BU at a ⊢;rw [BO,BO,a];unfold Ll;rw [w5_at e O]
theorem U9{p q:AG}{ws:List AF}{np:Nat}(hw:ws.length<=5)(e:q.w5=p.w5):Ap np ws q=Ap np ws p:=by
 unfold Ap;rw [Sn e hw]
def Hn(np:Nat)(ws:List AF)(l:List AG)(M:GX->Option Int):Prop:=∀q ∈ l,∀i k:Nat,i<np->k<np->M (q.w5,(i:Int),(k:Int))=some (Ap np ws q i k)
theorem Hn.call{np:Nat}{ws:List AF}{pq:List AG}{k:Nat}{M:GX->Option Int}(h:Hn np ws (pq.take k) M)(hk:k<pq.length)(hw:ws.length<=5) :
  Hn np ws (pq.take (k+1)) (C7 (Ap np ws (pq.getD k AG.zero)) (pq.getD k AG.zero).w5 np M np):=by
 intro q a i j b c;by_cases e:q.w5=(pq.getD k AG.zero).w5
 ·rw [e,QL c b,U9 hw e]
 ·rw [OG e];rw [DF AG.zero hk] at a;rcases List.mem_append.1 a with h1 | h1
  ·exact h q h1 i j b c
  ·rw [List.mem_singleton.1 h1] at e;exact absurd rfl e
theorem Hn.skip{np:Nat}{ws:List AF}{pq:List AG}{k:Nat}{M:GX->Option Int}(h:Hn np ws (pq.take k) M)(hk:k<pq.length)(hw:ws.length<=5)(h0:¬(k:Int)=0)(e:(pq.getD k AG.zero).w5=(pq.getD (k-1) AG.zero).w5) :
  Hn np ws (pq.take (k+1)) M:=by
 intro q a i j b c;rw [DF AG.zero hk] at a;rcases List.mem_append.1 a with h1 | h1
 ·exact h q h1 i j b c
 ·rw [List.mem_singleton.1 h1,e,U9 hw e];refine h _ ?_ i j b c;rw [Cy AG.zero O];exact List.mem_take_iff_getElem.2 ⟨k-1,O,rfl⟩
def FO(h:A)(r np:Nat)(ws:List AF)(pq:List AG):Prop:=∃pm M,MapAt h r pm GG En M/\Hn np ws pq M
theorem FO.le{h h':A}{r np:Nat}{ws:List AF}{pq:List AG}(x:FO h r np ws pq)(l:h.Le h'):FO h' r np ws pq:=by
 obtain ⟨b,M,⟨c,a,d,e⟩,f⟩:=x;exact ⟨b,M,⟨c,a,l.keep d rfl,e⟩,f⟩
structure EQ(hB:A)(r:Nat)(M:GX->Option Int)(h hc:A):Prop where
 ok:DZ hc r GG En M
 keep:CF (λb=>b=r) h hc
 base:hB.Le hc
def FRes(hB:A)(r:Nat)(M:GX->Option Int)(h h':A):Prop:=DZ h' r GG En M/\CF (λb=>b=r) h h'/\hB.Le h'
section
variable {hB h hc h':A} {r:Nat} {M M':GX->Option Int}
theorem DZ.some(x:DZ h r GG En M):∃o,h r=some (true,o)/\LR o=false:=by obtain ⟨c,a,b,_⟩:=x;exact ⟨_,b,rfl⟩
theorem EQ.start(x:DZ h r GG En M)(l:hB.Le h):EQ hB r M h h:=⟨x,CF.refl _ _,l⟩
theorem EQ.le(y:EQ hB r M h hc)(l:hc.Le h'):EQ hB r M h h':=by
 obtain ⟨o,a,_⟩:=y.ok.some;exact ⟨y.ok.le_other ((l.keep a rfl).trans a.symm),y.keep.trans (λ_ q=>.inl q) (l.keepX _),y.base.trans l⟩
theorem EQ.store(y:EQ hB r M h hc){q:Nat}(hq:h q=none)(qB:hB q=none)(hn:q≠r)(ho:∀b,b≠q->h' b=hc b):EQ hB r M h h':=
 ⟨y.ok.le_other (ho r (Ne.symm hn)),y.keep.store hq ho,y.base.upd qB ho⟩
theorem EQ.put(y:EQ hB r M h hc)(rB:hB r=none)(x:DZ h' r GG En M')(ho:∀b,b≠r->h' b=hc b):EQ hB r M' h h':=⟨x,y.keep.store' (.inl rfl) ho,y.base.upd rB ho⟩
theorem EQ.call(y:EQ hB r M h hc)(m:FRes hB r M' hc h'):EQ hB r M' h h':=⟨m.1,y.keep.trans (λ_ q=>.inl q) m.2.1,m.2.2⟩
theorem EQ.ne(y:EQ hB r M h hc){q:Nat}(hq:hc q=none):q≠r:=λe=>by
 obtain ⟨o,a,_⟩:=y.ok.some;rw [e,a] at hq;cases hq
theorem EQ.nothing(y:EQ hB r M h hc){q:Nat}(hq:hc q=none):h q=none:=by
 cases a:h q with
 | none=>rfl
 | some x=>
  obtain ⟨c,b,_⟩:=y.keep q x.1 x.2 a (y.ne hq);rw [b] at hq;cases hq
theorem QM(x:h r=some (true,.map #[] 0)):DZ h r GG En YW:=DZ.empty x
theorem DZ.slDel{α:Type}(x:DZ h r GG En M){v:bW}{n:Nat}{enc:α->Array bW}{xs:List α}(y:Ai h v n enc xs):Ai (h.del r) v n enc xs:=by
 obtain ⟨c,a,b,_⟩:=x;exact Ai.slDel y b
theorem DZ.leF(x:DZ h r GG En M)(l:h.Le h'):DZ h' r GG En M:=by
 obtain ⟨o,a,e⟩:=x.some;exact x.le_other ((l.keep a e).trans a.symm)
theorem EQ.res(y:EQ hB r M h hc):FRes hB r M h hc:=⟨y.ok,y.keep,y.base⟩
end
theorem QN{bP bO:Int}{ps:List bY}{ws:List AF}{js:List AY}{ns:List AO}(b:Bd bP bO ps ws js ns){ag:AG->Bool}:∀{f i:Nat}{p:AG},i+f=ws.length+js.length->Bt p->∀q ∈ C0 ag ws js f i p,Bt q
 | 0,_,p,_,c,q,a=>by rw [List.mem_singleton.1 a];exact c
 | f+1,i,p,h,c,q,a=>by
  rw [FC] at a;obtain ⟨n,d,a⟩:=List.mem_flatMap.1 a;have e:=b.few (i:=i) O;have g:=mem_spanL.1 d;unfold Cm at a;split at a
  ·cases a
  ·exact QN b (f:=f) O (c.put O) q a
section
variable {bP bO:Int} {ps:List bY} {ws:List AF} {js:List AY} {ns:List AO}
theorem IP(b:Bd bP bO ps ws js ns):∀q ∈ AC ws js ns,Bt q:=by
 intro q a;unfold AC at a;split at a
 ·exact QN b O Bt.zero q a
 ·cases a
theorem Ss(b:Bd bP bO ps ws js ns)(k:Nat):Bt ((AC ws js ns).getD k AG.zero):=by
 rcases Nat.lt_or_ge k (AC ws js ns).length with h | h
 ·exact IP b _ (CS h)
 ·rw [CH h];exact Bt.zero
def Aw(bP bO:Int)(ps:List bY)(ws:List AF)(js:List AY)(ns:List AO)(s:Int):Int:=
 if¬B7 bP bO ps ws js ns=0 then B7 bP bO ps ws js ns else if¬s=0 then s else if (AC ws js ns).length=0 then 9 else 0
variable {s:Int}
theorem OH(h:¬B7 bP bO ps ws js ns=0):Aw bP bO ps ws js ns s=B7 bP bO ps ws js ns:=bV h
theorem Re(h:¬¬B7 bP bO ps ws js ns=0)(h2:¬s=0):Aw bP bO ps ws js ns s=s:=by unfold Aw;rw [bU h,bV h2]
theorem Rf(h:¬¬B7 bP bO ps ws js ns=0)(h2:¬¬s=0)(h3:(AC ws js ns).length=0):Aw bP bO ps ws js ns s=9:=by unfold Aw;rw [bU h,bU h2,bV h3]
theorem Wy(h:¬¬B7 bP bO ps ws js ns=0)(h2:¬¬s=0)(h3:¬(AC ws js ns).length=0):Aw bP bO ps ws js ns s=0:=by unfold Aw;rw [bU h,bU h2,bU h3]
theorem EX(h:Aw bP bO ps ws js ns s=0):Bd bP bO ps ws js ns/\s=0/\0<(AC ws js ns).length:=by
 unfold Aw at h;split at h
 ·rename_i a;exact absurd h a
 ·split at h
  ·rename_i a b;exact absurd h b
  ·split at h
   ·cases h
   ·rename_i a b c
    exact ⟨Db (Decidable.not_not.1 a),Decidable.not_not.1 b,O⟩
theorem w5_eq{p q:AG}(h:(!((p.ways 0==q.ways 0 && (p.ways 1==q.ways 1 && (p.ways 2==q.ways 2 && (p.ways 3==q.ways 3 && (p.ways 4==q.ways 4 && true)))))))=false):p.w5=q.w5:=by
 simp only [Bool.not_eq_false',Bool.and_eq_true,beq_iff_eq,and_true] at h;obtain ⟨a,b,c,d,e⟩:=h;simp only [AG.w5,a,b,c,d,e]
theorem Hn.is{h:A}{r np:Nat}{ws:List AF}{pq:List AG}{M:GX->Option Int}{k:Nat}(x:DZ h r GG En M)(hM:Hn np ws (pq.take k) M)(hk:pq.length<=k):FO h r np ws pq:=by
 rw [List.take_of_length_le hk] at hM;exact ⟨true,M,x,hM⟩
theorem VA{a b c d e f w:bW}{r:Nat}(h:w.cells=#[w]):Instr.fill (λx=>#[(0,6),(6,1),(7,1)][x]?) #[.int .i64 0,.int .i64 0,.slice none 0 0,.slice none 0 0,.slice none 0 0,.slice none 0 0,.slice none 0 0,.map none] [(0,.agg #[a,b,c,d,e,f]),(1,w),(2,.map (some r))]=some #[a,b,c,d,e,f,w,.map (some r)]:=by
 have i:∀g,(Value.agg g).cells=g:=λ_=>rfl;have j:∀q,(Value.map q).cells=#[.map q]:=λ_=>rfl;simp [Instr.fill,h,i,j]
end
end Go.Ns
namespace Go.Ns
open Go.Conc
section
variable {P:Program} {E:Ho P} {V:Nat->bW} {ds:List Deferred} {h:A} {bN:(Nat->bW)->List Deferred->A->Prop}
variable {dst:Option Nat} {ty:bX} {pos:String} {af:Array Edge} {gd:Option (Nat×Bool)}
def OI(P:Program)(e:bX):Option Nat:=(P.info? e).map (·.bytes)
theorem Wz(z:bW)(n:Nat):(Array.range n).map (λi=>(#[z]:Array bW)[i%(#[z]:Array bW).size]!)=Array.replicate n z:=by
 apply Array.ext
 ·simp
 ·intro i a b;simp [Nat.mod_one]
theorem In{t:bX}{l c:Operand}{N by_:Nat}{z:bW}{e:bX}(hs:EA P t=some (1,#[z],e))(hby:OI P e=some by_)(hl:Ag V l=.int .i64 N)(hc:Ag V c=.int .i64 N)(hb:by_*N<=281474976710656)(hN2:N<=16777216)
  (k:∀r h',h r=none->h.Le h'->h' r=some (true,.cells (Array.replicate N z) e (0,0))->(∀b,b≠r->h' b=h b)->bN (putS V dst (.slice (some ⟨r,0,none⟩) N N)) ds h'):B9 E ⟨dst,.makeSlice t l c,ty,pos,af,gd⟩ V ds h bN:=by
 unfold B9 execOp;refine HL ?_;unfold EA at hs;unfold Instr.makeSlice;rw [hl,hc];cases o:P.underlying t with
 | none=>rw [o] at hs;cases hs
 | some d=>
  rw [o] at hs;cases d <;> first | (cases hs;done) | skip
  rename_i p
  simp only at hs;cases j:DN P p with
  | none=>rw [j] at hs;cases hs
  | some x=>
   cases a:CZ P p with
   | none=>rw [j,a] at hs;cases hs
   | some F=>
    rw [j,a] at hs;simp only [Option.some.injEq,Prod.mk.injEq] at hs;obtain ⟨s,rfl,rfl⟩:=hs;refine AI _ _ (BG o ?_);refine AI _ _ (BS ?_);refine AI _ _ (BS ?_);unfold OI at hby;unfold CZ at a;cases n:P.info? p with
    | none=>rw [n] at a;cases a
    | some i=>
    rw [n] at a hby;simp only [Option.map_some,Option.some.injEq] at hby;simp only [Option.map_eq_some_iff] at a;obtain ⟨v,y,u⟩:=a;refine AI _ _ (DU n ?_);have C:IntKind.i64.wrap (N:Int)=N:=IntWalk.i64_in _ O;simp only [C,hby];have D:((by_:Int)*(N:Int))<=281474976710656:=by rw [<-Int.natCast_mul];exact Int.ofNat_le.2 hb
    rw [bU (by simp;omega)];simp only [Int.toNat_natCast];have f:∀(m:Nat)(Q:Unit->A->Prop),Q () h->(askRoom m).gh P h Q:=λm Q q=>by
     unfold askRoom;split
     ·exact ⟨rfl,q⟩
     ·exact q
    refine AI _ _ (f _ _ ?_);refine AI _ _ (Ht (by rw [j];rfl) ?_);dsimp only;rw [s,Nat.mul_one];by_cases w:N=0
    ·subst w;rw [bV rfl];refine AI _ _ (BS ?_);rw [show (Array.range 0).map (λi=>(#[]:Array bW)[i%(#[]:Array bW).size]!)=Array.replicate 0 z from aG];refine AI _ _ ?_;unfold newRow;refine AI _ _ (λr g=>?_);exact k r _ g (A.Le.new g _ _) (A.set_same _ _ _ _) λb hb=>A.set_ne _ _ _ hb
    rw [bU w];unfold zeroValue;refine AI _ _ (AI _ _ (AI _ _ (DU n ?_)));rw [y];refine BS ?_;refine AI _ _ (BS ?_);rw [u,Wz];refine AI _ _ ?_;unfold newRow;refine AI _ _ (λr g=>?_);exact k r _ g (A.Le.new g _ _) (A.set_same _ _ _ _) λb hb=>A.set_ne _ _ _ hb
theorem Lm{α:Type}{enc:α->Array bW}{x:α}{z:bW}(he:enc x=#[z]):∀N:Nat,ET enc (List.replicate N x)=List.replicate N z
 | 0=>rfl
 | N+1=>by
  have:=Lm he N
  unfold ET at this ⊢;rw [List.replicate_succ,List.flatMap_cons,this,he];rfl
theorem Ae.made{α:Type}{h h':A}{r N:Nat}{t:bX}{enc:α->Array bW}{x:α}{z:bW}(hr:h r=none)(hb:h' r=some (true,.cells (Array.replicate N z) t (0,0)))(hN:N<=16777216)(he:enc x=#[z]) :
  Ae h h' (.slice (some ⟨r,0,none⟩) N N) t 1 enc (List.replicate N x):=
 .inr ⟨r,N,_,by rw [List.length_replicate],hr,hb,aG,aG,by rw [List.length_replicate];omega,by rw [Lm he,List.length_replicate,Nat.mul_one];simp,λy a=>by rw [(List.mem_replicate.1 a).2,he];rfl⟩
end
def CJ(nj:Nat)(k:Int):Int:=if¬(0<=k/\k<=(nj:Int)-1) then 6 else 0
def Fb(nj:Nat)(l:List Int)(k:Nat):Int:=if¬CJ nj (l.getD k 0)=0 then CJ nj (l.getD k 0) else if (l.take k).any (λx=>decide (l.getD k 0=x))=true then 5 else 0
def BA(nj:Nat)(l:List Int):Int:=Da (Fb nj l) 0 l.length
def Cb(bP bO:Int)(ps:List bY)(ws:List AF)(js:List AY)(ns:List AO)(l:List Int):Int:=
 if¬B7 bP bO ps ws js ns=0 then B7 bP bO ps ws js ns else BA js.length l
theorem Lp{nj:Nat}{k:Int}(h:CJ nj k=0):0<=k/\k<nj:=by
 unfold CJ at h;split at h
 ·cases h
 ·omega
theorem GY{nj:Nat}{l:List Int}(h:BA nj l=0)(k:Nat)(hk:k<l.length):0<=l.getD k 0/\l.getD k 0<nj:=by
 have b:=EF h k (Nat.zero_le _) O;unfold Fb at b;split at b
 ·rename_i a;exact absurd b a
 ·rename_i a;exact Lp (Decidable.not_not.1 a)
def Ez(out ps:List Int):Nat->List Int
 | 0=>out
 | i+1=>(Ez out ps i).set i ((Ez out ps i).getD i 0+ps.getD i 0)
def CD(bO:Int)(js:List AY)(l:List Int):Nat->List Int
 | 0=>List.replicate bO.toNat 0
 | q+1=>Ez (CD bO js l q) (js.getD (l.getD q 0).toNat AY.z).parts (js.getD (l.getD q 0).toNat AY.z).parts.length
def Cp(bO:Int)(js:List AY)(l:List Int):List Int:=CD bO js l l.length
theorem OJ(out ps:List Int):∀i,(Ez out ps i).length=out.length
 | 0=>rfl
 | i+1=>by rw [Ez,List.length_set,OJ out ps i]
theorem St(out ps:List Int)(hl:ps.length=out.length):∀i,i<=ps.length->∀j,(Ez out ps i).getD j 0=if j<i then out.getD j 0+ps.getD j 0 else out.getD j 0
 | 0,_,j=>by rw [bU O];rfl
 | i+1,h,j=>by
  have e:=St out ps hl i O;have c:=OJ out ps i;unfold Ez;rw [List.getD_eq_getElem?_getD,List.getElem?_set];by_cases a:i=j
  ·subst a;rw [bV rfl,bV O,bV O,Option.getD_some,e i,bU O]
  ·rw [bU a,<-List.getD_eq_getElem?_getD,e j];by_cases b:j<i
   ·rw [bV b,bV O]
   ·rw [bU b,bU O]
section
variable {bP bO:Int} {ps:List bY} {ws:List AF} {js:List AY} {ns:List AO} {l:List Int}
theorem PI(b:Bd bP bO ps ws js ns){k:Int}(h:0<=k/\k<js.length):JobOK ps.length bO (js.getD k.toNat AY.z):=Lh (b.job k.toNat O)
theorem JD(b:Bd bP bO ps ws js ns):∀q,(CD bO js l q).length=bO.toNat
 | 0=>List.length_replicate
 | q+1=>by rw [CD,OJ,JD b q]
theorem NM(b:Bd bP bO ps ws js ns)(hr:∀k,k<l.length->0<=l.getD k 0/\l.getD k 0<js.length):∀q,q<=l.length->∀j,0<=(CD bO js l q).getD j 0/\(CD bO js l q).getD j 0<=5*(q:Int)
 | 0,_,j=>by
  unfold CD;rw [List.getD_eq_getElem?_getD,List.getElem?_replicate];split <;> simp
 | q+1,h,j=>by
  have e:=NM b hr q O j;have x:=PI b (hr q O);have a:=x.part j;have c:=x.len;unfold CD;rw [St _ _ (by rw [JD b q];omega) _ (Nat.le_refl _)];split <;> omega
theorem YX(b:Bd bP bO ps ws js ns)(hr:∀k,k<l.length->0<=l.getD k 0/\l.getD k 0<js.length){q:Nat}(hq:q<l.length){i:Nat}(hi:i<(js.getD (l.getD q 0).toNat AY.z).parts.length) :
  (Ez (CD bO js l q) (js.getD (l.getD q 0).toNat AY.z).parts i).length=(js.getD (l.getD q 0).toNat AY.z).parts.length/\0<=(Ez (CD bO js l q) (js.getD (l.getD q 0).toNat AY.z).parts i).getD i 0/\(Ez (CD bO js l q) (js.getD (l.getD q 0).toNat AY.z).parts i).getD i 0<=5*(q:Int)/\
  0<=(js.getD (l.getD q 0).toNat AY.z).parts.getD i 0/\(js.getD (l.getD q 0).toNat AY.z).parts.getD i 0<=5:=by
 have x:=PI b (hr q hq);have e:=NM b hr q O i;have c:=x.len;have a:=JD (l:=l) b q;refine ⟨by rw [OJ,a];omega,?_⟩;rw [St _ _ (by rw [a];omega) i O,bU O];exact ⟨e.1,e.2,x.part i⟩
theorem Su(b:Bd bP bO ps ws js ns):(Cp bO js l).length=bO.toNat:=JD b _
theorem Sv(b:Bd bP bO ps ws js ns)(hr:∀k,k<l.length->0<=l.getD k 0/\l.getD k 0<js.length)(j:Nat):0<=(Cp bO js l).getD j 0/\(Cp bO js l).getD j 0<=5*(l.length:Int):=NM b hr _ (Nat.le_refl _) j
theorem YY(xs:List Int){k:Nat}(h:k<xs.length):(xs.take (k+1)).sum=(xs.take k).sum+xs.getD k 0:=by
 rw [List.take_add_one,List.sum_append,List.getD_eq_getElem?_getD,List.getElem?_eq_getElem h];simp
theorem sum_all(xs:List Int){k:Nat}(h:xs.length<=k):(xs.take k).sum=xs.sum:=by rw [List.take_of_length_le h]
theorem OK(h:Cb bP bO ps ws js ns l=0):Bd bP bO ps ws js ns/\∀k,k<l.length->0<=l.getD k 0/\l.getD k 0<js.length:=by
 unfold Cb at h;split at h
 ·rename_i a;exact absurd h a
 ·rename_i a;exact ⟨Db (Decidable.not_not.1 a),GY h⟩
def Gu(bP bO:Int)(ps:List bY)(ws:List AF)(js:List AY)(ns:List AO)(l:List Int):List Int:=if¬Cb bP bO ps ws js ns l=0 then [] else Cp bO js l
def E1(bP bO:Int)(ps:List bY)(ws:List AF)(js:List AY)(ns:List AO)(l:List Int):Bool:=if¬Cb bP bO ps ws js ns l=0 then false else decide ((Cp bO js l).sum<=bP)
end
end Go.Ns
namespace Go.Ns
open Go.Conc
section
variable {P:Program} {E:Ho P} {V:Nat->bW} {ds:List Deferred} {h:A} {bN:(Nat->bW)->List Deferred->A->Prop}
variable {dst:Option Nat} {ty:bX} {pos:String} {af:Array Edge} {gd:Option (Nat×Bool)}
theorem NN{t kt vt:bX}{x ix:Operand}{r np:Nat}{ws:List AF}{pq:List AG}{q:AG}{a b:Int}{z:bW}(ht:N1 P t=some (kt,vt))(hx:Ag V x=.map (some r))(hk:Ag V ix=GG (q.w5,a,b))(hm:FO h r np ws pq)
  (hc:∀a:GX,ckP P 4 kt (GG a)=true)
  (he:∀a b:GX,SA P 4 kt (GG a) (GG b)=some ((a.1.1==b.1.1 && (a.1.2.1==b.1.2.1 && (a.1.2.2.1==b.1.2.2.1 && (a.1.2.2.2.1==b.1.2.2.2.1 && (a.1.2.2.2.2==b.1.2.2.2.2 && true))))) && (a.2.1==b.2.1 && (a.2.2==b.2.2 && true))))
  (hz:(P.info? vt).bind (·.zero)=some z) (hq:q ∈ pq) (ha:0<=a/\a<np) (hb:0<=b/\b<np)
  (k:bN (putS V dst (.int .i64 (Ap np ws q a.toNat b.toNat))) ds h):B9 E ⟨dst,.lookup t x ix false,ty,pos,af,gd⟩ V ds h bN:=by
 obtain ⟨g,M,c,f⟩:=hm;have e:=f q hq a.toNat b.toNat O O;rw [Int.toNat_of_nonneg ha.1,Int.toNat_of_nonneg hb.1] at e;refine Uv (d:=3) (a:=(q.w5,a,b)) ht hx hk c rfl (hc _) (λb=>by rw [he,GX.eq_iff]) hz ?_;rw [e];exact k
theorem VB{α:Type}{t:bX}{x:Operand}{olo ohi:Option Operand}{n:Nat}{enc:α->Array bW}{xs:List α}{v:bW}{hk:A}(lo hi:Nat)(ht:F6 P t=some n)(hs:Ai hk v n enc xs)(hx:Ag V x=v)
  (hlo:match olo with | none=>lo=0 | some o=>∃kd,Ag V o=.int kd lo) (hhi:match ohi with | none=>hi=xs.length | some o=>∃kd,Ag V o=.int kd hi) (h1:lo<=hi) (h2:hi<=xs.length)
  (k:∀v',Ai hk v' n enc ((xs.take hi).drop lo)->bN (putS V dst v') ds h):B9 E ⟨dst,.slice t x olo ohi none,ty,pos,af,gd⟩ V ds h bN:=by
 have b:=hs;obtain ⟨a,c,rfl,d,_,_⟩:=b;exact MR lo hi ht d hx hlo hhi h1 h2 (k _ (hs.part h1 h2))
end
def fLo(F:AG->Int)(l:List AG):Nat->Int
 | 0=>F (l.getD 0 AG.zero)
 | k+1=>min (fLo F l k) (F ((l.drop 1).getD k AG.zero))
def fHi(F:AG->Int)(l:List AG):Nat->Int
 | 0=>F (l.getD 0 AG.zero)
 | k+1=>max (fHi F l k) (F ((l.drop 1).getD k AG.zero))
def Df(F:AG->Int)(l:List AG):Int:=fLo F l (l.length-1)
def Cc(F:AG->Int)(l:List AG):Int:=fHi F l (l.length-1)
theorem drop1_mem{l:List AG}{k:Nat}(h:k<l.length-1):(l.drop 1).getD k AG.zero ∈ l:=List.mem_of_mem_drop (CS (by rw [List.length_drop];exact h))
def Hj(s v:Int):Int:=if s=0 then v else 0
theorem LL(v:Int):Hj 0 v=v:=bV rfl
theorem LM{s v:Int}(h:¬s=0):Hj s v=0:=bU h
end Go.Ns
namespace Go.Ns
open Go.Conc
theorem Sw:∀(n m:Nat)(f:Nat->Nat),(∀i,i<m->f i<n)->(∀i j,i<j->j<m->f i≠f j)->m<=n
 | 0,m,f,h,_=>by
  rcases Nat.eq_zero_or_pos m with e | e
  ·omega
  ·exact absurd (h 0 e) (Nat.not_lt_zero _)
 | n+1,m,f,h,d=>by
  rcases Nat.eq_zero_or_pos m with e | e
  ·omega
  ·have x:=Sw n (m-1) (λi=>if f i=n then f (m-1) else f i) (λi b=>by
    have c:=h i O;have g:=h (m-1) O;have k:=d i (m-1) b O;show (if f i=n then f (m-1) else f i)<n;split <;> omega) (λi j a l=>by
    have c:=d i j a O;have g:=d i (m-1) O O;have k:=d j (m-1) O O;show (if f i=n then f (m-1) else f i)≠(if f j=n then f (m-1) else f j);split <;> split <;> omega)
   omega
theorem J8{nj:Nat}{l:List Int}(h:BA nj l=0):l.length<=nj:=by
 refine Sw nj l.length (λk=>(l.getD k 0).toNat) (λi d=>?_) λi j f g=>?_
 ·have:=GY h i d
  show (l.getD i 0).toNat<nj;omega
 ·have d:=GY h i O;have m:=GY h j g;have c:=EF h j (Nat.zero_le _) O;unfold Fb at c;split at c
  ·rename_i a;exact absurd c a
  ·split at c
   ·cases c
   ·rename_i a b
    show (l.getD i 0).toNat≠(l.getD j 0).toNat;intro e;refine b (List.any_eq_true.2 ⟨l.getD i 0,?_,decide_eq_true O⟩);rw [List.mem_iff_getElem];refine ⟨i,by rw [List.length_take];omega,?_⟩;rw [List.getElem_take,List.getD_eq_getElem?_getD,List.getElem?_eq_getElem O];rfl
def IY(js:List AY)(l:List Int):Nat->Int
 | 0=>0
 | q+1=>(js.getD (l.getD q 0).toNat AY.z).place
def Cq(np:Nat)(ws:List AF)(js:List AY)(p:AG)(l:List Int):Nat->Int
 | 0=>0
 | q+1=>Cq np ws js p l q+(Ap np ws p (IY js l q).toNat (js.getD (l.getD q 0).toNat AY.z).place.toNat+p.works (l.getD q 0).toNat)
def GI(np:Nat)(ws:List AF)(js:List AY)(p:AG)(l:List Int):Nat->List Int
 | 0=>[]
 | q+1=>GI np ws js p l q++[Cq np ws js p l (q+1)]
def BZ(np:Nat)(ws:List AF)(js:List AY)(p:AG)(l:List Int):Int:=Cq np ws js p l l.length+Ap np ws p (IY js l l.length).toNat 0
theorem Kg(np:Nat)(ws:List AF)(js:List AY)(p:AG)(l:List Int):∀q,(GI np ws js p l q).length=q
 | 0=>rfl
 | q+1=>by rw [GI,List.length_append,Kg np ws js p l q];rfl
theorem Sx(np:Nat)(ws:List AF)(js:List AY)(p:AG)(l:List Int):∀q i,i<q->(GI np ws js p l q).getD i 0=Cq np ws js p l (i+1)
 | 0,i,h=>absurd h (Nat.not_lt_zero _)
 | q+1,i,h=>by
  have a:=Kg np ws js p l q;rw [GI,List.getD_eq_getElem?_getD];by_cases e:i<q
  ·rw [List.getElem?_append_left O,<-List.getD_eq_getElem?_getD];exact Sx np ws js p l q i e
  ·have b:i=q:=O
   subst b;rw [List.getElem?_append_right O,a,Nat.sub_self];rfl
section
variable {bP bO:Int} {ps:List bY} {ws:List AF} {js:List AY} {ns:List AO} {l:List Int} {p:AG}
theorem VC{np:Nat}(hp:Bt p):(Ap np ws p).ok:=YV (NL hp)
theorem goAt_rng(b:Bd bP bO ps ws js ns)(hr:∀k,k<l.length->0<=l.getD k 0/\l.getD k 0<js.length):∀q,q<=l.length->0<=IY js l q/\IY js l q<ps.length
 | 0,_=>by have:=b.plen;show (0:Int)<=0/\(0:Int)<_;omega
 | q+1,h=>by have:=(PI b (hr q O)).place;show 0<=(js.getD (l.getD q 0).toNat AY.z).place/\(js.getD (l.getD q 0).toNat AY.z).place<ps.length;omega
theorem VD(hp:Bt p):∀q,0<=Cq ps.length ws js p l q/\Cq ps.length ws js p l q<=1048606*(q:Int)
 | 0=>⟨Int.le_refl 0,Int.le_refl 0⟩
 | q+1=>by
  have e:=VD hp q;have f:=VC (np:=ps.length) (ws:=ws) hp (IY js l q).toNat (js.getD (l.getD q 0).toNat AY.z).place.toNat;have w:=hp.works (l.getD q 0).toNat;unfold Cq;omega
end
end Go.Ns
namespace Go.Ns
open Go.Conc
theorem FO.store{h h':A}{q r np:Nat}{ws:List AF}{pq:List AG}(x:FO h r np ws pq)(ho:∀b,b≠q->h' b=h b)(n:r≠q):FO h' r np ws pq:=by
 obtain ⟨c,M,⟨d,a,e,f⟩,g⟩:=x;exact ⟨c,M,⟨d,a,(ho r n).trans e,f⟩,g⟩
def eSp(x:Int×Int):Array bW:=#[.int .i64 x.1,.int .i64 x.2]
section
variable (np:Nat) (ws:List AF) (js:List AY) (pq:List AG) (l:List Int)
def endLo(i:Nat):Int:=Df (λx=>Cq np ws js x l (i+1)) pq
def endHi(i:Nat):Int:=Cc (λx=>Cq np ws js x l (i+1)) pq
def Kj:Nat->List (Int×Int)
 | 0=>[]
 | q+1=>Kj q++[(endLo np ws js pq l q,endHi np ws js pq l q)]
theorem Sy:∀q,(Kj np ws js pq l q).length=q
 | 0=>rfl
 | q+1=>by rw [Kj,List.length_append,Sy q];rfl
def S0(i:Nat):Bool:=decide (endHi np ws js pq l i<=(js.getD (l.getD i 0).toNat AY.z).due)
def Cz(bP bO:Int):Bool:=decide ((Cp bO js l).sum<=bP) && (List.range l.length).all (S0 np ws js pq l)
variable {np ws js pq l}
theorem onTime_of{q:Nat}(h:¬(js.getD (l.getD q 0).toNat AY.z).due<Cc (λx=>Cq np ws js x l ((q:Int).toNat+1)) pq):S0 np ws js pq l q=true:=decide_eq_true (Int.not_lt.1 h)
theorem onTime_no{q:Nat}(h:(js.getD (l.getD q 0).toNat AY.z).due<Cc (λx=>Cq np ws js x l ((q:Int).toNat+1)) pq):S0 np ws js pq l q=false:=decide_eq_false (Int.not_le.2 h)
variable {bP bO:Int}
theorem safe_heavy(h:¬(Cp bO js l).sum<=bP):Cz np ws js pq l bP bO=false:=by unfold Cz;rw [decide_eq_false h];rfl
theorem safe_late{k:Nat}(hk:k<l.length)(h:(js.getD (l.getD k 0).toNat AY.z).due<Cc (λx=>Cq np ws js x l ((k:Int).toNat+1)) pq):Cz np ws js pq l bP bO=false:=by
 unfold Cz;rw [Bool.and_eq_false_iff];refine .inr (Bool.eq_false_iff.2 λe=>?_)
 have:=List.all_eq_true.1 e k (List.mem_range.2 hk)
 rw [onTime_no h] at this;cases this
theorem safe_all{k:Nat}(h:¬¬(Cp bO js l).sum<=bP)(hs:∀j,j<k->S0 np ws js pq l j=true)(hk:l.length<=k):Cz np ws js pq l bP bO=true:=by
 unfold Cz;rw [decide_eq_true (Decidable.not_not.1 h),Bool.true_and];exact List.all_eq_true.2 λj a=>hs j (by have:=List.mem_range.1 a;omega)
end
def Er:Nat->List Int
 | 0=>[]
 | k+1=>Er k++[(k:Int)]
theorem FD:∀n,(Er n).length=n
 | 0=>rfl
 | n+1=>by rw [Er,List.length_append,FD n];rfl
def DS(nj:Nat)(l:List Int)(i:Int):Int:=if¬BA nj l=0 then BA nj l else if¬(0<=i/\i<=(l.length:Int)-1) then 1 else 0
theorem YZ{nj:Nat}{l:List Int}{i:Int}(h:DS nj l i=0):BA nj l=0/\0<=i/\i<l.length:=by
 unfold DS at h;split at h
 ·rename_i a;exact absurd h a
 ·rename_i a
  split at h
  ·cases h
  ·exact ⟨Decidable.not_not.1 a,O⟩
section
variable (bP bO:Int) (ps:List bY) (ws:List AF) (js:List AY) (ns:List AO) (l:List Int)
def VE:List (Int×Int):=if¬Aw bP bO ps ws js ns (BA js.length l)=0 then [] else Kj ps.length ws js (AC ws js ns) l l.length
def safeR:Bool:=if¬Aw bP bO ps ws js ns (BA js.length l)=0 then false else Cz ps.length ws js (AC ws js ns) l bP bO
def My(i:Int):Int:=
 if¬Aw bP bO ps ws js ns (DS js.length l i)=0 then 0 else if (js.getD (l.getD i.toNat 0).toNat AY.z).due<endLo ps.length ws js (AC ws js ns) l i.toNat then 1
 else if endHi ps.length ws js (AC ws js ns) l i.toNat<=(js.getD (l.getD i.toNat 0).toNat AY.z).due then 2 else 0
variable {bP bO ps ws js ns l} {i:Int}
theorem late_yes(h0:Aw bP bO ps ws js ns (DS js.length l i)=0)(h:(js.getD (l.getD i.toNat 0).toNat AY.z).due<Df (λx=>Cq ps.length ws js x l (i.toNat+1)) (AC ws js ns)):(1:Int)=My bP bO ps ws js ns l i:=by
 unfold My;rw [bU (λx=>x h0)];exact (bV h).symm
theorem late_no(h0:Aw bP bO ps ws js ns (DS js.length l i)=0)(h:¬(js.getD (l.getD i.toNat 0).toNat AY.z).due<Df (λx=>Cq ps.length ws js x l (i.toNat+1)) (AC ws js ns))
  (h2:Cc (λx=>Cq ps.length ws js x l (i.toNat+1)) (AC ws js ns)<=(js.getD (l.getD i.toNat 0).toNat AY.z).due):(2:Int)=My bP bO ps ws js ns l i:=by
 unfold My;rw [bU (λx=>x h0)];exact ((bU h).trans (bV h2)).symm
theorem late_open(h0:Aw bP bO ps ws js ns (DS js.length l i)=0)(h:¬(js.getD (l.getD i.toNat 0).toNat AY.z).due<Df (λx=>Cq ps.length ws js x l (i.toNat+1)) (AC ws js ns))
  (h2:¬Cc (λx=>Cq ps.length ws js x l (i.toNat+1)) (AC ws js ns)<=(js.getD (l.getD i.toNat 0).toNat AY.z).due):(0:Int)=My bP bO ps ws js ns l i:=by
 unfold My;rw [bU (λx=>x h0)];exact ((bU h).trans (bU h2)).symm
theorem late_bad(h0:¬Aw bP bO ps ws js ns (DS js.length l i)=0):(0:Int)=My bP bO ps ws js ns l i:=by unfold My;rw [bV h0]
end
end Go.Ns
namespace Go.Ns
open Go.Conc
def Ec(i:Nat)(pq:List AG):Nat->List Int
 | 0=>[]
 | k+1=>Ec i pq k++[(pq.getD k AG.zero).works i]
theorem GJ(i:Nat)(pq:List AG):∀k,(Ec i pq k).length=k
 | 0=>rfl
 | k+1=>by rw [Ec,List.length_append,GJ i pq k];rfl
theorem S1{i:Nat}{pq:List AG}{k:Nat}(h:0<k):Ec i pq k≠[]:=λe=>by
 have:=GJ i pq k
 rw [e] at this;simp at this;omega
def FP(bP bO:Int)(ps:List bY)(ws:List AF)(js:List AY)(ns:List AO)(i:Int):List Int:=
 if¬Aw bP bO ps ws js ns (CJ js.length i)=0 then [] else Dr (EV (Ec i.toNat (AC ws js ns) (AC ws js ns).length))
end Go.Ns
namespace Go.Ns
open Go.Conc
theorem Ya{h:A}{r:Nat}{M:Int->Option Int}(x:DZ h r En En M):∃y,h r=some y:=by
 obtain ⟨c,a,b,_⟩:=x;exact ⟨_,b⟩
def E2(ns:List AO)(mask:Int)(k:Nat):List AO:=((List.range k).filter (P9 mask)).map λ(i:Nat)=>ns.getD i AO.z
section
variable {ns:List AO} {mask:Int} {k:Nat} {h:A}
theorem pickN_t(hb:mask.fdiv (2 ^ k)%2=1):E2 ns mask (k+1)=E2 ns mask k++[ns.getD k AO.z]:=by
 unfold E2;rw [LZ (by unfold P9;rw [decide_eq_true hb]),List.map_append];rfl
theorem pickN_f(hb:¬mask.fdiv (2 ^ k)%2=1):E2 ns mask (k+1)=E2 ns mask k:=by
 unfold E2;rw [La (by unfold P9;rw [decide_eq_false hb])]
theorem VF(ns:List AO)(mask:Int)(k:Nat):(E2 ns mask k).length<=k:=by
 unfold E2;rw [List.length_map]
 have:=List.length_filter_le (P9 mask) (List.range k)
 rwa [List.length_range] at this
theorem Yb(ns:List AO)(mask:Int)(k q:Nat)(hq:q<(E2 ns mask k).length):∃i,i<k/\(E2 ns mask k).getD q AO.z=ns.getD i AO.z:=by
 have a:(E2 ns mask k).getD q AO.z ∈ E2 ns mask k:=CS hq;unfold E2 at a ⊢;obtain ⟨i,b,e⟩:=List.mem_map.1 a;exact ⟨i,List.mem_range.1 (List.mem_filter.1 b).1,e.symm⟩
theorem BR.pick(x:BR h ns)(mask:Int)(k:Nat):BR h (E2 ns mask k):=λq=>by
 by_cases a:q<(E2 ns mask k).length
 ·obtain ⟨i,_,e⟩:=Yb ns mask k q a;rw [e];exact x i
 ·rw [List.getD_eq_getElem?_getD,List.getElem?_eq_none O];exact BR.nil h 0
theorem BR.fine1(x:BR h ns)(k:Nat):(Co (ns.getD k AO.z)).toList.all (·.oneCell')=true:=by
 show (((ns.getD k AO.z).wv.oneCell') && (true && (true && true)))=true;rw [(Ai.one (x k)).2];rfl
theorem BR.fine(x:BR h ns):∀y ∈ ns,(Co y).toList.all (·.oneCell')=true:=λy a=>by
 obtain ⟨i,b,e⟩:=List.mem_iff_getElem.1 a
 have:=x.fine1 i
 rw [List.getD_eq_getElem?_getD,List.getElem?_eq_getElem b] at this;rw [<-e];exact this
theorem W0{nw:Nat}{ns ns':List AO}{k i:Nat}(e:ns'.getD k AO.z=ns.getD i AO.z):Ek nw ns' k=Ek nw ns i:=by unfold Ek;rw [e]
theorem Bd.pick{bP bO:Int}{ps:List bY}{ws:List AF}{js:List AY}(b:Bd bP bO ps ws js ns)(mask:Int):Bd bP bO ps ws js (E2 ns mask ns.length):=
 { b with
  nlen:=Nat.le_trans (VF ns mask ns.length) b.nlen
  note:=λk a=>by
   obtain ⟨i,c,e⟩:=Yb ns mask ns.length k a;rw [W0 e];exact b.note i c }
end
section
variable (ws:List AF) (js:List AY) (ns:List AO)
def G7(x:Bool×List Int)(l:List Int):Bool:=x.1 && (decide ((x.2.length:Int)<l.length) || (decide ((l.length:Int)=x.2.length) && decide (0<YF l x.2)))
def Cn:Nat->Bool×List Int
 | 0=>(false,[])
 | q+1=>if G7 (Cn q) (Eo (q:Int) ns.length)=true then Cn q else if (AC ws js (E2 ns (q:Int) ns.length)).length=0 then (true,Eo (q:Int) ns.length) else Cn q
variable {ws js ns} {q:Nat}
theorem JZ(h:G7 (Cn ws js ns q) (Eo (q:Int) ns.length)=true):Cn ws js ns (q+1)=Cn ws js ns q:=bV h
theorem QO(h:G7 (Cn ws js ns q) (Eo (q:Int) ns.length)=false)(h2:((AC ws js (E2 ns (q:Int) ns.length)).length:Int)=0):Cn ws js ns (q+1)=(true,Eo (q:Int) ns.length):=by
 rw [Cn,bU (by rw [h];simp),bV O]
theorem QP(h:G7 (Cn ws js ns q) (Eo (q:Int) ns.length)=false)(h2:¬((AC ws js (E2 ns (q:Int) ns.length)).length:Int)=0):Cn ws js ns (q+1)=Cn ws js ns q:=by
 rw [Cn,bU (by rw [h];simp),bU O]
theorem tWorse_f1{x:Bool×List Int}{l:List Int}(h:x.1=false):G7 x l=false:=by unfold G7;rw [h];rfl
theorem tWorse_f2{x:Bool×List Int}{l:List Int}(h:¬(x.2.length:Int)<l.length)(h2:¬(l.length:Int)=x.2.length):G7 x l=false:=by
 unfold G7;rw [decide_eq_false h,decide_eq_false h2];simp
theorem tWorse_f3{x:Bool×List Int}{l:List Int}(h:¬(x.2.length:Int)<l.length)(h2:¬0<YF l x.2):G7 x l=false:=by
 unfold G7;rw [decide_eq_false h,decide_eq_false h2];simp
theorem VG{x:Bool×List Int}{l:List Int}(h:x.1=true)(h1:(x.2.length:Int)<l.length):G7 x l=true:=by
 unfold G7;rw [h,decide_eq_true h1];simp
theorem VH{x:Bool×List Int}{l:List Int}(h:x.1=true)(h1:(l.length:Int)=x.2.length)(h2:0<YF l x.2):G7 x l=true:=by
 unfold G7;rw [h,decide_eq_true h1,decide_eq_true h2];simp
theorem pow_16:∀{n:Nat},n<=4->(1:Int)<=(2:Int) ^ n/\(2:Int) ^ n<=16
 | 0,_=>aF
 | 1,_=>aF
 | 2,_=>aF
 | 3,_=>aF
 | 4,_=>aF
theorem S3:∀q,(Cn ws js ns q).2.length<=ns.length
 | 0=>Nat.zero_le _
 | q+1=>by
  have e:=S3 q;unfold Cn;split
  ·exact e
  ·split
   ·exact U1 _ _
   ·exact e
def IH(bP bO:Int)(ps:List bY)(ws:List AF)(js:List AY)(ns:List AO):List Int:=
 if¬B7 bP bO ps ws js ns=0 then [] else if (0:Int)<(AC ws js ns).length then [] else (Cn ws js ns (2 ^ ns.length)).2
end
section
variable {bP bO:Int} {ps:List bY} {ws:List AF} {js:List AY} {ns:List AO} {q:Nat}
theorem Yc(h:¬B7 bP bO ps ws js ns=0):IH bP bO ps ws js ns=[]:=bV h
theorem W1(h:(0:Int)<(AC ws js ns).length):IH bP bO ps ws js ns=[]:=by
 unfold IH;rw [bV h];exact ite_self _
theorem Ye(h:B7 bP bO ps ws js ns=0)(h1:¬(0:Int)<(AC ws js ns).length)(hq:¬(q:Int)<(2:Int) ^ ((ns.length:Int)).toNat)(hq2:(q:Int)<=(2:Int) ^ ((ns.length:Int)).toNat):IH bP bO ps ws js ns=(Cn ws js ns q).2:=by
 have e:((2 ^ ns.length:Nat):Int)=(2:Int) ^ ((ns.length:Int)).toNat:=by rw [Int.toNat_natCast,Int.natCast_pow];rfl
 rw [<-e] at hq hq2
 have:2 ^ ns.length=q:=O
 unfold IH;rw [bU (λx=>x h),bU h1,this]
end
section
variable (ws:List AF) (js:List AY) (ns:List AO)
abbrev Mj(pq:List AG)(i:Nat):Nat->Int:=λk=>(pq.getD k AG.zero).ways i
def Yf(pq:List AG)(i:Nat):Int:=Mw (Mj pq i) pq.length
def Io(pq:List AG)(k:Nat):Int×Int:=askTo (Yf pq) (pq.length:Int) k
theorem VI{pq:List AG}{k:Nat}(h:Yf pq k<(Io pq k).2):Io pq (k+1)=((k:Int),Yf pq k):=bV h
theorem VJ{pq:List AG}{k:Nat}(h:¬Yf pq k<(Io pq k).2):Io pq (k+1)=Io pq k:=bU h
def W3(bP bO:Int)(ps:List bY)(ws:List AF)(js:List AY)(ns:List AO):Int:=if¬Aw bP bO ps ws js ns 0=0 then 0 else (Io (AC ws js ns) ws.length).1
def Rh(bP bO:Int)(ps:List bY)(ws:List AF)(js:List AY)(ns:List AO):Int:=if¬Aw bP bO ps ws js ns 0=0 then 0 else (Io (AC ws js ns) ws.length).2
end
end Go.Ns
namespace Go.Ns
open Go.Conc
def RQ(hs:A)(k0 ln:Nat)(c:Array bW)(t:bX)(k:Nat)(v:bW)(h:A):Prop:=k=k0->∃r,v=.slice (some ⟨r,0,none⟩) ln ln/\hs r=none/\h r=some (true,.cells c t (0,0))
theorem RQ.mono(hs:A)(k0 ln:Nat)(c:Array bW)(t:bX):∀k v h1 h2,A.Le h1 h2->RQ hs k0 ln c t k v h1->RQ hs k0 ln c t k v h2:=λ_ _ _ _ l x e=>by
 obtain ⟨r,a,b,d⟩:=x e;exact ⟨r,a,b,l.keep d rfl⟩
theorem PJ{P:Program}{E:Ho P}{V:Nat->bW}{ds:List Deferred}{hs hx:A}{dst:Option Nat}{ty:bX}{pos:String}{af:Array Edge}{gd:Option (Nat×Bool)}{t:bX}{len n k0 k:Nat}{z cells:Array bW}{e:bX}{parts:Array (Nat×Operand)}
  (h0:EA P t=some (n,z,e)) (hl:len*n<=2 ^ 24) (hn:(len*n=0)=False) (hf:Instr.fill (λi=>some (i*n,n)) ((Array.range (len*n)).map (z[·%z.size]!)) (parts.map λ(i,x)=>(i,Ag V x)).toList=some cells) (l:hs.Le hx) :
  B9 E ⟨dst,.buildSlice t len parts,ty,pos,af,gd⟩ V ds hx λσ' ds' h'=>ds'=ds/\∃v,σ'=putS V dst v/\hx.Le h'/\RQ hs k0 len cells e k v h':=
 Aq h0 hl hn hf λr h' a le b _=>⟨rfl,_,rfl,le,λ_=>⟨r,rfl,A.Le.nothing l a,b⟩⟩
def LfW(hs:A)(k0 ln:Nat)(c:Array bW)(t:bX)(n:Nat)(Fr:A->Prop)(k:Nat)(v:bW)(h:A):Prop:=RQ hs k0 ln c t k v h/\(k=n->Fr h)
theorem LfW.mono(hs:A)(k0 ln:Nat)(c:Array bW)(t:bX)(n:Nat){Fr:A->Prop}(m:∀h1 h2,A.Le h1 h2->Fr h1->Fr h2):∀k v h1 h2,A.Le h1 h2->LfW hs k0 ln c t n Fr k v h1->LfW hs k0 ln c t n Fr k v h2:=λ_ _ _ _ l x=>⟨RQ.mono _ _ _ _ _ _ _ _ _ l x.1,λe=>m _ _ l (x.2 e)⟩
theorem lay_sliceF{P:Program}{E:Ho P}{V:Nat->bW}{ds:List Deferred}{hs hx:A}{dst:Option Nat}{ty:bX}{pos:String}{af:Array Edge}{gd:Option (Nat×Bool)}{t:bX}{len n k0 N:Nat}{z cells:Array bW}{e:bX}{parts:Array (Nat×Operand)}{Fr:A->Prop}(hk:k0≠N)
  (h0:EA P t=some (n,z,e)) (hl:len*n<=2 ^ 24) (hn:(len*n=0)=False) (hf:Instr.fill (λi=>some (i*n,n)) ((Array.range (len*n)).map (z[·%z.size]!)) (parts.map λ(i,x)=>(i,Ag V x)).toList=some cells) (l:hs.Le hx) :
  B9 E ⟨dst,.buildSlice t len parts,ty,pos,af,gd⟩ V ds hx λσ' ds' h'=>ds'=ds/\∃v,σ'=putS V dst v/\hx.Le h'/\LfW hs k0 len cells e N Fr k0 v h':=
 Aq h0 hl hn hf λr h' a le b _=>⟨rfl,_,rfl,le,λ_=>⟨r,rfl,A.Le.nothing l a,b⟩,λe=>absurd e hk⟩
theorem tFg{P:Program}{E:Ho P}{l:List Oper}{n:Nat}{fl:Bool}{hs:A}{ds:List Deferred}{Lw:Nat->bW->A->Prop}{F:(Nat->bW)->A->Prop}{π:List Nat}{V:Nat->bW}{h:A}{m k g d:Nat}{dst:Option Nat}{op:Op}{ty:bX}{pos:String}{af:Array Edge}{v:bW}{w:Bool}{og:Oper}
  (hk:Mr m=(.p,k)) (ho:l[k]? =some ⟨dst,op,ty,pos,af,some (g,w)⟩) (h1:l[g]? =some og) (h2:og.dst=some d) (h3:V d=.bool w) (x:∀hx,Lw n undef hx->WZ E ⟨dst,op,ty,pos,af,some (g,w)⟩ V ds hx v)
  (y:TD E l n fl hs ds Lw F (dK π) (putS V dst v) h):TD E l n fl hs ds Lw F (dK (m ::π)) V h:=by
 unfold dK;rw [hk];exact ⟨_,true,ho,Ij h1 h2 h3,λe=>(by cases e),λ_=>⟨v,x,y⟩⟩
theorem tWLg{P:Program}{E:Ho P}{l:List Oper}{n:Nat}{hs:A}{ds:List Deferred}{Lw:Nat->bW->A->Prop}{F:(Nat->bW)->A->Prop}{π:List Nat}{V:Nat->bW}{h:A}{m k g d:Nat}{dst:Option Nat}{op:Op}{ty:bX}{pos:String}{af:Array Edge}{w:Bool}{og:Oper}(hk:Mr m=(.w,k))(ho:l[k]? =some ⟨dst,op,ty,pos,af,some (g,w)⟩)(h1:l[g]? =some og)(h2:og.dst=some d)(h3:V d=.bool w)
  (x:B9 E ⟨dst,op,ty,pos,af,some (g,w)⟩ V ds h λσ' ds' h'=>ds'=ds/\∃v,σ'=putS V dst v/\Lw n undef h'/\TD E l n false hs ds Lw F (dK π) (putS V dst v) h'):TD E l n false hs ds Lw F (dK (m ::π)) V h:=by
 unfold dK;rw [hk];exact ⟨_,true,ho,Ij h1 h2 h3,λe=>(by cases e),λ_ b a=>by rw [a.2 rfl];exact x⟩
def Ty(h:A)(t:bX)(v:bW):Prop:=∀b,DH v=some b->∃p c f,h b=some (p,.cells c t f)
def Ci(h:A)(t:bX)(v:bW)(xs:List Int):Prop:=Ai h v 1 eI xs/\Ty h t v
theorem Ci.le{h h':A}{t:bX}{v:bW}{xs:List Int}(x:Ci h t v xs)(l:h.Le h'):Ci h' t v xs:=⟨x.1.le l,λb a=>by
 obtain ⟨p,c,f,q⟩:=x.2 b a;exact ⟨p,c,f,l.keep q rfl⟩⟩
theorem Ci.nil(h:A)(t:bX):Ci h t (.slice none 0 0) []:=⟨Ai.nil _ _ _,λb a=>by cases a⟩
theorem Ci.own{h0 h:A}{t:bX}{v:bW}{xs:List Int}(o:Ae h0 h v t 1 eI xs):Ci h t v xs:=⟨o.sl,λb a=>by
 rcases o with ⟨rfl,_⟩ | ⟨f,d,c,rfl,_,e,_⟩
 ·cases a
 ·simp only [DH,Option.some.injEq] at a;subst a;exact ⟨_,_,_,e⟩⟩
theorem Ci.same{h h':A}{t:bX}{w:bW}{xs:List Int}(x:Ci h t w xs)(key:∀b,DH w=some b->h' b=h b):Ci h' t w xs:=by
 refine ⟨?_,λb e=>by rw [key b e];exact x.2 b e⟩;obtain ⟨a,c,f,j,k,l⟩:=x.1;refine ⟨a,c,f,j,k,λi m=>?_⟩;obtain ⟨b,d,g,n⟩:=l i m;exact ⟨b,d,g,n.same (key b (by rw [f,g];rfl))⟩
theorem Ci.grown{α:Type}{h h' h0:A}{v v':bW}{t t':bX}{n:Nat}{enc:α->Array bW}{ys:List α}(g:HQ h h' v v')(o:Ae h0 h v t' n enc ys)(ne:t'≠t){w:bW}{xs:List Int}(x:Ci h t w xs):Ci h' t w xs:=
 x.same λb d=>by
  obtain ⟨p,c,f,q⟩:=x.2 b d;rw [q];refine g.1 b _ q λe=>?_;rcases o with ⟨rfl,_⟩ | ⟨j,i,k,rfl,_,a,_⟩
  ·cases e
  ·simp only [DH,Option.some.injEq] at e;subst e;rw [q] at a;cases a;exact ne rfl
theorem Ci.keepX{X:Nat->Prop}{h h':A}{t:bX}{w:bW}{xs:List Int}(x:Ci h t w xs)(k:CF X h h')(n:∀b,DH w=some b->¬X b):Ci h' t w xs:=
 x.same λb a=>by
  obtain ⟨p,c,f,q⟩:=x.2 b a;rw [q];exact k.box q (n b a) rfl
theorem Ci.store{h h':A}{t t':bX}{w:bW}{xs:List Int}{r:Nat}{p:Bool}{c:Array bW}{f:Nat×Nat}(x:Ci h t w xs)(hr:h r=some (p,.cells c t' f))(ne:t'≠t)(ho:∀b,b≠r->h' b=h b):Ci h' t w xs:=
 x.same λb a=>ho b λe=>by
  obtain ⟨d,g,f2,q⟩:=x.2 b a;rw [e,hr] at q;cases q;exact ne rfl
def Ch(h:A)(t:bX)(l:List Sl):Prop:=∀k,Ci h t (l.getD k Sl.z).1 (l.getD k Sl.z).2
theorem Ch.le{h h':A}{t:bX}{l:List Sl}(x:Ch h t l)(e:h.Le h'):Ch h' t l:=λk=>(x k).le e
theorem Ch.nil(h:A)(t:bX):Ch h t []:=λk=>by
 rw [CH aG];exact Ci.nil _ _
theorem J9{α:Type}(z:α)(a b:List α)(k:Nat):(a++b).getD k z=if k<a.length then a.getD k z else b.getD (k-a.length) z:=by
 simp only [List.getD_eq_getElem?_getD,List.getElem?_append];split <;> rfl
theorem Ch.app{h:A}{t:bX}{l l':List Sl}(a:Ch h t l)(b:Ch h t l'):Ch h t (l++l'):=λk=>by
 rw [J9];split
 ·exact a k
 ·exact b _
theorem Ch.one{h:A}{t:bX}{x:Sl}(a:Ci h t x.1 x.2):Ch h t [x]:=λk=>by
 cases k with
 | zero=>exact a
 | succ k=>rw [CH aG];exact Ci.nil _ _
theorem MV(a b:List Sl):BT (a++b)=BT a++BT b:=by simp [BT]
section
variable {α:Type} {hB:A} {I:List α->(Nat->Prop)->A->Prop} {bK:A->Prop} {X0 X X1:Nat->Prop} {h hc h':A} {pre l:List α} {v v':bW}
def Kk(hB:A)(X0 X:Nat->Prop)(h:A)(v:bW):Prop:=∀b,DH v=some b->¬X b/\(X0 b\/h b=none)/\hB b=none
theorem Fl.old(y:Fl hB I X0 h pre X hc){b:Nat}(e:hc b=none):X0 b\/h b=none:=by
 by_cases q:X0 b
 ·exact .inl q
 ·refine .inr ?_;cases c:h b with
  | none=>rfl
  | some x=>
   obtain ⟨d,a,_⟩:=y.keep b x.1 x.2 c q;rw [e] at a;cases a
theorem Fl.fresh(P:Hk hB I)(y:Fl hB I X0 h pre X hc)(o:∀b,DH v=some b->hc b=none):Kk hB X0 X h v:=λb a=>⟨P.off y.inv (o b a),y.old (o b a),y.base.nothing (o b a)⟩
theorem Kk.grown(f:Kk hB X0 X h v)(P:Hk hB I)(y:Fl hB I X0 h pre X hc)(g:HQ hc h' v v'):Kk hB X0 X h v':=λb a=>by
 rcases g.2 with e | ⟨⟨r,d,c⟩,_⟩
 ·exact f b (e▸a)
 ·rw [d] at a;cases a;exact ⟨P.off y.inv c,y.old c,y.base.nothing c⟩
theorem Fl.app(P:Hk hB I)(y:Fl hB I X0 h pre X hc)(g:HQ hc h' v v')(f:Kk hB X0 X h v):Fl hB I X0 h pre X h':=by
 have j:hB.Le h':=λb p o a=>by
  obtain ⟨d,c,i⟩:=y.base b p o a;exact ⟨d,g.1 b _ c λe=>(by rw [(f b e).2.2] at a;cases a),i⟩
 refine ⟨P.stable _ _ hc h' y.inv (λb a=>?_) j,y.sub,λb p o a k=>?_,j⟩
 ·obtain ⟨p,o,c,_⟩:=P.dom _ _ _ b y.inv a;rw [c];exact g.1 b _ c λe=>(f b e).1 a
 ·obtain ⟨d,c,i⟩:=y.keep b p o a k;exact ⟨d,g.1 b _ c λe=>(f b e).2.1.elim k λq=>(by rw [q] at a;cases a),i⟩
theorem Fl.callL(y:Fl hB I X0 h pre X hc)(f:Kk hB X0 X h v){u:bW}(r:F3 hB I bK pre (λb=>X b\/DH v=some b) hc l u h') :
  ∃ok X',u=.bool ok/\(∀b,X' b->(X b\/DH v=some b)\/hc b=none)/\CF (λb=>X b\/DH v=some b) hc h'/\(ok=true->Fl hB I X0 h (pre++l) X' h')/\(ok=false->∀l',F3 hB I bK pre X0 h l' (.bool false) h'):=by
 obtain ⟨ok,X',j,a,c,d,k,m⟩:=r;have s:∀b,(X b\/DH v=some b)->X0 b\/h b=none:=λb q=>q.elim (y.sub b) λe=>(f b e).2.1;have g:CF X0 h h':=y.keep.trans s c;have i:=subX s y.keep a;exact ⟨ok,X',j,a,c,λe=>⟨k e,i,g,d⟩,λe l'=>⟨false,X',rfl,i,g,d,(λx=>by cases x),λ_=>m e⟩⟩
end
structure S4{P:Program}(W:Wk P)(hB:A)(yv:bW)(t:bX)(I:List (List Int)->(Nat->Prop)->A->Prop)(bK:A->Prop)(all:List (List Int)):Prop where
 prom:Hk hB I
 one:yv.cells=#[yv]
 call:∀pre p post X h v,all=pre++p ::post->I pre X h->hB.Le h->Ci h t v p->(∀b,DH v=some b->¬X b/\hB b=none)->CW W yv #[v] h (F3 hB I bK pre (λb=>X b\/DH v=some b) h [p])
section
variable {P:Program} {E:Ho P} {V:Nat->bW} {ds:List Deferred}
theorem VK{t0:bX}{all:List (List Int)}{hB hc:A}{J:List (List Int)->(Nat->Prop)->A->Prop}{Stop:Code->A->Prop}{Y0:Nat->Prop}{par:Tmp}{f:Operand}{assign body:Code}{Q:Post}
  (hrd:E.rd=none) (hpar:Nat.blt par E.N=true) (hJ:Hk hB J) (hB0:hB.Le hc) (j0:J [] Y0 hc)
  (hS:∀c (h h':A) l lo,Stop c h->h l=some (true,.loop lo)->(∀b,b≠l->h' b=h b)->Stop c h')
  (src:∀(yv:bW)(I:List (List Int)->(Nat->Prop)->A->Prop)(Sp:A->Prop)(X:Nat->Prop)(h:A),S4 E.wk hB yv t0 I Sp all->hB.Le h->I [] X h->CW E.wk (Ag V f) #[yv] h λ_ h'=>YEnd hB I Sp all X h h')
  (round:∀(l d:Nat)(lo:Loop)(pre:List (List Int))(p:List Int)(post:List (List Int))(Y:Nat->Prop)(h:A)(v:bW),all=pre++p ::post->J pre Y h->hB.Le h->hB l=none->¬Y l->h l=some (true,.loop lo)->Ci h t0 v p->(∀b,DH v=some b->¬Y b/\hB b=none)->
   Tr ⟨E.wk,E.fn,some l,E.N⟩ assign (upd V par v) [] h λe σ' ds' h1=>e=.normal/\h1 l=some (true,.loop lo)/\∀h2,h2 l=some (true,.loop { lo with state:=.busy })->(∀b,b≠l->h2 b=h1 b)->
    Tr ⟨E.wk,E.fn,some l,E.N⟩ body σ' ds' h2 (YE hB J Stop (pre++[p]) (λb=>Y b\/DH v=some b) h l lo))
  (fin:∀(d l:Nat)(h':A),hB.Le h'->hB d=none->hB l=none->hc d=none->h' d=some (true,.deferred (some []))->
   (∀Y,J all Y h'->(∀b,Y b->b≠d)->Q .normal V ({ target:=.collected d,args:=#[] } ::ds) h')/\
   (∀c,Stop c h'->match c with
    | .exit id=>Q (.exit id) V ({ target:=.collected d,args:=#[] } ::ds) h'
    | .ret=>Q .ret V ({ target:=.collected d,args:=#[] } ::ds) h'
    | _=>False)):Tr E (.rangeFunc f #[par] assign body) V ds hc Q:=by
 refine N3 hrd λt d l hs M hl k=>?_;have m:hB l=none:=hB0.nothing hl;have R:hB d=none:=hB0.nothing M;let lo:Loop:={ state:=.ready,pending:=none,fn:=E.fn,tmps:=t,params:=#[par],assign,body,defers:=d };have nYl:¬Y0 l:=hJ.off j0 hl;have nYd:¬Y0 d:=hJ.off j0 M;have hL1:((hc.set d true (.deferred (some []))).set l true (.loop lo)) l=some (true,.loop lo):=A.set_same _ _ _ _;have hL2:((hc.set d true (.deferred (some []))).set l true (.loop lo)) d=some (true,.deferred (some [])):=by rw [A.set_ne _ _ _ (Ne.symm k)];exact A.set_same _ _ _ _
 have hL3:∀b,b≠l->b≠d->((hc.set d true (.deferred (some []))).set l true (.loop lo)) b=hc b:=λb h1 h2=>by rw [A.set_ne _ _ _ h1,A.set_ne _ _ _ h2]
 have W:hB.Le ((hc.set d true (.deferred (some []))).set l true (.loop lo)):=(hB0.trans (A.Le.new M _ _)).trans (A.Le.new (by rw [A.set_ne _ _ _ k];exact hl) _ _);have hI0:P8 J l d lo [] (λb=>Y0 b\/b=l\/b=d) ((hc.set d true (.deferred (some []))).set l true (.loop lo)):=by
  refine ⟨Y0,hJ.stable _ _ hc _ j0 (λb a=>hL3 b (λe=>nYl (e▸a)) (λe=>nYd (e▸a))) W,λb=>Iff.rfl,nYl,nYd,hL1,hL2⟩
 have prom:Hk hB (P8 J l d lo):=by
  refine ⟨?_,?_⟩
  ·rintro pre X h b ⟨Y,j,n,_,_,h1,h2⟩ a;rcases (n b).1 a with r | rfl | rfl
   ·exact hJ.dom _ _ _ _ j r
   ·exact ⟨_,_,h1,rfl⟩
   ·exact ⟨_,_,h2,rfl⟩
  ·rintro pre X h h' ⟨Y,j,n,F,H,h1,h2⟩ same lB;refine ⟨Y,hJ.stable _ _ h h' j (λb a=>same b ((n b).2 (.inl a))) lB,n,F,H,?_,?_⟩
   ·rw [same l ((n l).2 (.inr (.inl rfl)))];exact h1
   ·rw [same d ((n d).2 (.inr (.inr rfl)))];exact h2
 have yk:S4 E.wk hB (.func (.yield l) #[] #[]) t0 (P8 J l d lo) (Uz Stop l d lo) all:=by
  refine ⟨prom,rfl,?_⟩;rintro pre p post X h v hall ⟨Y,j,n,F,H,h1,h2⟩ lB u hvX;have nvl:DH v≠some l:=λe=>by obtain ⟨_,_,_,q⟩:=u.2 l e;rw [h1] at q;cases q
  have nvd:DH v≠some d:=λe=>by obtain ⟨_,_,_,q⟩:=u.2 d e;rw [h2] at q;cases q
  refine SD h1 rfl ?_;have ef:(lo.params.zip #[v]).foldl (λtmps x=>tmps.setIfInBounds x.1 x.2) lo.tmps=t.setIfInBounds par v:=by simp [lo]
  rw [ef];show B3 E.wk l E.fn (t.setIfInBounds par v) assign body h _;have w:=hs.put hpar v;refine P4 (N:=E.N) w.1 ?_;have e0:(λi=>(t.setIfInBounds par v).getD i undef)=upd V par v:=funext w.2;rw [e0];refine MI ?_ (round l d lo pre p post Y h v hall j lB m F h1 u λb a=>⟨λq=>(hvX b a).1 ((n b).2 (.inl q)),(hvX b a).2⟩);rintro e σ' ds' ha ⟨rfl,ha1,a⟩;refine ⟨rfl,lo,ha1,rfl,?_⟩;refine MI ?_ (a _ (A.set_same _ _ _ _) λb a=>A.set_ne _ _ _ a);rintro e σ2 ds2 r ⟨g1,Y',g2,g3,g4,K⟩;have y:r d=some (true,.deferred (some [])):=g3.box h2 (λq=>q.elim (λq=>q.elim H nvd) (λe=>k e.symm)) rfl;have nl:¬Y' l:=λq=>(g2 l q).elim (λq=>q.elim F nvl) λe=>by rw [h1] at e;cases e
  have nd:¬Y' d:=λq=>(g2 d q).elim (λq=>q.elim H nvd) λe=>by rw [h2] at e;cases e
  have C:∀(g:Loop)(ok:Bool),(if ok then J (pre++[p]) Y' (r.set l true (.loop g))/\g=lo else Uz Stop l d lo (r.set l true (.loop g)))->F3 hB (P8 J l d lo) (Uz Stop l d lo) pre (λb=>X b\/DH v=some b) h [p] (.bool ok) (r.set l true (.loop g)):=by
   intro g ok D;refine ⟨ok,λb=>Y' b\/b=l\/b=d,rfl,?_,?_,?_,?_,?_⟩
   ·rintro b (a | rfl | rfl)
    ·exact (g2 b a).imp (λq=>q.imp (λq=>(n b).2 (.inl q)) id) id
    ·exact .inl (.inl ((n _).2 (.inr (.inl rfl))))
    ·exact .inl (.inl ((n _).2 (.inr (.inr rfl))))
   ·intro b q o a hn;have nb:b≠l:=λe=>hn (.inl ((n b).2 (.inr (.inl e))));rw [A.set_ne _ _ _ nb];exact g3 b q o a λq=>q.elim (λz=>z.elim (λz=>hn (.inl ((n b).2 (.inl z)))) λz=>hn (.inr z)) nb
   ·exact g4.upd m λb a=>A.set_ne _ _ _ a
   ·rintro rfl;simp only [if_true] at D;obtain ⟨hj,rfl⟩:=D;exact ⟨Y',hj,λb=>Iff.rfl,nl,nd,A.set_same _ _ _ _,by rw [A.set_ne _ _ _ (Ne.symm k)];exact y⟩
   ·rintro rfl;simpa using D
  have js:∀(g:Loop),J (pre++[p]) Y' r->J (pre++[p]) Y' (r.set l true (.loop g)):=λg hj=>hJ.store hj nl (λb a=>A.set_ne _ _ _ a) (g4.upd m λb a=>A.set_ne _ _ _ a);have ss:∀c (g:Loop),Stop c r->Stop c (r.set l true (.loop g)):=λc g hc=>hS c r _ l _ hc g1 λb a=>A.set_ne _ _ _ a;refine ⟨_,g1,?_⟩;cases e with
  | normal=>exact C _ true (by simp only [if_true];exact ⟨js _ K,rfl⟩)
  | exit id=>exact C _ false (by simp only [Bool.false_eq_true,if_false];exact ⟨_,ss _ _ K,A.set_same _ _ _ _,by rw [A.set_ne _ _ _ (Ne.symm k)];exact y⟩)
  | ret=>exact C _ false (by simp only [Bool.false_eq_true,if_false];exact ⟨_,ss _ _ K,A.set_same _ _ _ _,by rw [A.set_ne _ _ _ (Ne.symm k)];exact y⟩)
  | goto _=>exact K.elim
  | panic _=>exact K.elim
  | outgrown=>exact K.elim
 refine (src _ _ _ _ _ yk W hI0).mono ?_;rintro v h' ⟨X',w,hk,hl2,hor⟩;rcases hor with ⟨Y,j,n,F,H,h1,h2⟩ | ⟨c,hst,h1,h2⟩
 ·refine ⟨lo,h1,rfl,?_⟩;show Q .normal V _ _;have s:=hl2.upd m (λb a=>A.set_ne h' true (.loop { lo with state:=.exhausted }) a);refine (fin d l _ s R m M (by rw [A.set_ne _ _ _ (Ne.symm k)];exact h2)).1 Y (hJ.store j F (λb a=>A.set_ne _ _ _ a) s) λb a e=>H (e▸a)
 ·refine ⟨_,h1,rfl,?_⟩;have s:=hl2.upd m (λb a=>A.set_ne h' true (.loop { { lo with state:=.done,pending:=some c } with state:=.exhausted }) a)
  have:=(fin d l _ s R m M (by rw [A.set_ne _ _ _ (Ne.symm k)];exact h2)).2 c (hS c h' _ l _ hst h1 λb a=>A.set_ne _ _ _ a)
  cases c with
  | exit id=>exact this
  | ret=>exact this
  | _=>exact this.elim
end
def Jw(l:List Int)(k:Int):Bool:=l.any (λx=>decide (k=x))
def CB(jobs:List Int):Nat->List Int->List (List Int)
 | 0,l=>[l]
 | f+1,l=>l ::jobs.flatMap λk=>if Jw l k=true then [] else CB jobs f (l++[k])
def C1(jobs:List Int):Nat->List Int->Int->List (List Int)
 | 0,_,_=>[]
 | f+1,l,k=>if Jw l k=true then [] else CB jobs f (l++[k])
theorem II(jobs:List Int)(f:Nat)(l:List Int):CB jobs f l=l ::jobs.flatMap (C1 jobs f l):=by
 cases f with
 | zero=>simp [CB,C1]
 | succ f=>rfl
def EG(jobs:List Int):List (List Int):=CB jobs jobs.length []
def NO(jobs l:List Int):Nat:=(jobs.filter λk=> !Jw l k).length
theorem hasI_app(l:List Int)(k j:Int):Jw (l++[k]) j=(Jw l j || decide (j=k)):=by simp [Jw]
theorem QQ{jobs l:List Int}{k:Int}(hk:k ∈ jobs)(h:Jw l k=false):NO jobs (l++[k])<NO jobs l:=by
 unfold NO;have c:∀a:List Int,(a.filter λj=> !Jw (l++[k]) j).length<=(a.filter λj=> !Jw l j).length/\(k ∈ a->(a.filter λj=> !Jw (l++[k]) j).length<(a.filter λj=> !Jw l j).length):=by
  intro a
  induction a with
  | nil=>exact ⟨Nat.le_refl _,λe=>by cases e⟩
  | cons j a f=>
   obtain ⟨d,b⟩:=f;rw [List.filter_cons,List.filter_cons,hasI_app];by_cases e:j=k
   ·subst e;simp only [h,Bool.false_or,decide_true,Bool.not_true,Bool.false_eq_true,if_false,Bool.not_false,if_true,List.length_cons];exact ⟨O,λ_=>O⟩
   ·rw [decide_eq_false e,Bool.or_false];split
    ·simp only [List.length_cons];exact ⟨O,λq=>by have:=b ((List.mem_cons.1 q).resolve_left λz=>e z.symm);omega⟩
    ·exact ⟨d,λq=>b ((List.mem_cons.1 q).resolve_left λz=>e z.symm)⟩
 exact (c jobs).2 hk
theorem flatTo{jobs:List Int}{i:Nat}{F:Int->List (List Int)}(hi:i<jobs.length):(jobs.take (i+1)).flatMap F=(jobs.take i).flatMap F++F (jobs.getD i 0):=by
 rw [DF 0 hi,List.flatMap_append];simp
theorem DD.job{all pre:List (List Int)}{jobs:List Int}{f i:Nat}{l:List Int}(w:DD all pre (CB jobs f l))(hi:i<jobs.length):DD all (pre++[l]++(jobs.take i).flatMap (C1 jobs f l)) (C1 jobs f l (jobs.getD i 0)):=by
 rw [II] at w;have a:DD all pre ([l]++((jobs.take i).flatMap (C1 jobs f l)++(C1 jobs f l (jobs.getD i 0)++(jobs.drop (i+1)).flatMap (C1 jobs f l)))):=by
  rw [<-List.append_assoc (List.flatMap _ _),<-flatTo hi,<-List.flatMap_append,List.take_append_drop];exact w
 exact (a.right.right).left
theorem DD.head{all pre:List (List Int)}{jobs:List Int}{f:Nat}{l:List Int}(w:DD all pre (CB jobs f l)):DD all pre [l]:=by
 rw [II] at w;exact DD.left (a:=[l]) w
section
variable {jobs l:List Int} {f f' i:Nat} {k:Int} {all pre:List (List Int)}
theorem unused_pos(hk:k ∈ jobs)(h:Jw l k=false)(hu:NO jobs l<=f):∃f',f=f'+1:=⟨f-1,by have:=QQ hk h;omega⟩
theorem OL(hf:f=f'+1)(h:Jw l k=false):C1 jobs f l k=CB jobs f' (l++[k]):=by
 subst hf;exact bU (by rw [h];simp)
theorem Uc(h:Jw l k=true):C1 jobs f l k=[]:=by
 cases f with
 | zero=>rfl
 | succ f=>exact bV h
theorem Ud(hi:i<jobs.length)(h:Jw l (jobs.getD i 0)=true):pre++[l]++(jobs.take (i+1)).flatMap (C1 jobs f l)=pre++[l]++(jobs.take i).flatMap (C1 jobs f l):=by
 rw [flatTo hi,Uc h,List.append_nil]
theorem W4(hi:i<jobs.length)(hf:f=f'+1)(h:Jw l (jobs.getD i 0)=false):pre++[l]++(jobs.take (i+1)).flatMap (C1 jobs f l)=(pre++[l]++(jobs.take i).flatMap (C1 jobs f l))++CB jobs f' (l++[jobs.getD i 0]):=by
 rw [flatTo hi,OL hf h,<-List.append_assoc]
theorem roundsEnd(hi:jobs.length<=i):pre++CB jobs f l=pre++[l]++(jobs.take i).flatMap (C1 jobs f l):=by
 rw [List.take_of_length_le hi,II];simp
theorem DD.go(w:DD all pre (CB jobs f l))(hi:i<jobs.length)(hf:f=f'+1)(h:Jw l (jobs.getD i 0)=false):DD all (pre++[l]++(jobs.take i).flatMap (C1 jobs f l)) (CB jobs f' (l++[jobs.getD i 0])):=by
 have z:=w.job hi
 rwa [OL hf h] at z
end
end Go.Ns
namespace Go.Ns
open Go.Conc
theorem Ib.mem{h:A}{l:List Sl}(a:Ib h l){x:Sl}(hx:x ∈ l):Ai h x.1 1 eI x.2:=by
 obtain ⟨i,b,e⟩:=List.mem_iff_getElem.1 hx;have z:=a i;rw [List.getD_eq_getElem?_getD,List.getElem?_eq_getElem b] at z;have c:Ai h l[i].1 1 eI l[i].2:=z;rw [<-e];exact c
theorem Ch.all{h:A}{t:bX}{l:List Sl}(a:Ch h t l):Ib h l:=λk=>(a k).1
theorem Ch.drop1{h:A}{t:bX}{l:List Sl}(a:Ch h t l):Ch h t (l.drop 1):=λk=>by
 rw [List.getD_eq_getElem?_getD,List.getElem?_drop,<-List.getD_eq_getElem?_getD];exact a (1+k)
theorem drop1_memS{l:List Sl}{k:Nat}(h:k<l.length-1):(l.drop 1).getD k Sl.z ∈ l:=List.mem_of_mem_drop (CS (by rw [List.length_drop];exact h))
section
variable (G:List Int->Int) (l:List (List Int))
def E3:Nat->List Int×Int
 | 0=>(l.getD 0 [],G (l.getD 0 []))
 | k+1=>if G ((l.drop 1).getD k [])<(E3 k).2 then ((l.drop 1).getD k [],G ((l.drop 1).getD k [])) else E3 k
def Ed:List Int:=(E3 G l (l.length-1)).1
end
section
variable {G:List Int->Int} {l:List Sl} {k:Nat}
theorem Ds(l:List Sl):(BT l).length=l.length:=List.length_map _
theorem QR(hk:k<l.length-1):((BT l).drop 1).getD k []=((l.drop 1).getD k Sl.z).2:=by
 have e:(BT l).drop 1=BT (l.drop 1):=by unfold BT;rw [List.map_drop]
 rw [e,E8 (by rw [List.length_drop];exact hk)]
theorem OM(hk:k<l.length-1)(h:G ((l.drop 1).getD k Sl.z).2<(E3 G (BT l) k).2):E3 G (BT l) (k+1)=(((l.drop 1).getD k Sl.z).2,G ((l.drop 1).getD k Sl.z).2):=by
 rw [E3,QR hk,bV h]
theorem ON(hk:k<l.length-1)(h:¬G ((l.drop 1).getD k Sl.z).2<(E3 G (BT l) k).2):E3 G (BT l) (k+1)=E3 G (BT l) k:=by
 rw [E3,QR hk,bU h]
theorem Yg(hk:k=l.length-1):Ed G (BT l)=(E3 G (BT l) k).1:=by unfold Ed;rw [Ds,hk]
end
theorem S5:∀(n k:Nat),k<n->(Er n).getD k 0=(k:Int)
 | 0,k,h=>absurd h (Nat.not_lt_zero _)
 | n+1,k,h=>by
  have a:=FD n;rw [Er,List.getD_eq_getElem?_getD];by_cases e:k<n
  ·rw [List.getElem?_append_left O,<-List.getD_eq_getElem?_getD];exact S5 n k e
  ·have b:k=n:=O
   subst b;rw [List.getElem?_append_right O,a,Nat.sub_self];rfl
theorem S6{n:Nat}{x:Int}(h:x ∈ Er n):0<=x/\x<n:=by
 obtain ⟨i,a,e⟩:=List.mem_iff_getElem.1 h;have b:=FD n
 have:=S5 n i O
 rw [List.getD_eq_getElem?_getD,List.getElem?_eq_getElem a,Option.getD_some,e] at this;omega
theorem Lq{jobs:List Int}:∀(f:Nat)(l:List Int),(∀x ∈ l,x ∈ jobs)->∀r ∈ CB jobs f l,(∀x ∈ r,x ∈ jobs)/\r.length<=l.length+f
 | 0,l,h,r,hr=>by
  rw [CB,List.mem_singleton] at hr;subst hr;exact ⟨h,Nat.le_refl _⟩
 | f+1,l,h,r,hr=>by
  rw [CB,List.mem_cons] at hr;rcases hr with rfl | hr
  ·exact ⟨h,O⟩
  ·obtain ⟨k,a,hr⟩:=List.mem_flatMap.1 hr;split at hr
   ·cases hr
   ·have:=Lq f (l++[k]) (λx hx=>by
     rcases List.mem_append.1 hx with hx | hx
     ·exact h x hx
     ·rw [List.mem_singleton.1 hx];exact a) r hr
    refine ⟨this.1,?_⟩;have e:=this.2;rw [List.length_append,List.length_singleton] at e;omega
theorem W5{jobs r:List Int}(h:r ∈ EG jobs):(∀x ∈ r,x ∈ jobs)/\r.length<=jobs.length:=by
 have:=Lq jobs.length [] (λx a=>by cases a) r h
 simpa using this
def W6(nj:Nat)(l:List Int):Prop:=(∀k,k<l.length->0<=l.getD k 0/\l.getD k 0<nj)/\l.length<=4
theorem Ls{n:Nat}{jobs r:List Int}(hj:∀x ∈ jobs,0<=x/\x<(n:Int))(hl:jobs.length<=4)(h:r ∈ EG jobs):W6 n r:=by
 obtain ⟨a,c⟩:=W5 h;exact ⟨λk b=>hj _ (a _ (CS b)),O⟩
theorem Lu{jobs:List Int}(hj:jobs.length<=4):∀(f:Nat)(l:List Int),f<=4->(CB jobs f l).length<=5 ^ f*1
 | 0,l,_=>Nat.le_refl _
 | f+1,l,d=>by
  have b:∀a:List Int,(a.flatMap λk=>if Jw l k=true then [] else CB jobs f (l++[k])).length<=a.length*5 ^ f:=by
   intro a
   induction a with
   | nil=>simp
   | cons j a c=>
    rw [List.flatMap_cons,List.length_append,List.length_cons,Nat.add_mul,Nat.one_mul,Nat.add_comm];refine Nat.add_le_add c ?_;split
    ·exact Nat.zero_le _
    ·have:=Lu hj f (l++[j]) O;omega
  rw [CB,List.length_cons];have e:=b jobs;have g:jobs.length*5 ^ f<=4*5 ^ f:=Nat.mul_le_mul_right _ hj;have h:1<=5 ^ f:=Nat.one_le_pow _ _ aF;rw [Nat.pow_succ];omega
theorem Ip{jobs:List Int}(hj:jobs.length<=4):(EG jobs).length<=625:=by
 have h:=Lu hj jobs.length [] hj;have a:5 ^ jobs.length<=5 ^ 4:=Nat.pow_le_pow_right aF hj;unfold EG;omega
end Go.Ns
namespace Go.Ns
open Go.Conc
section
variable {P:Program} {M:Type} {F:PD P M} {i:Option (DX M)} {V:Nat->bW} {ds:List Deferred} {h:A} {Q:SZ M}
theorem trI_td{id:Nat}{l:List Oper}(n:Nat)(fl:Bool)(π:List Nat)(hm:P.follows .mixedOrders=true)
  (ok:SJ l (l.take n) 0 [] (λcls=>SK P F.N l n cls fl (dK π))=true) (x:TD (F.env i) l n fl h ds (λ_ _ _=>True) (λσ' h'=>Hl F l.toArray (l.drop n) i σ' ds h' Q) (dK π) V h):RP F (.region id l.toArray true) i V ds h Q:=by
 obtain ⟨cls,e⟩:=I4 ok;intro b k g m t c d o p q;exact td_core (E:=F.env i) n cls fl (dK π) hm (λ_ _ _ _ _ y=>y) trivial e x c d p λσ' h' f r a=>f n b k g m r (λj=>aG) c d o a q
def Km(P:Program):Frame:={ (default:Frame) with fn:=P.funcs.size,defers:=[],mode:=.panicking [goexitEntry] }
theorem quit_bot:QuitsIn P 1 (G (Km P) []):=.inr ⟨rfl,{ G (Km P) [] with status:=.finished },λw=>by
 show unwind P false (Km P) [] none w=_;have a:(Km P).catches P=false:=by
  unfold Frame.catches
  have:P.funcs[(Km P).fn]? =none:=Array.getElem?_eq_none (Nat.le_refl _)
  rw [this];rfl
 have c:(Km P).defers=[]:=rfl;have b:(Km P).mode=.panicking [goexitEntry]:=rfl;unfold unwind;simp only [c,b,a]
 rfl,rfl⟩
theorem Yh{fn:Func}{f:FuncId}{args:Array bW}{t:Array bW}{ops:Array Oper}(hf:P.funcs[f]? =some fn)(hres:fn.results=#[]):QuitsIn P 4 (G (DT (Frame.enter P f args .deferred) t [] [.inRegion ops []]) [Km P]):=by
 refine .inr ⟨rfl,G (DT (Frame.enter P f args .deferred) t [] []) [Km P],λw=>by rw [Bc];simp [stepG.exec,DT,G],?_⟩;refine .inr ⟨rfl,G (F2 (Frame.enter P f args .deferred) t [] []) [Km P],λw=>by rw [Bc];simp [stepG.exec,DT,F2,G,Frame.enter],?_⟩;refine .inr ⟨rfl,G (Km P) [],λw=>?_,quit_bot⟩;show unwind P false (F2 (Frame.enter P f args .deferred) t [] []) [Km P] none w=_;have a:(F2 (Frame.enter P f args .deferred) t [] []).fn=f:=rfl;have c:(F2 (Frame.enter P f args .deferred) t [] []).kind=.deferred:=rfl;have b:(F2 (Frame.enter P f args .deferred) t [] []).mode=.returning:=rfl;have d:(F2 (Frame.enter P f args .deferred) t [] []).defers=[]:=rfl;have e:∀t,(results fn t).runT P w #[]=(.ok (.tuple #[]) w,#[]):=λt=>by
  unfold results;rw [hres];simp only [Array.mapM_empty];rfl
 unfold unwind;simp only [d,b,a,hf,e,GStep.after,doReturn,c,seen_none];rfl
def Kn(F:PD P M)(R:Code)(args:Array bW)(i:Option (DX M))(V:Nat->bW)(h:A):Prop:=∀t,CE t F.N V->(F.wk i).K (G (DT (Frame.enter P F.fn args .deferred) t [] [.code R]) [Km P]) h
theorem PK{fn:Func}{c R:Code}{s:DX M}{ars cap args:Array bW}(hm:F.main=false)(hrd:F.rd=none)(ha:ars++cap=args)(hf:P.funcs[F.fn]? =some fn)(hc:AV fn=true)(hb:fn.body=some (.seq c R))(hN:F.N=fn.ntmps)(hsz:args.size<=fn.ntmps)(hs:¬s.isDone)
  (x:RP F c (some s) (λi=>args.getD i undef) [] h λi e V ds h=>e=.normal/\ds=[]/\Kn F R args i V h):Gi P F.Rep F.W.K s false (born P { target:=.fn (.func F.fn) cap,args:=ars }) h:=by
 have a:∀s,(F.wk (some s)).K=FS P false (Jj P F.Rep F.W.K s false):=λs=>by show FS P F.main (Jj P F.Rep F.W.K s F.main)=_;rw [hm]
 rw [IJ hs];refine Nw _ _ _ _ rfl λw f=>⟨G (Frame.enter P F.fn args .deferred) [Km P],w,#[],h,?_,CR.refl f,?_⟩
 ·subst ha;have b:(invoke (.fn (.func F.fn) cap) ars).runT P w #[]=(.ok (.enter F.fn (ars++cap)) w,#[]):=Ws hf hc w;show callDeferred P (Km P) [] none { target:=.fn (.func F.fn) cap,args:=ars } w=_;unfold callDeferred;rw [bU aG];simp only [b,seen_none];rfl
 have g:Frame.enter P F.fn args .deferred=DT (Frame.enter P F.fn args .deferred) (args++Array.replicate (fn.ntmps-args.size) undef) [] [.code (.seq c R)]:=by simp [Frame.enter,DT,hf,hb]
 rw [g,<-a s];refine Wk.go (DT (Frame.enter P F.fn args .deferred) (args++Array.replicate (fn.ntmps-args.size) undef) [] (.code c ::.code R ::[])) (λw=>by rw [Bc];simp [stepG.exec,DT,G]) ?_;refine x (Frame.enter P F.fn args .deferred) [.code R] [Km P] (λ_ _ _ _ _=>False) _ rfl hrd.symm (λi=>⟨λ_ _ _ q=>q.elim,λ_ _ _ _ q=>q.elim,λ_ _ _ _ _ _ q=>q.elim⟩) ⟨by rw [hN];simp;omega,λi=>?_⟩ ?_
 ·by_cases b:i<args.size
  ·simp [Array.getD_eq_getD_getElem?,Array.getElem?_append_left b]
  ·simp only [Array.getD_eq_getD_getElem?];rw [Array.getElem?_append_right O,Array.getElem?_eq_none (show args.size<=i by omega),Array.getElem?_replicate];split <;> rfl
 ·rintro i e V ds k ⟨rfl,rfl,z⟩ j d;exact z j d
theorem last_send{fn:Func}{id:Nat}{o1 o2:Oper}{args:Array bW}{c:Nat}{m:M}{v z:bW}{hm:A}{h1:A}(hmn:F.main=false)(hrd:F.rd=none)(hf:P.funcs[F.fn]? =some fn)(hres:fn.results=#[])
  (hg1:o1.guard=none) (hd1:Dj o1.dst F.N=true) (hg2:o2.guard=none) (hdf1:Do o1.op=false) (hdf:Do o2.op=false) (hd2:Dj o2.dst F.N=true)
  (x:B9 (F.env (some (.send c m .done))) o1 V [] h λσ' ds' h'=>ds'=[]/\(∀w,(execOp (Ag σ') o2).runT P w #[]=(.ok (.comm #[scase c v z] true .send) w,#[]))/\A.Split h' h1 hm/\F.Rep c m v hm) :
  Kn F (.region id [o1,o2].toArray false) args (some (.send c m .done)) V h:=by
 intro t e;refine Wk.go (DT (Frame.enter P F.fn args .deferred) t [] (.inRegion [o1,o2].toArray [0,1] ::[])) (λw=>by rw [Bc];simp [stepG.exec,DT,G,List.range_eq_range',Array.range];rfl) ?_;refine MN (E:=F.env (some (.send c m .done))) (o:=o1) (rest:=[1]) rfl (by simp [Region.wanted,hg1]) (.inr hdf1) hd1 e x ?_;rintro σ' ds' h' ⟨rfl,f,b,a⟩ g d;refine FS.stop ⟨_,[Km P],v,z,hm,h1,rfl,⟨λw j=>?_,b,a,4,?_⟩⟩
 ·rw [hmn];exact Wq d rfl (by simp [Region.wanted,hg2]) (.inr hdf) (f w)
 ·rw [Dp (ops:=[o1,o2].toArray) (i:=1) (o:=o2) rfl];exact Yh hf hres
theorem run_close{dst:Option Nat}{x:Operand}{tys:Array bX}{ty:bX}{pos:String}{af:Array Edge}{gd:Option (Nat×Bool)}{ch s r:Nat}{w:World}(hx:Ag V x=.chan (some ch))(hw:w.heap[ch]? =some (.chan 0 #[] false s r false)) :
  (execOp (Ag V) ⟨dst,.call ⟨.builtin .close,#[x],tys⟩,ty,pos,af,gd⟩).runT P w #[]=(.ok (.value (.tuple #[])) { w with heap:=w.heap.setIfInBounds ch (.chan 0 #[] true s r false) },#[⟨.obj ch,false,true⟩,⟨.obj ch,true,true⟩]):=by
 have q:execOp (Ag V) ⟨dst,.call ⟨.builtin .close,#[x],tys⟩,ty,pos,af,gd⟩=builtin .close tys ty (#[x].map fun | .const _=>true | _=>false) (#[x].map (Ag V)):=by
  show (resolve (Ag V) _ ty).bind _=_;unfold resolve;rfl
 have e:(#[x].map (Ag V))=#[Value.chan (some ch)]:=by simp [hx]
 rw [q,e];show Sem.runT P (.getObj ch λo=>_) w #[]=_;unfold Sem.runT;rw [hw];show Sem.runT P (.setObj ch (.chan 0 #[] true s r false) _) w _=_;unfold Sem.runT;rw [hw];rfl
theorem S7{fn:Func}{id:Nat}{o1:Oper}{dst:Option Nat}{xo:Operand}{tys:Array bX}{ty:bX}{pos:String}{af:Array Edge}{args:Array bW}{c:Nat}(hmn:F.main=false)(hf:P.funcs[F.fn]? =some fn)(hres:fn.results=#[])
  (hg1:o1.guard=none) (hd1:Dj o1.dst F.N=true) (hdf1:Do o1.op=false)
  (x:B9 (F.env (some (.close c .done))) o1 V [] h λσ' ds' _=>ds'=[]/\Ag σ' xo=.chan (some c)) :
  Kn F (.region id [o1,⟨dst,.call ⟨.builtin .close,#[xo],tys⟩,ty,pos,af,none⟩].toArray false) args (some (.close c .done)) V h:=by
 intro t d;refine Wk.go (DT (Frame.enter P F.fn args .deferred) t [] (.inRegion [o1,⟨dst,.call ⟨.builtin .close,#[xo],tys⟩,ty,pos,af,none⟩].toArray [0,1] ::[])) (λw=>by rw [Bc];simp [stepG.exec,DT,G,List.range_eq_range',Array.range];rfl) ?_;refine MN (E:=F.env (some (.close c .done))) (o:=o1) (rest:=[1]) rfl (by simp [Region.wanted,hg1]) (.inr hdf1) hd1 d x ?_;rintro σ' ds' j ⟨rfl,e⟩ b a;refine FS.stop ⟨_,[Km P],DT (Frame.enter P F.fn args .deferred) (Z1 b dst (.tuple #[])) [] [.inRegion [o1,⟨dst,.call ⟨.builtin .close,#[xo],tys⟩,ty,pos,af,none⟩].toArray []],[Km P],rfl,⟨λw s r k f=>?_,rfl,4,Yh hf hres⟩⟩;rw [hmn,Sa a (ops:=[o1,⟨dst,.call ⟨.builtin .close,#[xo],tys⟩,ty,pos,af,none⟩].toArray) (n:=1) (o:=⟨dst,.call ⟨.builtin .close,#[xo],tys⟩,ty,pos,af,none⟩) rfl (by simp [Region.wanted]) (.inr rfl)];simp only [stepG.apply,run_close e f,if_true];have g:((DT (Frame.enter P F.fn args .deferred) b [] [.inRegion [o1,⟨dst,.call ⟨.builtin .close,#[xo],tys⟩,ty,pos,af,none⟩].toArray [1]]).kind==CallKind.early)=false:=rfl;rw [Dp (ops:=[o1,⟨dst,.call ⟨.builtin .close,#[xo],tys⟩,ty,pos,af,none⟩].toArray) (i:=1) rfl];simp only [g,Bool.false_eq_true,if_false];show GStep.go _ _ (seen P _ _++ #[])=_;rw [seen_close];rfl
end
end Go.Ns
namespace Go.Ns
open Go.Conc
theorem Ch.at{h:A}{t:bX}{l:List Sl}(a:Ch h t l){x:Sl}(hx:x ∈ l):Ci h t x.1 x.2:=by
 obtain ⟨i,b,e⟩:=List.mem_iff_getElem.1 hx;have z:=a i;rw [List.getD_eq_getElem?_getD,List.getElem?_eq_getElem b] at z;have c:Ci h t l[i].1 l[i].2:=z;rw [<-e];exact c
theorem Ch.of{h:A}{t:bX}{l:List Sl}(a:∀x ∈ l,Ci h t x.1 x.2):Ch h t l:=λk=>by
 by_cases b:k<l.length
 ·exact a _ (CS b)
 ·rw [CH O];exact Ci.nil _ _
theorem Ch.grown{α:Type}{h h' h0:A}{v v':bW}{t t':bX}{n:Nat}{enc:α->Array bW}{ys:List α}(g:HQ h h' v v')(o:Ae h0 h v t' n enc ys)(ne:t'≠t){l:List Sl}(x:Ch h t l):Ch h' t l:=λk=>(x k).grown g o ne
theorem Ch.store{h h':A}{t t':bX}{l:List Sl}{r:Nat}{p:Bool}{c:Array bW}{f:Nat×Nat}(x:Ch h t l)(hr:h r=some (p,.cells c t' f))(ne:t'≠t)(ho:∀b,b≠r->h' b=h b):Ch h' t l:=λk=>(x k).store hr ne ho
theorem Ci.storeL{h h':A}{t:bX}{w:bW}{xs:List Int}{r:Nat}{p:Bool}{lo:Loop}(x:Ci h t w xs)(hr:h r=some (p,.loop lo))(ho:∀b,b≠r->h' b=h b):Ci h' t w xs:=
 x.same λb a=>ho b λe=>by
  obtain ⟨c,d,f2,q⟩:=x.2 b a;rw [e,hr] at q;cases q
def VL(hB:A)(r:Nat)(bN t t0:bX)(F:List Int->Bool)(pre:List (List Int))(Y:Nat->Prop)(h:A):Prop:=
 ∃w l',h r=some (true,.cells #[w] bN (0,0))/\Ae hB h w t 1 KN l'/\Bp w r/\hB r=none/\BT l'=pre.filter F/\Ch h t0 l'/\∀b,Y b↔b=r\/DH w=some b\/∃x ∈ l',DH x.1=some b
section
variable {hB h h' ha hb:A} {r:Nat} {bN t t0:bX} {F:List Int->Bool} {pre:List (List Int)} {p:List Int} {w w' v:bW} {Y:Nat->Prop} {l':List Sl}
theorem S8(hB:A)(r:Nat)(bN t t0:bX)(F:List Int->Bool):Hk hB (VL hB r bN t t0 F):=by
 refine ⟨?_,?_⟩
 ·rintro pre Y h b ⟨w,l',e,g,k,l,m,i,a⟩ hb;rcases (a b).1 hb with rfl | h7 | ⟨x,d,h7⟩
  ·exact ⟨_,_,e,rfl⟩
  ·obtain ⟨c,j⟩:=g.cellsAt b h7;exact ⟨_,_,j,rfl⟩
  ·obtain ⟨q,c,f,j⟩:=(i.at d).2 b h7;exact ⟨_,_,j,rfl⟩
 ·rintro pre Y h h' ⟨w,l',e,g,k,l,m,i,a⟩ same s;refine ⟨w,l',by rw [same r ((a r).2 (.inl rfl))];exact e,g.keep λb o hb n=>by rw [same b ((a b).2 (.inr (.inl hb)))];exact n,k,l,m,.of λx d=>(i.at d).same λb hb=>same b ((a b).2 (.inr (.inr ⟨x,d,hb⟩))),a⟩
theorem QS(x:h r=some (true,.cells #[.slice none 0 0] bN (0,0)))(h0:hB r=none):VL hB r bN t t0 F [] (λb=>b=r) h:=
 ⟨_,[],x,Ae.nil _ _ _ _ _,Bp.nil,h0,rfl,Ch.nil _ _,λ_=>⟨.inl,λq=>q.elim id λe=>e.elim (λe=>by cases e) λ⟨_,e,_⟩=>by cases e⟩⟩
theorem VM(hY:∀b,Y b↔b=r\/DH w=some b\/∃x ∈ l',DH x.1=some b)(g:HQ ha hb w w')(hn:∀q,ha q=none->h q=none)(x:h' r=some (true,.cells #[w'] bN (0,0)))(o:Ae hB h' w' t 1 KN (l'++[(v,p)]))(f:Bp w' r)(h0:hB r=none)
  (hl:BT l'=pre.filter F) (hp:F p=true) (ta:Ch h' t0 (l'++[(v,p)])):∃Y',(∀b,Y' b->(Y b\/DH v=some b)\/h b=none)/\VL hB r bN t t0 F (pre++[p]) Y' h':=by
 refine ⟨λb=>b=r\/DH w'=some b\/∃x ∈ l'++[(v,p)],DH x.1=some b,?_,w',_,x,o,f,h0,?_,ta,λ_=>Iff.rfl⟩
 ·rintro b (rfl | hb | ⟨y,hy,hb⟩)
  ·exact .inl (.inl ((hY _).2 (.inl rfl)))
  ·rcases g.2 with e | ⟨⟨q,a,c⟩,_⟩
   ·exact .inl (.inl ((hY _).2 (.inr (.inl (by rw [<-e];exact hb)))))
   ·rw [a] at hb;cases hb;exact .inr (hn _ c)
  ·rcases List.mem_append.1 hy with hy | hy
   ·exact .inl (.inl ((hY _).2 (.inr (.inr ⟨y,hy,hb⟩))))
   ·rw [List.mem_singleton.1 hy] at hb;exact .inl (.inr hb)
 ·rw [MV,hl,List.filter_append];simp [BT,hp]
theorem jcolL_skip(hY:∀b,Y b↔b=r\/DH w=some b\/∃x ∈ l',DH x.1=some b)(x:h' r=some (true,.cells #[w] bN (0,0)))(o:Ae hB h' w t 1 KN l')(f:Bp w r)(h0:hB r=none)(hl:BT l'=pre.filter F)(hp:F p=false)(ta:Ch h' t0 l') :
  ∃Y',(∀b,Y' b->(Y b\/DH v=some b)\/h b=none)/\VL hB r bN t t0 F (pre++[p]) Y' h':=
 ⟨Y,λ_ q=>.inl (.inl q),w,l',x,o,f,h0,by rw [hl,List.filter_append];simp [hp],ta,hY⟩
end
def tVal:Ej->bW
 | .job i=>.int .i64 i
 | .res i b=>.agg #[.int .i64 i,.bool b]
 | .tick=>.bool true
def tOK(n:Nat):Ej->Prop
 | .job i=>i<n
 | .res i _=>i<n
 | .tick=>True
def RR(n:Nat):Nat->Ej->bW->A->Prop:=λ_ m v hm=>v=tVal m/\tOK n m/\hm=λ_=>none
theorem A.split_none(h:A):A.Split h h (λ_=>none) where
 left:=λb p o a=>⟨p,a,id⟩
 right:=λb p o a=>by cases a
 one:=λ_ _ _ _ a=>by cases a
 two:=λ_ _ _ a _=>by cases a
section
variable {cj co cd n k:Nat} {ok:Nat->Bool}
theorem feed_some(h:k<n):some (Ic cj (n-k) k)=some (.send cj (.job k) (Ic cj (n-(k+1)) (k+1))):=by
 rw [show n-k=(n-(k+1))+1 by omega];rfl
theorem feed_end(h:n<=k):some (Ic cj (n-k) k)=some (.close cj .done):=by rw [show n-k=0 by omega];rfl
theorem Yi:∀m k,¬(Ic cj m k).isDone
 | 0,_=>id
 | _+1,_=>id
theorem Yk:∀m,¬(Gq cj co cd ok m).isDone
 | 0=>id
 | _+1=>id
theorem workF_not{m:Nat}:∀o,¬(YS co cd ok (Gq cj co cd ok m) o).isDone
 | none=>id
 | some (.job _)=>id
 | some (.res _ _)=>id
 | some .tick=>id
theorem VN:∀t,¬(FN co cd t).isDone
 | 0=>id
 | _+1=>id
theorem closeF_not{t:Nat}:∀o,¬(PE (FN co cd t) o).isDone
 | none=>id
 | some (.job _)=>id
 | some (.res _ _)=>id
 | some .tick=>VN t
theorem Yl:∀m R,¬(Gr co ok m R).isDone
 | 0,_=>id
 | _+1,_=>id
theorem ite_not{c:Prop}[Decidable c]{a b:DX Ej}(ha:¬a.isDone)(hb:¬b.isDone):¬(if c then a else b).isDone:=by split <;> assumption
theorem mainF_not{m:Nat}{R:List Nat}:∀o,¬(JY ok R (Gr co ok m) o).isDone
 | none=>ite_not id id
 | some (.job _)=>id
 | some .tick=>id
 | some (.res _ _)=>ite_not (Yl _ _) id
theorem Ym:∀m,¬(JA cj co cd n ok m).isDone
 | 0=>id
 | _+1=>id
theorem close_some(h:k<3):some (FN co cd (3-k))=some (.recv cd (PE (FN co cd (3-(k+1))))):=by
 rw [show 3-k=(3-(k+1))+1 by omega];rfl
theorem close_end(h:3<=k):some (FN co cd (3-k))=some (.close co .done):=by rw [show 3-k=0 by omega];rfl
theorem crew_some(h:k<3):some (JA cj co cd n ok (3-k))=some (.spawn (Gq cj co cd ok (n+1)) (JA cj co cd n ok (3-(k+1)))):=by
 rw [show 3-k=(3-(k+1))+1 by omega];rfl
theorem crew_end(h:3<=k):some (JA cj co cd n ok (3-k))=some (.spawn (FN co cd 3) (Gr co ok (n+1) (List.range n))):=by rw [show 3-k=0 by omega];rfl
end
def W7(n:Nat)(ok:Nat->Bool)(R:List Nat):List Bool:=(List.range n).map λi=>if i ∈ R then false else ok i
theorem isL_len(n:Nat)(ok:Nat->Bool)(R:List Nat):(W7 n ok R).length=n:=by unfold W7;rw [List.length_map,List.length_range]
theorem isL_start(n:Nat)(ok:Nat->Bool):W7 n ok (List.range n)=List.replicate n false:=by
 unfold W7;refine List.ext_getElem aG λi a b=>?_
 have:i<n:=by simpa using a
 simp [this]
theorem isL_put{n i:Nat}{ok:Nat->Bool}{R:List Nat}(hR:R.Nodup):(W7 n ok R).set i (ok i)=W7 n ok (R.erase i):=by
 unfold W7;refine List.ext_getElem aG λj a b=>?_;rw [List.getElem_set];simp only [List.getElem_map,List.getElem_range,List.Nodup.mem_erase_iff hR];by_cases e:i=j
 ·subst e;simp
 ·rw [bU e]
  have:j≠i:=λq=>e q.symm
  simp [this]
theorem isL_end{n:Nat}{ok:Nat->Bool}{k:Nat}(hk:k<n):(W7 n ok []).getD k false=ok k:=by
 unfold W7;rw [List.getD_eq_getElem?_getD,List.getElem?_map,List.getElem?_range hk];simp
def Kp(fl:List Sl)(ok:Nat->Bool):Nat->List Sl
 | 0=>[]
 | k+1=>if ok k=true then Kp fl ok k++[fl.getD k Sl.z] else Kp fl ok k
theorem selS_t{fl:List Sl}{ok:Nat->Bool}{k:Nat}(h:ok k=true):Kp fl ok (k+1)=Kp fl ok k++[fl.getD k Sl.z]:=bV h
theorem selS_f{fl:List Sl}{ok:Nat->Bool}{k:Nat}(h:ok k=false):Kp fl ok (k+1)=Kp fl ok k:=bU (by rw [h];simp)
theorem Yn(fl:List Sl)(ok:Nat->Bool):∀k,(Kp fl ok k).length<=k
 | 0=>Nat.le_refl _
 | k+1=>by
  have:=Yn fl ok k
  unfold Kp;split
  ·rw [List.length_append,List.length_singleton];omega
  ·omega
theorem S9{fl:List Sl}{G:List Int->Bool}:∀k,k<=fl.length->BT (Kp fl (λi=>G (fl.getD i Sl.z).2) k)=((BT fl).take k).filter G
 | 0,_=>rfl
 | k+1,h=>by
  have a:=S9 (fl:=fl) (G:=G) k O;have e:(BT fl).take (k+1)=(BT fl).take k++[(fl.getD k Sl.z).2]:=by rw [DF [] (by rw [Cs];omega),E8 (l:=fl) O]
  unfold Kp;rw [e,List.filter_append];by_cases q:G (fl.getD k Sl.z).2=true
  ·rw [bV q,MV,a,List.filter_cons_of_pos q];rfl
  ·rw [bU q,a,List.filter_cons_of_neg q,List.filter_nil,List.append_nil]
end Go.Ns
namespace Go.Ns
open Go.Conc
section
variable {P:Program} {M:Type} {F:PD P M} {i i':Option (DX M)} {V:Nat->bW} {ds:List Deferred} {h:A} {Q:SZ M}
theorem trI_ix{c:Code}(e:i=i')(x:RP F c i' V ds h Q):RP F c i V ds h Q:=e▸x
theorem Kq{ops:Array Oper}{l:List Oper}(e:i=i')(x:Hl F ops l i' V ds h Q):Hl F ops l i V ds h Q:=e▸x
theorem tr_of_trI{c:Code}{Q:Post}(x:RP F c none V ds h λi e V ds h=>i=none/\Q e V ds h):Tr ⟨F.W,F.fn,F.rd,F.N⟩ c V ds h Q:=by
 intro b k f g t j l m n o;refine x b k f (λi=>match i with | none=>g | some _=>λ_ _ _ _=>False) t j l (λi=>?_) n λi e σ' a p q r d=>?_
 ·cases i with
  | none=>exact m
  | some s=>exact ⟨λ_ _ _ x=>x.elim,λ_ _ _ _ x=>x.elim,λ_ _ _ _ _ _ x=>x.elim⟩
 ·obtain ⟨rfl,q⟩:=q;exact o e σ' a p q r d
theorem trI_end{c:Code}{Q:Post}(x:Tr (F.env none) c V ds h Q):RP F c none V ds h λi e V ds h=>i=none/\Q e V ds h:=
 J7 (MI (λ_ _ _ _ q=>⟨rfl,q⟩) x)
variable {dst:Option Nat} {ty:bX} {pos:String} {af:Array Edge} {gd:Option (Nat×Bool)}
theorem TA{a x:Operand}{c:Nat}{v:bW}(ha:Ag V a=.chan (some c))(hx:Ag V x=v)(w:World):(execOp (Ag V) ⟨dst,.send a x,ty,pos,af,gd⟩).runT P w #[]=(.ok (.comm #[scase c v (.tuple #[])] true .send) w,#[]):=by
 subst hx;show (Result.ok (Next.comm #[{ chan:=Ag V a,send:=some (Ag V x),zero:=.tuple #[] }] true .send) w,#[])=_;rw [ha];rfl
theorem run_recv{a:Operand}{c:Nat}{t e:bX}{d:ChanDir}{ok:Bool}{z:bW}{inf:TypeInfo}(ht:P.underlying t=some (.chan d e))(hi:P.info? e=some inf)(hz:inf.zero=some z)(ha:Ag V a=.chan (some c))(w:World) :
  (execOp (Ag V) ⟨dst,.recv t a ok,ty,pos,af,gd⟩).runT P w #[]=(.ok (.comm #[rcase c z] true (.recv ok)) w,#[]):=by
 have b:(zeroValue e).run P w=.ok z w:=by
  unfold zeroValue typeInfo;simp only [Sem.run_bind,program,hi];simp [Sem.run,hi,hz]
 have f:(underlying t).run P w=.ok (.chan d e) w:=run_underlying ht w;rw [Sem.runT_eq];unfold execOp;simp [b,f,ha,rcase]
theorem PL{a:Operand}{c:Nat}{t e:bX}{d:ChanDir}{ok:Bool}{z:bW}(ht:P.underlying t=some (.chan d e))(hz:(P.info? e).map (·.zero)=some (some z))(ha:Ag V a=.chan (some c))(w:World) :
  (execOp (Ag V) ⟨dst,.recv t a ok,ty,pos,af,gd⟩).runT P w #[]=(.ok (.comm #[rcase c z] true (.recv ok)) w,#[]):=by
 obtain ⟨b,f,g⟩:=Option.map_eq_some_iff.1 hz;exact run_recv ht f g ha w
theorem run_go{x:Operand}{f:Fn}{cap:Array bW}{tys:Array bX}(hx:Ag V x=.func f #[] cap)(w:World):(execOp (Ag V) ⟨dst,.go ⟨.value x,#[],tys⟩,ty,pos,af,gd⟩).runT P w #[]=(.ok (.spawn { target:=.fn f cap,args:=#[] }) w,#[]):=by
 have e:resolve (Ag V) ⟨.value x,#[],tys⟩ ty=(pure { target:=.fn f cap,args:=#[] }:Sem Deferred):=by
  unfold resolve;simp only [hx,Deferred.ofValue];simp
 unfold execOp;simp only [e];rfl
variable {E:Ho P} {bN:(Nat->bW)->List Deferred->A->Prop}
theorem Lx{t e:bX}{d:ChanDir}{n:Operand}(ht:P.underlying t=some (.chan d e))(hi0:(P.info? e).isSome=true)(hn:Ag V n=.int .i64 0)
  (k:∀r h',h r=none->h.Le h'->h' r=some (true,.chan 0 #[] false 0 0 false)->(∀b,b≠r->h' b=h b)->bN (putS V dst (.chan (some r))) ds h'):B9 E ⟨dst,.makeChan t n,ty,pos,af,gd⟩ V ds h bN:=by
 unfold B9 execOp;refine HL ?_;unfold Instr.makeChan;rw [hn];refine AI _ _ (BS ?_);refine AI _ _ (BG ht ?_);simp only [];obtain ⟨c,f⟩:=Option.isSome_iff_exists.1 hi0;refine AI _ _ (DU f ?_);rw [bU (by simp [IntKind.max];decide)];refine AI _ _ ?_;exact λr a=>k r _ a (A.Le.new a _ _) (A.set_same _ _ _ _) λb g=>A.set_ne _ _ _ g
end
section
variable {P:Program} {F:PD P Ej} {i i':Option (DX Ej)} {V:Nat->bW} {ds:List Deferred} {h:A} {Q:SZ Ej} {ops:Array Oper} {o:Oper} {l:List Oper} {n:Nat} {cj co cd c m k:Nat} {ok:Nat->Bool} {R:List Nat} {z:bW}
theorem Kn.ix{X:Code}{args:Array bW}(e:i=i')(x:Kn F X args i' V h):Kn F X args i V h:=e▸x
theorem Iq:Hl F ops l (some .never) V ds h Q:=λ_ _ _ _ _ _ _ _ _ _ _ _=>FS.stop rfl
theorem A.join_none(h:A):h.join (λ_=>none)=h:=by
 funext b;unfold A.join;cases h b <;> rfl
theorem Yo{s:Ej}{nx:DX Ej}(hR:F.Rep=RR n)(hg:o.guard=none)(hdf:Do o.op=false)(hd:Dj o.dst F.N=true)(hr:∀w,(execOp (Ag V) o).runT P w #[]=(.ok (.comm #[scase c (tVal s) z] true .send) w,#[]))(hs:tOK n s)(hnx:¬nx.isDone)
  (x:Hl F ops l (some nx) (putS V o.dst undef) ds h Q):Hl F ops (o ::l) (some (.send c s nx)) V ds h Q:=
 trLI_send hg hdf hd hr (A.split_none h) (by rw [hR];exact ⟨rfl,hs,rfl⟩) hnx x
theorem PM{f:Option Ej->DX Ej}{r:Bool}(hR:F.Rep=RR n)(hg:o.guard=none)(hdf:Do o.op=false)(hd:Dj o.dst F.N=true)(hr:∀w,(execOp (Ag V) o).runT P w #[]=(.ok (.comm #[rcase c z] true (.recv r)) w,#[]))(hnx:∀o,¬(f o).isDone)
  (x:∀s,tOK n s->Hl F ops l (some (f (some s))) (putS V o.dst (recvd r (tVal s) true)) ds h Q) (y:Hl F ops l (some (f none)) (putS V o.dst (recvd r z false)) ds h Q):Hl F ops (o ::l) (some (.recv c f)) V ds h Q:=
 trLI_recv hg hdf hd hr hnx (λs v d a _=>by
  rw [hR] at a;obtain ⟨rfl,b,rfl⟩:=a;rw [A.join_none];exact x s b) y
theorem Yp(hR:F.Rep=RR n)(hg:o.guard=none)(hdf:Do o.op=false)(hd:Dj o.dst F.N=true)(hr:∀w,(execOp (Ag V) o).runT P w #[]=(.ok (.comm #[rcase cj z] true (.recv true)) w,#[]))
  (x:∀i,i<n->Hl F ops l (some (.send co (.res i (ok i)) (Gq cj co cd ok m))) (putS V o.dst (.tuple #[.int .i64 i,.bool true])) ds h Q) (y:Hl F ops l (some (.send cd .tick .done)) (putS V o.dst (.tuple #[z,.bool false])) ds h Q) :
  Hl F ops (o ::l) (some (Gq cj co cd ok (m+1))) V ds h Q:=
 PM (f:=YS co cd ok (Gq cj co cd ok m)) hR hg hdf hd hr workF_not (λs a=>by
  cases s with
  | job i=>exact x i a
  | res i b=>exact Iq
  | tick=>exact Iq) y
theorem Yq(hR:F.Rep=RR n)(hg:o.guard=none)(hdf:Do o.op=false)(hd:Dj o.dst F.N=true)(hr:∀w,(execOp (Ag V) o).runT P w #[]=(.ok (.comm #[rcase cd z] true (.recv false)) w,#[]))(hk:k<3)
  (x:Hl F ops l (some (FN co cd (3-(k+1)))) (putS V o.dst (.bool true)) ds h Q):Hl F ops (o ::l) (some (FN co cd (3-k))) V ds h Q:=
 Kq (close_some hk) (PM (f:=PE (FN co cd (3-(k+1)))) hR hg hdf hd hr closeF_not (λs _=>by
  cases s with
  | job i=>exact Iq
  | res i b=>exact Iq
  | tick=>exact x) Iq)
theorem trLI_main(hR:F.Rep=RR n)(hg:o.guard=none)(hdf:Do o.op=false)(hd:Dj o.dst F.N=true)(hr:∀w,(execOp (Ag V) o).runT P w #[]=(.ok (.comm #[rcase co z] true (.recv true)) w,#[]))
  (x:∀i,i<n->i ∈ R->Hl F ops l (some (Gr co ok m (R.erase i))) (putS V o.dst (.tuple #[.agg #[.int .i64 i,.bool (ok i)],.bool true])) ds h Q) (y:R=[]->Hl F ops l (some .stop) (putS V o.dst (.tuple #[z,.bool false])) ds h Q) :
  Hl F ops (o ::l) (some (Gr co ok (m+1) R)) V ds h Q:=
 PM (f:=JY ok R (Gr co ok m)) hR hg hdf hd hr mainF_not (λs d=>by
  cases s with
  | job i=>exact Iq
  | tick=>exact Iq
  | res i b=>
   by_cases e:i ∈ R/\b=ok i
   ·obtain ⟨a,rfl⟩:=e;exact Kq (show some (JY ok R (Gr co ok m) (some (.res i (ok i))))=some (Gr co ok m (R.erase i)) by unfold JY;simp [a]) (x i d a)
   ·exact Kq (show some (JY ok R (Gr co ok m) (some (.res i b)))=some .never by show some (if i ∈ R/\b=ok i then _ else _)=_;rw [bU e]) Iq) (by
  by_cases e:R=[]
  ·exact Kq (show some (JY ok R (Gr co ok m) none)=some .stop by unfold JY;rw [bV e]) (y e)
  ·exact Kq (show some (JY ok R (Gr co ok m) none)=some .never by unfold JY;rw [bU e]) Iq)
end
theorem DJ.flags{h h':A}{js:List AY}(s:h.Same h')(x:DJ h js):DJ h' js:=λk=>(x k).flags s
theorem BR.flags{h h':A}{ns:List AO}(s:h.Same h')(x:BR h ns):BR h' ns:=λk=>(x k).flags s
theorem Ib.flags{h h':A}{l:List Sl}(s:h.Same h')(a:Ib h l):Ib h' l:=λk=>(a k).flags s
theorem FO.flags{h h':A}{r np:Nat}{ws:List AF}{pq:List AG}(s:h.Same h')(x:FO h r np ws pq):FO h' r np ws pq:=by
 obtain ⟨i,M,⟨c,a,d,e⟩,f⟩:=x;obtain ⟨g,b⟩:=s _ _ _ d;exact ⟨g,M,⟨c,a,b,e⟩,f⟩
theorem tr_lays5{P:Program}{E:Ho P}{id:Nat}{a0 a1 a2 a3 a4:Oper}{rest:List Oper}{d0 d1 d2 d3:Nat}{V:Nat->bW}{ds:List Deferred}{h:A}{Q:Post}(o0 o1 o2 o3:Obj)(o4:Nat->Obj)(v0 v1 v2 v3:Nat->bW)(hm:P.follows .mixedOrders=true)
  (ok:HN E.N (a0 ::a1 ::a2 ::a3 ::a4 ::rest) 5 [[],[],[],[],[0,2,3]]=true)
  (g0:a0.guard=none) (g1:a1.guard=none) (g2:a2.guard=none) (g3:a3.guard=none) (g4:a4.guard=none) (e0:a0.dst=some d0) (e1:a1.dst=some d1) (e2:a2.dst=some d2) (e3:a3.dst=some d3)
  (l0:∀σ' h',B9 E a0 σ' ds h' λσ'' ds'' h''=>ds''=ds/\∃r,σ''=putS σ' a0.dst (v0 r)/\h' r=none/\h'.Le h''/\h'' r=some (true,o0)) (l1:∀σ' h',B9 E a1 σ' ds h' λσ'' ds'' h''=>ds''=ds/\∃r,σ''=putS σ' a1.dst (v1 r)/\h' r=none/\h'.Le h''/\h'' r=some (true,o1))
  (l2:∀σ' h',B9 E a2 σ' ds h' λσ'' ds'' h''=>ds''=ds/\∃r,σ''=putS σ' a2.dst (v2 r)/\h' r=none/\h'.Le h''/\h'' r=some (true,o2)) (l3:∀σ' h',B9 E a3 σ' ds h' λσ'' ds'' h''=>ds''=ds/\∃r,σ''=putS σ' a3.dst (v3 r)/\h' r=none/\h'.Le h''/\h'' r=some (true,o3))
  (l4:∀r0 r2 σ' h',σ' d0=v0 r0->σ' d2=v2 r2->h' r2=some (true,o2)->B9 E a4 σ' ds h' λσ'' ds'' h''=>ds''=ds/\σ''=σ'/\h'' r2=some (true,o4 r0)/\∀b,b≠r2->h'' b=h' b)
  (fin:∀(r0 r1 r2 r3:Nat) σ' h',h.Le h'->(h r0=none/\h' r0=some (true,o0)/\σ' d0=v0 r0)->(h r1=none/\h' r1=some (true,o1)/\σ' d1=v1 r1)->(h r2=none/\h' r2=some (true,o4 r0)/\σ' d2=v2 r2)->(h r3=none/\h' r3=some (true,o3)/\σ' d3=v3 r3)->
   (r0≠r1/\r0≠r2/\r0≠r3/\r1≠r2/\r1≠r3/\r2≠r3)->(∀t,(EP (a0 ::a1 ::a2 ::a3 ::a4 ::rest) 5).contains t=false->σ' t=V t)->Dy E (a0 ::a1 ::a2 ::a3 ::a4 ::rest).toArray rest σ' ds h' Q):Tr E (.region id (a0 ::a1 ::a2 ::a3 ::a4 ::rest).toArray true) V ds h Q:=by
 let l:=a0 ::a1 ::a2 ::a3 ::a4 ::rest;let M:Nat->Obj:=λi=>match i with | 0=>o0 | 1=>o1 | 2=>o2 | _=>o3
 let R:Nat->Nat->bW:=λi=>match i with | 0=>v0 | 1=>v1 | 2=>v2 | _=>v3
 have lay:∀i o,i<4->l[i]? =some o->∀σ' h',B9 E o σ' ds h' λσ'' ds'' h''=>ds''=ds/\∃r,σ''=putS σ' o.dst (R i r)/\h' r=none/\h'.Le h''/\h'' r=some (true,M i):=by
  intro i o W g σ' h';rcases i with _ | _ | _ | _ | i
  ·cases g;exact l0 σ' h'
  ·cases g;exact l1 σ' h'
  ·cases g;exact l2 σ' h'
  ·cases g;exact l3 σ' h'
  ·omega
 have nd:(EP l 5).Nodup:=by
  have:=ok
  unfold HN at this;simp only [Bool.and_eq_true] at this;exact of_decide_eq_true this.1.2
 refine X9 5 [[],[],[],[],[0,2,3]] (λD σ' h'=>h.Le h'/\(D 4=true->D 0=true/\D 2=true)/\∃c:Nat->Nat,(∀i,i<4->D i=true->h (c i)=none/\h' (c i)=some (true,if i=2/\D 4=true then o4 (c 0) else M i)/\∀o d,l[i]? =some o->o.dst=some d->σ' d=R i (c i))/\
  (∀i j,i<4->j<4->D i=true->D j=true->i≠j->c i≠c j)/\∀t,(EP l 5).contains t=false->σ' t=V t) hm ok ⟨A.Le.refl _,(λe=>by cases e),λ_=>0,(λ_ _ q=>by cases q),(λ_ _ _ _ q=>by cases q),λ_ _=>rfl⟩ ?_ ?_
 ·rintro D σ' h' i o ⟨n,u,c,s,X,h3⟩ W Y g hcl _;have hgd:o.guard=none:=by
   rcases i with _ | _ | _ | _ | _ | i
   ·cases g;exact g0
   ·cases g;exact g1
   ·cases g;exact g2
   ·cases g;exact g3
   ·cases g;exact g4
   ·omega
  refine ⟨λ_=>?_,λq=>absurd (by unfold EB;rw [hgd];trivial) q⟩;by_cases hi4:i=4
  ·subst hi4;have c0:D 0=true:=hcl 0 aG;have C:D 2=true:=hcl 2 aG;cases g;obtain ⟨q1,q2,q3⟩:=s 0 aF c0;obtain ⟨p1,p2,p3⟩:=s 2 aF C;rw [bU (λe=>by rw [Y] at e;cases e.2)] at p2;refine (l4 (c 0) (c 2) σ' h' (q3 a0 d0 rfl e0) (p3 a2 d2 rfl e2) p2).mono λσ'' ds'' h'' q=>?_;obtain ⟨rfl,rfl,k1,k2⟩:=q;refine ⟨rfl,λb p x y=>?_,λ_=>⟨by rw [CP aF];exact c0,by rw [CP aF];exact C⟩,c,λj z f=>?_,λa b ha y m k v=>?_,h3⟩
   ·rw [k2 b λe=>by subst e;rw [p1] at y;cases y];exact n b p x y
   ·rw [CP O] at f;obtain ⟨u1,u2,u3⟩:=s j z f;refine ⟨u1,?_,u3⟩;by_cases ej:j=2
    ·subst ej;rw [bV ⟨rfl,bV rfl⟩];exact k1
    ·rw [bU (λe=>ej e.1),k2 _ (X j 2 z aF f C ej)];rw [bU (λe=>ej e.1)] at u2;exact u2
   ·rw [CP O] at m k;exact X a b ha y m k v
  ·have hi':i<4:=O
   refine (lay i o hi' g σ' h').mono λσ'' ds'' h'' q=>?_;obtain ⟨rfl,r,rfl,hr,F,hr2⟩:=q;have h4e:IV D i 4=D 4:=CP (λe=>hi4 e.symm);have hne:∀j,j<4->D j=true->c j≠r:=λj z f e=>by
    have:=(s j z f).2.1
    rw [e,hr] at this;cases this
   refine ⟨rfl,n.trans F,λe=>?_,λj=>if j=i then r else c j,λj z f=>?_,λa b ha y m k v=>?_,λt ht=>?_⟩
   ·rw [h4e] at e;obtain ⟨c0,C⟩:=u e;exact ⟨by rw [CP (λq=>by subst q;rw [Y] at c0;cases c0)];exact c0,by rw [CP (λq=>by subst q;rw [Y] at C;cases C)];exact C⟩
   ·by_cases e:j=i
    ·subst e;dsimp only;rw [bV rfl];refine ⟨n.nothing hr,?_,λo' d w hd=>?_⟩
     ·rw [bU (λe=>by have e2:=e.2;rw [h4e] at e2;have e3:=(u e2).2;rw [<-e.1,Y] at e3;cases e3)];exact hr2
     ·obtain rfl:o'=o:=Option.some.inj (w.symm.trans g);rw [hd];exact upd_same _ _ _
    ·dsimp only;rw [bU e];rw [CP e] at f;obtain ⟨q1,q2,q3⟩:=s j z f;refine ⟨q1,?_,λo' d w hd=>by rw [De λd' hd'=>E7 nd W (O:j<5) (λq=>e q.symm) g w hd' hd];exact q3 o' d w hd⟩;rw [h4e];by_cases hc:j=2/\D 4=true
     ·rw [bV hc] at q2 ⊢;rw [bU (λq=>by have c0:=(u hc.2).1;rw [q,Y] at c0;cases c0)];exact F.keep q2 rfl
     ·rw [bU hc] at q2 ⊢;exact F.keep q2 rfl
   ·show (if a=i then r else c a)≠(if b=i then r else c b);by_cases ea:a=i
    ·by_cases H:b=i
     ·exact absurd (ea.trans H.symm) v
     ·rw [bV ea,bU H];rw [CP H] at k;exact (hne b y k).symm
    ·rw [CP ea] at m;by_cases H:b=i
     ·rw [bU ea,bV H];exact hne a ha m
     ·rw [bU ea,bU H];rw [CP H] at k;exact X a b ha y m k v
   ·rw [De (Ih W g ht)];exact h3 t ht
 ·rintro D σ' h' ⟨n,u,c,s,X,h3⟩ hall;have I:∀i,i<5->D i=true:=hall;have f0:=s 0 aF (I 0 aF);have f1:=s 1 aF (I 1 aF);have f2:=s 2 aF (I 2 aF);have f3:=s 3 aF (I 3 aF);rw [bU (λe=>by have:=e.1;omega)] at f0;rw [bU (λe=>by have:=e.1;omega)] at f1;rw [bV ⟨rfl,I 4 aF⟩] at f2;rw [bU (λe=>by have:=e.1;omega)] at f3;have K:=λi j (W:i<4) (z:j<4)=>X i j W z (I i O) (I j O);exact fin (c 0) (c 1) (c 2) (c 3) σ' h' n ⟨f0.1,f0.2.1,f0.2.2 a0 d0 rfl e0⟩ ⟨f1.1,f1.2.1,f1.2.2 a1 d1 rfl e1⟩ ⟨f2.1,f2.2.1,f2.2.2 a2 d2 rfl e2⟩ ⟨f3.1,f3.2.1,f3.2.2 a3 d3 rfl e3⟩
   ⟨K 0 1 aF aF aF,K 0 2 aF aF aF,K 0 3 aF aF aF,K 1 2 aF aF aF,K 1 3 aF aF aF,K 2 3 aF aF aF⟩ h3
section
variable {h h' h0:A} {r:Nat}
theorem A.cut_ne{b:Nat}(e:b≠r):h.cut r b=h b:=bU e
theorem A.Le.cut(l:h0.Le h)(n:h0 r=none):h0.Le (h.cut r):=λb p o a=>by
 rw [A.cut_ne λe=>by subst e;rw [n] at a;cases a];exact l b p o a
theorem Ae.cut{α:Type}{v:bW}{t:bX}{n:Nat}{enc:α->Array bW}{xs:List α}(x:Ae h0 h v t n enc xs)(f:Bp v r):Ae h0 (h.cut r) v t n enc xs:=
 x.keep λb o a c=>by rw [A.cut_ne λe=>by subst e;exact f a];exact c
theorem Ae.del'{α:Type}{v:bW}{t:bX}{n:Nat}{enc:α->Array bW}{xs:List α}(x:Ae h0 h v t n enc xs)(f:Bp v r):Ae h0 (h.del r) v t n enc xs:=
 x.keep λb o a c=>by rw [A.del_ne λe=>by subst e;exact f a];exact c
theorem Ci.keep3{X:Nat->Prop}{t0 bN t:bX}{n l:Nat}{w v:bW}{p q:Bool}{c:Array bW}{f:Nat×Nat}{lo:Loop}{ys:List Sl}{hB:A}{ys':List Int}(x:Ci h t0 v ys')(k:CF X h h')(hX:∀b,X b->(b=r\/DH w=some b)\/b=l)(hr:h r=some (p,.cells c bN f))(ow:Ae hB h w t n KN ys)(hl:h l=some (q,.loop lo))(n1:bN≠t0)(n2:t≠t0):Ci h' t0 v ys':=
 x.keepX k λb a d=>by
  obtain ⟨j,m,f2,e⟩:=x.2 b a;rcases hX b d with (rfl | q3) | rfl
  ·rw [hr] at e;cases e;exact n1 rfl
  ·rcases ow with ⟨rfl,_⟩ | ⟨o,g,s,rfl,_,i,_⟩
   ·cases q3
   ·simp only [DH,Option.some.injEq] at q3;subst q3;rw [i] at e;cases e;exact n2 rfl
  ·rw [hl] at e;cases e
theorem CF.mono{X Y:Nat->Prop}(k:CF X h h')(s:∀b,X b->Y b):CF Y h h':=λb p o a c=>k b p o a λx=>c (s b x)
end
theorem rounds_ok{n:Nat}{fl:List Sl}(h:BT fl=EG (Er n))(hn:n<=4)(i:Nat):W6 n (fl.getD i Sl.z).2:=by
 by_cases a:i<fl.length
 ·refine Ls (λx b=>S6 b) (by rw [FD];exact hn) (r:=(fl.getD i Sl.z).2) ?_;rw [<-h,<-E8 a];exact CS (by rw [Cs];exact a)
 ·rw [CH O];exact ⟨λk c=>absurd c (Nat.not_lt_zero _),Nat.zero_le _⟩
theorem Ci.storeD{h h':A}{t:bX}{v:bW}{xs:List Int}{r:Nat}{p:Bool}{q:Option (List Deferred)}(x:Ci h t v xs)(hr:h r=some (p,.deferred q))(ho:∀b,b≠r->h' b=h b):Ci h' t v xs:=
 x.same λb a=>ho b λe=>by
  obtain ⟨c,d,f2,z⟩:=x.2 b a;rw [e,hr] at z;cases z
theorem Ch.storeD{h h':A}{t:bX}{l:List Sl}{r:Nat}{p:Bool}{q:Option (List Deferred)}(x:Ch h t l)(hr:h r=some (p,.deferred q))(ho:∀b,b≠r->h' b=h b):Ch h' t l:=λk=>
 (x k).same λb a=>ho b λe=>by
  obtain ⟨c,d,f2,z⟩:=(x k).2 b a;rw [e,hr] at z;cases z
theorem selS_all{fl:List Sl}{G:List Int->Bool}{all:List (List Int)}{k:Nat}(h:BT fl=all)(h1:k<=fl.length)(h2:fl.length<=k):BT (Kp fl (λi=>G (fl.getD i Sl.z).2) k)=all.filter G:=by
 rw [S9 k h1,List.take_of_length_le (by rw [Cs];exact h2),h]
theorem Ch.sel{h:A}{t:bX}{fl:List Sl}{ok:Nat->Bool}{k:Nat}(a:Ch h t fl):Ch h t (Kp fl ok k):=by
 induction k with
 | zero=>exact Ch.nil h t
 | succ k b=>
  unfold Kp;split
  ·exact Ch.app b (Ch.one (a k))
  ·exact b
end Go.Ns
namespace Go.Ns
theorem W8{P:Program}{V:Nat->bW}{h:A}{fn:Func}{R:bW->A->Prop}{a u s:Tmp}{t:bX}{b off:Nat}{v v' v2:bW}(hr:fn.results=#[.tmp u,.cell a t,.tmp s])(hv:V u=v)(ha:V a=.pointer (some ⟨b,off,none⟩))(hv':Rd P h t b off v')(hv2:V s=v2)(x:R (.tuple #[v,v',v2]) h):Hp P fn V R [] h:=by
 unfold Hp;rw [hr];subst hv;subst hv2;exact ⟨b,off,v',ha,hv',x⟩
section
variable (np:Nat) (ws:List AF) (js:List AY) (pq:List AG) (bP bO:Int)
def JE:List (List Int):=(EG (Er js.length)).filter (λq=>Cz np ws js pq q bP bO)
end
def Ri(g:List (List Int))(x:List Int):List (List Int):=if 0<g.length/\(g.getD 0 []).length<x.length then [] else g
def Rj(g:List (List Int))(x:List Int):List (List Int):=if g.length=0\/x.length=(g.getD 0 []).length then g++[x] else g
def Yr(g:List (List Int))(x:List Int):List (List Int):=Rj (Ri g x) x
def W9(l:List (List Int)):Nat->List (List Int)
 | 0=>[]
 | k+1=>Yr (W9 l k) (l.getD k [])
def IQ(g:List Sl)(x:Sl):List Sl:=if 0<g.length/\(g.getD 0 Sl.z).2.length<x.2.length then [] else g
def JF(g:List Sl)(x:Sl):List Sl:=if g.length=0\/x.2.length=(g.getD 0 Sl.z).2.length then g++[x] else g
def Dv(g:List Sl)(x:Sl):List Sl:=JF (IQ g x) x
def Bn(l:List Sl):Nat->List Sl
 | 0=>[]
 | k+1=>Dv (Bn l k) (l.getD k Sl.z)
section
variable {l g:List Sl} {x:Sl} {k:Nat}
theorem TB(h0:0<g.length)(h1:(g.getD 0 Sl.z).2.length<x.2.length):Dv g x=[x]:=by
 unfold Dv IQ;rw [bV ⟨h0,h1⟩];rfl
theorem TC(h0:0<g.length)(h1:x.2.length=(g.getD 0 Sl.z).2.length):Dv g x=g++[x]:=by
 unfold Dv IQ;rw [bU (λe=>by have:=e.2;omega)];unfold JF;rw [bV (.inr h1)]
theorem TE(h0:0<g.length)(h1:x.2.length<(g.getD 0 Sl.z).2.length):Dv g x=g:=by
 unfold Dv IQ;rw [bU (λe=>by have:=e.2;omega)];unfold JF;rw [bU];rintro (e | e) <;> omega
theorem TF(h0:g.length=0):Dv g x=g++[x]:=by
 unfold Dv IQ;rw [bU (λe=>by have:=e.1;omega)];unfold JF;rw [bV (.inl h0)]
theorem goodS_a(h0:0<(Bn l k).length)(h1:((Bn l k).getD 0 Sl.z).2.length<(l.getD k Sl.z).2.length):Bn l (k+1)=[l.getD k Sl.z]:=TB h0 h1
theorem goodS_b(h0:0<(Bn l k).length)(h1:(l.getD k Sl.z).2.length=((Bn l k).getD 0 Sl.z).2.length):Bn l (k+1)=Bn l k++[l.getD k Sl.z]:=TC h0 h1
theorem goodS_c(h0:0<(Bn l k).length)(h1:¬((Bn l k).getD 0 Sl.z).2.length<(l.getD k Sl.z).2.length)(h2:¬(l.getD k Sl.z).2.length=((Bn l k).getD 0 Sl.z).2.length):Bn l (k+1)=Bn l k:=TE h0 O
theorem goodS_d(h0:(Bn l k).length=0):Bn l (k+1)=Bn l k++[l.getD k Sl.z]:=TF h0
theorem goodS_t(h1:¬(0<(Bn l k).length/\((Bn l k).getD 0 Sl.z).2.length<(l.getD k Sl.z).2.length))(h2:(Bn l k).length=0\/(l.getD k Sl.z).2.length=((Bn l k).getD 0 Sl.z).2.length):Bn l (k+1)=Bn l k++[l.getD k Sl.z]:=by
 by_cases a:(Bn l k).length=0
 ·exact goodS_d a
 ·exact goodS_b O O
theorem goodS_f(h1:¬(0<(Bn l k).length/\((Bn l k).getD 0 Sl.z).2.length<(l.getD k Sl.z).2.length))(h2:¬((Bn l k).length=0\/(l.getD k Sl.z).2.length=((Bn l k).getD 0 Sl.z).2.length)):Bn l (k+1)=Bn l k:=goodS_c O O O
theorem JG(g:List Sl)(x:Sl):Dv g x=[x]\/Dv g x=g++[x]\/(Dv g x=g/\0<g.length):=by
 by_cases a:g.length=0
 ·exact .inr (.inl (TF a))
 ·by_cases b:(g.getD 0 Sl.z).2.length<x.2.length
  ·exact .inl (TB O b)
  ·by_cases c:x.2.length=(g.getD 0 Sl.z).2.length
   ·exact .inr (.inl (TC O c))
   ·exact .inr (.inr ⟨TE O O,O⟩)
theorem goodS_pos:∀k,0<k->0<(Bn l k).length
 | k+1,_=>by
  show 0<(Dv (Bn l k) (l.getD k Sl.z)).length;rcases JG (Bn l k) (l.getD k Sl.z) with e | e | ⟨e,h⟩ <;> rw [e]
  ·exact Nat.zero_lt_one
  ·rw [List.length_append];exact Nat.succ_pos _
  ·exact h
theorem VO:∀k,(Bn l k).length<=k
 | 0=>Nat.le_refl _
 | k+1=>by
  have a:=VO k;show (Dv (Bn l k) (l.getD k Sl.z)).length<=_;rcases JG (Bn l k) (l.getD k Sl.z) with e | e | ⟨e,_⟩ <;> rw [e]
  ·simp
  ·rw [List.length_append,List.length_singleton];omega
  ·omega
theorem PN:∀k,k<=l.length->∀y ∈ Bn l k,y ∈ l
 | 0,_,y,hy=>by cases hy
 | k+1,c,y,hy=>by
  have a:=PN k O;have b:l.getD k Sl.z ∈ l:=CS O;change y ∈ Dv (Bn l k) (l.getD k Sl.z) at hy;rcases JG (Bn l k) (l.getD k Sl.z) with e | e | ⟨e,_⟩ <;> rw [e] at hy
  ·rw [List.mem_singleton.1 hy];exact b
  ·rcases List.mem_append.1 hy with hy | hy
   ·exact a y hy
   ·rw [List.mem_singleton.1 hy];exact b
  ·exact a y hy
theorem QT:∀k,k<=l.length->BT (Bn l k)=W9 (BT l) k
 | 0,_=>rfl
 | k+1,e=>by
  have b:=QT k O;have a:∀g:List Sl,(g.getD 0 Sl.z).2=(BT g).getD 0 []:=λg=>by cases g <;> rfl
  show BT (Dv (Bn l k) (l.getD k Sl.z))=Yr (W9 (BT l) k) ((BT l).getD k []);rw [<-b,E8 O];have c:BT (IQ (Bn l k) (l.getD k Sl.z))=Ri (BT (Bn l k)) (l.getD k Sl.z).2:=by
   unfold IQ Ri;rw [a,Cs];split <;> rfl
  have d:∀g:List Sl,BT (JF g (l.getD k Sl.z))=Rj (BT g) (l.getD k Sl.z).2:=λg=>by
   unfold JF Rj;rw [a,Cs];split
   ·rw [MV];rfl
   ·rfl
  show BT (JF (IQ (Bn l k) (l.getD k Sl.z)) (l.getD k Sl.z))=Rj (Ri (BT (Bn l k)) _) _;rw [d,c]
end
theorem Ch.good{h:A}{t:bX}{l:List Sl}{k:Nat}(a:Ch h t l)(hk:k<=l.length):Ch h t (Bn l k):=.of λx b=>a.at (PN k hk x b)
section
variable {np:Nat} {ws:List AF} {js:List AY} {pq:List AG} {bP bO:Int} {fs:List Sl}
theorem safe_ok(h:BT fs=JE np ws js pq bP bO)(hn:js.length<=4):∀x ∈ fs,W6 js.length x.2:=λx a=>by
 have:x.2 ∈ BT fs:=List.mem_map_of_mem a
 rw [h] at this;exact Ls (λy b=>S6 b) (by rw [FD];exact hn) (List.mem_filter.1 this).1
theorem Ys(h:BT fs=JE np ws js pq bP bO)(hn:js.length<=4)(i:Nat):W6 js.length (fs.getD i Sl.z).2:=by
 by_cases a:i<fs.length
 ·exact safe_ok h hn _ (CS a)
 ·rw [CH O];exact ⟨λk b=>absurd b (Nat.not_lt_zero _),Nat.zero_le _⟩
theorem safe_nil(hb:0<=bP):Cz np ws js pq [] bP bO=true:=by
 unfold Cz;have e:(Cp bO js []).sum=0:=by
  show (List.replicate bO.toNat (0:Int)).sum=0;generalize bO.toNat=n
  induction n with
  | zero=>rfl
  | succ n a=>rw [List.replicate_succ,List.sum_cons,a];rfl
 rw [e,decide_eq_true hb];rfl
theorem safeLs_pos(hb:0<=bP):0<(JE np ws js pq bP bO).length:=by
 refine List.length_pos_of_mem (a:=[]) (List.mem_filter.2 ⟨?_,safe_nil hb⟩);unfold EG;rw [II];exact List.mem_cons_self
theorem TG(hn:js.length<=4):(JE np ws js pq bP bO).length<=625:=
 Nat.le_trans (List.length_filter_le _ _) (Ip (by rw [FD];exact hn))
theorem VP{G:List Int->Int}:∀(l:List (List Int)),0<l.length->∀k,k<=l.length-1->(E3 G l k).1 ∈ l
 | l,h,0,_=>CS h
 | l,h,k+1,a=>by
  unfold E3;split
  ·exact List.mem_of_mem_drop (CS (by rw [List.length_drop];omega))
  ·exact VP l h k O
theorem OO{n:Nat}{G:List Int->Int}{l:List Sl}(h:∀x ∈ l,W6 n x.2)(hl:0<l.length):W6 n (Ed G (BT l)):=by
 have:=VP (G:=G) (BT l) (by rw [Cs];exact hl) ((BT l).length-1) (Nat.le_refl _)
 obtain ⟨x,a,e⟩:=List.mem_map.1 this;unfold Ed;rw [<-e];exact h x a
end
section
variable (bP bO:Int) (ps:List bY) (ws:List AF) (js:List AY) (ns:List AO)
def bestL9:List Int:=Ed (λl=>Cc (λx=>BZ ps.length ws js x l) (AC ws js ns)) (W9 (JE ps.length ws js (AC ws js ns) bP bO) (JE ps.length ws js (AC ws js ns) bP bO).length)
def M0:List Int:=if¬Aw bP bO ps ws js ns 0=0 then [] else bestL9 bP bO ps ws js ns
end
section
variable {bP bO:Int} {ps:List bY} {ws:List AF} {js:List AY} {ns:List AO} {fs:List Sl} {k:Nat}
theorem best_end(h:BT fs=JE ps.length ws js (AC ws js ns) bP bO)(h1:k<=fs.length)(h2:fs.length<=k):bestL9 bP bO ps ws js ns=Ed (λl=>Cc (λx=>BZ ps.length ws js x l) (AC ws js ns)) (BT (Bn fs k)):=by
 unfold bestL9;rw [QT k h1,h,<-h,Cs,show fs.length=k by omega]
theorem Yt(h0:¬¬Aw bP bO ps ws js ns 0=0)(h:BT fs=JE ps.length ws js (AC ws js ns) bP bO)(h1:k<=fs.length)(h2:fs.length<=k):M0 bP bO ps ws js ns=Ed (λl=>Cc (λx=>BZ ps.length ws js x l) (AC ws js ns)) (BT (Bn fs k)):=(bU h0).trans (best_end h h1 h2)
end
def XA(c:G2)(l:List Int):Nat->G2
 | 0=>c
 | i+1=>(XA c l i).set (l.getD i 0).toNat true
def H2(ls:List (List Int)):Nat->G2
 | 0=>G2.none
 | k+1=>XA (H2 ls k) (ls.getD k []) (ls.getD k []).length
def GK(c:G2):Nat->List Int
 | 0=>[]
 | q+1=>if c q=true then GK c q else GK c q++[(q:Int)]
theorem neverL_t{c:G2}{q:Nat}(h:c q=true):GK c (q+1)=GK c q:=bV h
theorem neverL_f{c:G2}{q:Nat}(h:c q=false):GK c (q+1)=GK c q++[(q:Int)]:=bU (by rw [h];simp)
theorem TH(c:G2):∀q,(GK c q).length<=q
 | 0=>Nat.le_refl _
 | q+1=>by
  have:=TH c q
  unfold GK;split
  ·omega
  ·rw [List.length_append,List.length_singleton];omega
section
variable (bP bO:Int) (ps:List bY) (ws:List AF) (js:List AY) (ns:List AO)
def PO:List Int:=if¬Aw bP bO ps ws js ns 0=0 then [] else GK (H2 (JE ps.length ws js (AC ws js ns) bP bO) (JE ps.length ws js (AC ws js ns) bP bO).length) js.length
end
section
variable {bP bO:Int} {ps:List bY} {ws:List AF} {js:List AY} {ns:List AO} {fs:List Sl} {k q:Nat}
theorem inTo_next{i:Nat}(hk:k<fs.length)(h1:i<=(fs.getD k Sl.z).2.length)(h2:(fs.getD k Sl.z).2.length<=i):H2 (BT fs) (k+1)=XA (H2 (BT fs) k) (fs.getD k Sl.z).2 i:=by
 unfold H2;rw [E8 hk,show (fs.getD k Sl.z).2.length=i by omega];cases k <;> rfl
theorem neverR_ok(h0:¬¬Aw bP bO ps ws js ns 0=0)(h:BT fs=JE ps.length ws js (AC ws js ns) bP bO)(h1:k<=fs.length)(h2:fs.length<=k)(h3:q<=js.length)(h4:js.length<=q):PO bP bO ps ws js ns=GK (H2 (BT fs) k) q:=
 (bU h0).trans (by rw [<-h,Cs,show fs.length=k by omega,show js.length=q by omega])
end
end Go.Ns
namespace Go.Ns
theorem Yu{nj:Nat}{l:List Int}(h:BA nj l=0):l.Nodup:=by
 rw [List.nodup_iff_pairwise_ne];rw [List.pairwise_iff_getElem];intro i j f c d e;have b:=EF h j (Nat.zero_le _) O;unfold Fb at b;split at b
 ·rename_i a;exact a b
 ·split at b
  ·cases b
  ·rename_i a
   refine a (List.any_eq_true.2 ⟨l[i],List.mem_take_iff_getElem.2 ⟨i,O,rfl⟩,?_⟩);rw [List.getD_eq_getElem?_getD,List.getElem?_eq_getElem c];exact decide_eq_true e.symm
theorem QU{jobs:List Int}(nd:jobs.Nodup):∀(rest done:List Int),jobs=done++rest->jobs ∈ CB jobs rest.length done
 | [],done,e=>by rw [e,List.append_nil];exact List.mem_singleton.2 rfl
 | k ::rest,done,e=>by
  have b:=QU nd rest (done++[k]) (by rw [e];simp);show jobs ∈ done ::jobs.flatMap _;refine List.mem_cons_of_mem _ (List.mem_flatMap.2 ⟨k,by rw [e];simp,?_⟩);have c:Jw done k=false:=by
   cases d:Jw done k with
   | false=>rfl
   | true=>
    exfalso;obtain ⟨x,f,g⟩:=List.any_eq_true.1 d;have a:k=x:=of_decide_eq_true g;rw [e,List.nodup_append] at nd;exact nd.2.2 x f k List.mem_cons_self a.symm
  rw [bU (by rw [c];simp)];exact b
def fullR(jobs:List Int)(n:Nat):List (List Int):=(EG jobs).filter λq=>decide (q.length=n)
theorem fullR_pos{l:List Int}(nd:l.Nodup):0<(fullR (EV l) l.length).length:=by
 have a:(EV l).Nodup:=by rw [J4];exact (List.mergeSort_perm l _).nodup_iff.2 nd
 have:=QU a (EV l) [] rfl
 exact List.length_pos_of_mem (List.mem_filter.2 ⟨this,decide_eq_true (EZ l)⟩)
section
variable (bP bO:Int) (ps:List bY) (ws:List AF) (js:List AY) (ns:List AO) (l:List Int)
def swiftL:List Int:=Ed (λl=>Cc (λx=>BZ ps.length ws js x l) (AC ws js ns)) (fullR (EV l) l.length)
def Kr:List Int:=if¬Aw bP bO ps ws js ns (BA js.length l)=0 then [] else swiftL ps ws js ns l
end
section
variable {bP bO:Int} {ps:List bY} {ws:List AF} {js:List AY} {ns:List AO} {l:List Int} {fl:List Sl} {nj:Nat}
theorem VQ(h0:¬¬Aw bP bO ps ws js ns (BA js.length l)=0)(h:BT fl=fullR (EV l) l.length):Kr bP bO ps ws js ns l=Ed (λl=>Cc (λx=>BZ ps.length ws js x l) (AC ws js ns)) (BT fl):=(bU h0).trans (by unfold swiftL;rw [h])
theorem full_ok(h:BT fl=fullR (EV l) l.length)(hr:∀k,k<l.length->0<=l.getD k 0/\l.getD k 0<nj)(h4:l.length<=4):∀x ∈ fl,W6 nj x.2:=λx c=>by
 have:x.2 ∈ BT fl:=List.mem_map_of_mem c
 rw [h] at this;refine Ls (λy a=>?_) (by rw [EZ];exact h4) (List.mem_filter.1 this).1;rw [J4,List.mem_mergeSort] at a;obtain ⟨i,b,e⟩:=List.mem_iff_getElem.1 a
 have:=hr i b
 rw [List.getD_eq_getElem?_getD,List.getElem?_eq_getElem b,Option.getD_some,e] at this;exact this
end
end Go.Ns
namespace Go.Ns
def PV(h:A)(t:bX)(f:Nat->bW)(bM:Nat->List Int)(k:Nat):Prop:=∀i,i<k->Ci h t (f i) (bM i)
section
variable {h h' h0:A} {t t':bX} {f:Nat->bW} {bM:Nat->List Int} {k r:Nat} {w v v':bW} {p:Bool} {c:Array bW} {g:Nat×Nat}
theorem PV.zero:PV h t f bM 0:=λ_ a=>absurd a (Nat.not_lt_zero _)
theorem PV.le(x:PV h t f bM k)(l:h.Le h'):PV h' t f bM k:=λi a=>(x i a).le l
theorem PV.store(x:PV h t f bM k)(hr:h r=some (p,.cells c t' g))(ne:t'≠t)(ho:∀b,b≠r->h' b=h b):PV h' t f bM k:=λi a=>(x i a).store hr ne ho
theorem PV.next(x:PV h t f bM k)(y:Ci h t w (bM k)):PV h t (λi=>if i=k then w else f i) bM (k+1):=λi a=>by
 show Ci h t (if i=k then w else f i) (bM i);by_cases e:i=k
 ·rw [bV e,e];exact y
 ·rw [bU e];exact x i O
end
def AY.re(j:AY)(v:bW):AY:={ j with pv:=v }
def AO.re(j:AO)(v:bW):AO:={ j with wv:=v }
def JH(js:List AY)(f:Nat->bW)(k:Nat):List AY:=(List.range js.length).map λi=>if i<k then (js.getD i AY.z).re (f i) else js.getD i AY.z
def J1(ns:List AO)(f:Nat->bW)(k:Nat):List AO:=(List.range ns.length).map λi=>if i<k then (ns.getD i AO.z).re (f i) else ns.getD i AO.z
section
variable {α:Type} {z:α} {l:List α} {F:Nat->α->α} {k:Nat}
def reL(z:α)(l:List α)(F:Nat->α->α)(k:Nat):List α:=(List.range l.length).map λi=>if i<k then F i (l.getD i z) else l.getD i z
theorem MW:(reL z l F k).length=l.length:=by unfold reL;rw [List.length_map,List.length_range]
theorem Ja{i:Nat}(hi:i<l.length):(reL z l F k).getD i z=if i<k then F i (l.getD i z) else l.getD i z:=by
 unfold reL;rw [List.getD_eq_getElem?_getD,List.getElem?_map,List.getElem?_range hi];rfl
theorem XB{i:Nat}(hi:i<(reL z l F k).length):(reL z l F k)[i]=if i<k then F i (l.getD i z) else l.getD i z:=by
 have e:=Ja (z:=z) (F:=F) (k:=k) (show i<l.length by rw [<-MW (z:=z) (F:=F) (k:=k)];exact hi);rw [List.getD_eq_getElem?_getD,List.getElem?_eq_getElem hi] at e;exact e
theorem reL_0:reL z l F 0=l:=by
 refine List.ext_getElem MW λi b a=>?_;rw [XB,bU (Nat.not_lt_zero _),List.getD_eq_getElem?_getD,List.getElem?_eq_getElem a];rfl
theorem reL_put{G:Nat->α->α}(hk:k<l.length)(hG:∀i,i<k->∀x,G i x=F i x):(reL z l F k).set k (G k ((reL z l F k).getD k z))=reL z l G (k+1):=by
 rw [Ja hk,bU (Nat.lt_irrefl _)];refine List.ext_getElem (by rw [List.length_set,MW,MW]) λi b c=>?_;rw [List.getElem_set,XB];by_cases e:k=i
 ·subst e;rw [bV rfl,XB,bV O]
 ·rw [bU e,XB];by_cases a:i<k
  ·rw [bV a,bV O,hG i a]
  ·rw [bU a,bU O]
end
section
variable {h:A} {t:bX} {f:Nat->bW} {js:List AY} {ns:List AO} {k:Nat} {w:bW}
theorem TK:JH js f k=reL AY.z js (λi j=>j.re (f i)) k:=rfl
theorem TM:J1 ns f k=reL AO.z ns (λi j=>j.re (f i)) k:=rfl
theorem Rk(js:List AY)(f:Nat->bW)(k:Nat):(JH js f k).length=js.length:=by rw [TK];exact MW
theorem Rn(ns:List AO)(f:Nat->bW)(k:Nat):(J1 ns f k).length=ns.length:=by rw [TM];exact MW
theorem reJ_0:JH js f 0=js:=by rw [TK];exact reL_0
theorem reN_0:J1 ns f 0=ns:=by rw [TM];exact reL_0
theorem reJ_put(hk:k<js.length):(JH js f k).set k (((JH js f k).getD k AY.z).re w)=JH js (λi=>if i=k then w else f i) (k+1):=by
 have:=reL_put (z:=AY.z) (l:=js) (F:=λi j=>j.re (f i)) (G:=λi j=>j.re (if i=k then w else f i)) hk (λi a x=>by rw [bU O])
 rw [bV rfl] at this;exact this
theorem reN_put(hk:k<ns.length):(J1 ns f k).set k (((J1 ns f k).getD k AO.z).re w)=J1 ns (λi=>if i=k then w else f i) (k+1):=by
 have:=reL_put (z:=AO.z) (l:=ns) (F:=λi j=>j.re (f i)) (G:=λi j=>j.re (if i=k then w else f i)) hk (λi a x=>by rw [bU O])
 rw [bV rfl] at this;exact this
theorem VR(js:List AY)(f:Nat->bW)(k i:Nat):((JH js f k).getD i AY.z).parts=(js.getD i AY.z).parts:=by
 by_cases a:i<js.length
 ·rw [TK,Ja a];split <;> rfl
 ·rw [CH (by rw [Rk];omega),CH O]
theorem Yv(ns:List AO)(f:Nat->bW)(k i:Nat):((J1 ns f k).getD i AO.z).ways=(ns.getD i AO.z).ways:=by
 by_cases a:i<ns.length
 ·rw [TM,Ja a];split <;> rfl
 ·rw [CH (by rw [Rn];omega),CH O]
theorem DJ.re(x:DJ h js)(y:PV h t f (λi=>(js.getD i AY.z).parts) k):DJ h (JH js f k):=λi=>by
 by_cases a:i<js.length
 ·rw [TK,Ja a];by_cases e:i<k
  ·rw [bV e];exact (y i e).1
  ·rw [bU e];exact x i
 ·rw [CH (by rw [Rk];omega)];exact Ai.nil _ _ _
theorem BR.re(x:BR h ns)(y:PV h t f (λi=>(ns.getD i AO.z).ways) k):BR h (J1 ns f k):=λi=>by
 by_cases a:i<ns.length
 ·rw [TM,Ja a];by_cases e:i<k
  ·rw [bV e];exact (y i e).1
  ·rw [bU e];exact x i
 ·rw [CH (by rw [Rn];omega)];exact Ai.nil _ _ _
def Dt(h:A)(t:bX)(js:List AY):Prop:=∀k,Ci h t (js.getD k AY.z).pv (js.getD k AY.z).parts
def FQ(h:A)(t:bX)(ns:List AO):Prop:=∀k,Ci h t (ns.getD k AO.z).wv (ns.getD k AO.z).ways
theorem Dt.jobs(x:Dt h t js):DJ h js:=λk=>(x k).1
theorem FQ.notes(x:FQ h t ns):BR h ns:=λk=>(x k).1
theorem Dt.le{h':A}(x:Dt h t js)(l:h.Le h'):Dt h' t js:=λk=>(x k).le l
theorem FQ.le{h':A}(x:FQ h t ns)(l:h.Le h'):FQ h' t ns:=λk=>(x k).le l
theorem Dt.store{h':A}{t':bX}{r:Nat}{p:Bool}{c:Array bW}{g:Nat×Nat}(x:Dt h t js)(hr:h r=some (p,.cells c t' g))(ne:t'≠t)(ho:∀b,b≠r->h' b=h b):Dt h' t js:=λk=>(x k).store hr ne ho
theorem FQ.store{h':A}{t':bX}{r:Nat}{p:Bool}{c:Array bW}{g:Nat×Nat}(x:FQ h t ns)(hr:h r=some (p,.cells c t' g))(ne:t'≠t)(ho:∀b,b≠r->h' b=h b):FQ h' t ns:=λk=>(x k).store hr ne ho
theorem Dt.of(y:PV h t f (λi=>(js.getD i AY.z).parts) k)(hk:js.length<=k):Dt h t (JH js f k):=λi=>by
 by_cases a:i<js.length
 ·rw [TK,Ja a,bV O];exact y i O
 ·rw [CH (by rw [Rk];omega)];exact Ci.nil _ _
theorem FQ.of(y:PV h t f (λi=>(ns.getD i AO.z).ways) k)(hk:ns.length<=k):FQ h t (J1 ns f k):=λi=>by
 by_cases a:i<ns.length
 ·rw [TM,Ja a,bV O];exact y i O
 ·rw [CH (by rw [Rn];omega)];exact Ci.nil _ _
theorem DJ.fine1(x:DJ h js)(k:Nat):(Dk (js.getD k AY.z)).toList.all (·.oneCell')=true:=by
 show (true && (true && (true && (true && (((js.getD k AY.z).pv.oneCell') && true)))))=true;rw [(Ai.one (x k)).2];rfl
theorem DJ.fine(x:DJ h js):∀y ∈ js,(Dk y).toList.all (·.oneCell')=true:=λy a=>by
 obtain ⟨i,b,e⟩:=List.mem_iff_getElem.1 a
 have:=x.fine1 i
 rw [List.getD_eq_getElem?_getD,List.getElem?_eq_getElem b] at this;rw [<-e];exact this
theorem BR.snoc{x:AO}(a:BR h ns)(b:Ai h x.wv 1 eI x.ways):BR h (ns++[x]):=λk=>by
 rw [J9];split
 ·exact a k
 ·cases c:k-ns.length with
  | zero=>exact b
  | succ n=>rw [CH aG];exact Ai.nil _ _ _
end
theorem Bd.copy{bP bO:Int}{ps:List bY}{ws:List AF}{js:List AY}{ns:List AO}(b:Bd bP bO ps ws js ns):(∀i,(js.getD i AY.z).parts.length<=1000)/\∀i,(ns.getD i AO.z).ways.length<=1000:=by
 refine ⟨λi=>?_,λi=>Nat.le_trans (NI b.note i).1 aF⟩;by_cases a:i<js.length
 ·have:=(Lh (b.job i a)).len
  have:=b.hkin
  omega
 ·rw [CH O];exact Nat.zero_le _
end Go.Ns
namespace Go.Ns
section
variable {P:Program} {E:Ho P} {V:Nat->bW} {ds:List Deferred} {h:A} {bN:(Nat->bW)->List Deferred->A->Prop} {dst:Option Nat} {ty:bX} {pos:String} {af:Array Edge} {gd:Option (Nat×Bool)}
theorem bytesOf_at{s:bY}{i:Nat}(h:i<s.size):((s[i]'h).toNat:Int)=(bytesOf s).getD i 0:=by
 have a:i<(bytesOf s).length:=by rw [Dq];exact h
 rw [Cy 0 a];exact (List.getElem_map (l:=s.data.toList) (f:=λb=>(b.toNat:Int)) (h:=a)).symm
theorem TN{t:bX}{x ix:Operand}{s:bY}{kd:IntKind}{i:Int}(ht:R3 P t=true)(hx:Ag V x=.string s)(hi:Ag V ix=.int kd i)(h0:0<=i)(h1:i<s.size)(k:bN (putS V dst (.int .u8 ((bytesOf s).getD i.toNat 0))) ds h) :
  B9 E ⟨dst,.index t x ix,ty,pos,af,gd⟩ V ds h bN:=Uu ht hx hi h0 h1 (by rw [bytesOf_at];exact k)
end
theorem Yw{s:bY}(h:¬(1<=(s.size:Int)/\(s.size:Int)<=10)):GE s=false:=by unfold GE;rw [decide_eq_false h,Bool.and_false]
theorem Yx{a b:List UInt8}{v:Bool}(h:(a==b)=v):(b==a)=v:=by rw [<-h];exact BEq.comm
def IZ(l:List Int)(k:Nat)(p q:Int):List Int:=if p=l.getD k 0/\¬q ∈ l then l++[q] else l
def DY(l:List Int)(k:Nat)(x:AF):List Int:=IZ (IZ l k x.a x.b) k x.b x.a
def A6(ws:List AF)(l:List Int)(k:Nat):Nat->List Int
 | 0=>l
 | j+1=>DY (A6 ws l k j) k (ws.getD j AF.z)
def BJ(ws:List AF):Nat->List Int
 | 0=>[0]
 | k+1=>if k<(BJ ws k).length then A6 ws (BJ ws k) k ws.length else BJ ws k
def Di(ws:List AF):List Int:=BJ ws 4
def IR(np:Nat)(l:List Int):Prop:=l.Nodup/\(∀x ∈ l,0<=x/\x<np)/\0<l.length
def NP(np:Nat)(ws:List AF):Prop:=∀k,k<ws.length->(0<=(ws.getD k AF.z).a/\(ws.getD k AF.z).a<np)/\0<=(ws.getD k AF.z).b/\(ws.getD k AF.z).b<np
section
variable {np:Nat} {l:List Int} {ws:List AF} {k j:Nat} {x:Int} {w:AF}
theorem IR.len(h:IR np l):l.length<=np:=by
 refine Sw np l.length (λk=>(l.getD k 0).toNat) (λi f=>?_) λi j a b=>?_
 ·have:=h.2.1 _ (CS (d:=(0:Int)) f)
  show (l.getD i 0).toNat<np;omega
 ·have g:=h.2.1 _ (CS (d:=(0:Int)) b);have m:=h.2.1 _ (CS (d:=(0:Int)) (show i<l.length by omega));show (l.getD i 0).toNat≠(l.getD j 0).toNat;intro e;have c:l.getD i 0=l.getD j 0:=O
  rw [List.getD_eq_getElem?_getD,List.getD_eq_getElem?_getD,List.getElem?_eq_getElem O,List.getElem?_eq_getElem b,Option.getD_some,Option.getD_some] at c
  have:=(List.pairwise_iff_getElem.1 (List.nodup_iff_pairwise_ne.1 h.1)) i j O b a
  exact this c
theorem IR.snoc(h:IR np l)(hx:0<=x/\x<np)(n:¬x ∈ l):IR np (l++[x]):=
 ⟨List.nodup_append.2 ⟨h.1,aG,λa c b d e=>by rw [List.mem_singleton.1 d] at e;exact n (e▸c)⟩,λy hy=>by
  rcases List.mem_append.1 hy with hy | hy
  ·exact h.2.1 y hy
  ·rw [List.mem_singleton.1 hy];exact hx,aG⟩
theorem OP{p q:Int}(h1:p=l.getD k 0)(h2:¬q ∈ l):IZ l k p q=l++[q]:=bV ⟨h1,h2⟩
theorem OQ{p q:Int}(h:¬(p=l.getD k 0/\¬q ∈ l)):IZ l k p q=l:=bU h
theorem rs_tt(h1:w.a=l.getD k 0/\¬w.b ∈ l)(h2:w.b=(l++[w.b]).getD k 0/\¬w.a ∈ l++[w.b]):DY l k w=l++[w.b]++[w.a]:=by unfold DY;rw [OP h1.1 h1.2,OP h2.1 h2.2]
theorem rs_tf(h1:w.a=l.getD k 0/\¬w.b ∈ l)(h2:¬(w.b=(l++[w.b]).getD k 0/\¬w.a ∈ l++[w.b])):DY l k w=l++[w.b]:=by unfold DY;rw [OP h1.1 h1.2,OQ h2]
theorem rs_ft(h1:¬(w.a=l.getD k 0/\¬w.b ∈ l))(h2:w.b=l.getD k 0/\¬w.a ∈ l):DY l k w=l++[w.a]:=by unfold DY;rw [OQ h1,OP h2.1 h2.2]
theorem rs_ff(h1:¬(w.a=l.getD k 0/\¬w.b ∈ l))(h2:¬(w.b=l.getD k 0/\¬w.a ∈ l)):DY l k w=l:=by unfold DY;rw [OQ h1,OQ h2]
theorem VS{p q:Int}(h:IR np l)(hq:0<=q/\q<np):IR np (IZ l k p q):=by
 unfold IZ;split
 ·rename_i c;exact h.snoc hq c.2
 ·exact h
theorem JI(l:List Int)(k:Nat)(p q:Int):l<+:IZ l k p q:=by
 unfold IZ;split
 ·exact List.prefix_append _ _
 ·exact List.prefix_refl _
theorem XC(h:IR np l)(ha:0<=w.a/\w.a<np)(hb:0<=w.b/\w.b<np):IR np (DY l k w):=VS (VS h hb) ha
theorem Jx(l:List Int)(k:Nat)(w:AF):l<+:DY l k w:=(JI _ _ _ _).trans (JI _ _ _ _)
theorem TO{a b:List Int}(h:a<+:b)(hk:k<a.length):b.getD k 0=a.getD k 0:=by
 obtain ⟨t,rfl⟩:=h;rw [J9,bV hk]
theorem Ks(h:IR np l)(hw:NP np ws):∀j,j<=ws.length->IR np (A6 ws l k j)
 | 0,_=>h
 | j+1,a=>XC (Ks h hw j O) (hw j O).1 (hw j O).2
theorem Gv:∀j,l<+:A6 ws l k j
 | 0=>List.prefix_refl _
 | j+1=>(Gv j).trans (Jx _ _ _)
theorem KA(hn:0<np)(hw:NP np ws):∀k,IR np (BJ ws k)
 | 0=>⟨by simp [BJ],λx a=>by rw [List.mem_singleton.1 a];omega,Nat.zero_lt_one⟩
 | k+1=>by
  unfold BJ;split
  ·exact Ks (KA hn hw k) hw _ (Nat.le_refl _)
  ·exact KA hn hw k
theorem Ly(hk:k<(BJ ws k).length):BJ ws (k+1)=A6 ws (BJ ws k) k ws.length:=bV hk
theorem QV(hk:(BJ ws k).length<=k):∀m,k<=m->BJ ws m=BJ ws k
 | 0,h=>by rw [show k=0 by omega]
 | m+1,h=>by
  by_cases e:m+1=k
  ·rw [e]
  ·have a:=QV hk m O
   have:BJ ws (m+1)=BJ ws m:=by
    conv=>lhs;unfold BJ
    rw [bU (by rw [a];omega)]
   rw [this,a]
theorem VT(hk:(BJ ws k).length<=k)(hk4:k<=4):Di ws=BJ ws k:=QV hk 4 hk4
end
def Gx(np:Nat)(ws:List AF):Int:=if (5:Int)<ws.length then 2 else if¬Da (Dx np ws) 0 ws.length=0 then Da (Dx np ws) 0 ws.length else if (Di ws).length<np then 8 else 0
def H3(bP bO:Int)(ps:List bY)(ws:List AF)(js:List AY)(ns:List AO):Int:=
 if¬HX bP bO=0 then HX bP bO else if¬B4 ps=0 then B4 ps else if¬Gx ps.length ws=0 then Gx ps.length ws else if¬Cg ps.length bO js=0 then Cg ps.length bO js else DP ws.length ns
section
variable {α:Type} {p:α->Bool} {l:List α} {d:α} {k j:Nat}
theorem PP(hk:k<l.length)(e:p (l.getD k d)=true):l.any p=true:=List.any_eq_true.2 ⟨_,CS hk,e⟩
theorem MX(h:(l.take k).any p=false)(hk:l.length<=k):l.any p=false:=by rwa [List.take_of_length_le hk] at h
theorem Yy(hj:j<k)(hk:k<=l.length)(e:p (l.getD j d)=true):(l.take k).any p=true:=by
 refine PP (k:=j) (d:=d) (by rw [List.length_take];omega) ?_;rw [List.getD_eq_getElem?_getD,List.getElem?_take,bV hj,<-List.getD_eq_getElem?_getD];exact e
end
section
variable {np nw:Nat} {ws:List AF} {js:List AY} {ns:List AO} {k:Nat} {bO:Int}
theorem OR{a b:Int}(ha:0<=a/\a<=(np:Int)-1)(hb:0<=b/\b<=(np:Int)-1):BE np [a,b]=0:=by
 have c:FX np [a,b] 0=0:=bU (λe=>e ha);have d:FX np [a,b] 1=0:=bU (λe=>e hb);show Da (FX np [a,b]) 0 2=0;simp [Da,c,d]
theorem miss_no{a b:Int}(h:¬(0<=a/\a<=(np:Int)-1)\/¬(0<=b/\b<=(np:Int)-1)):BE np [a,b]=6:=by
 show Da (FX np [a,b]) 0 2=6;by_cases c:0<=a/\a<=(np:Int)-1
 ·have d:FX np [a,b] 0=0:=bU (λe=>e c);have f:FX np [a,b] 1=6:=bV (h.resolve_left λe=>e c);simp [Da,d,f]
 ·have d:FX np [a,b] 0=6:=bV c;simp [Da,d]
theorem TP{a:Int}(ha:0<=a/\a<=(np:Int)-1):BE np [a]=0:=by
 have b:FX np [a] 0=0:=bU (λe=>e ha);show Da (FX np [a]) 0 1=0;simp [Da,b]
theorem miss_no1{a:Int}(ha:¬(0<=a/\a<=(np:Int)-1)):BE np [a]=6:=by
 have b:FX np [a] 0=6:=bV ha;show Da (FX np [a]) 0 1=6;simp [Da,b]
variable (ws k) in
def waP(np:Nat):Prop:=(0<=(ws.getD k AF.z).a/\(ws.getD k AF.z).a<=(np:Int)-1)/\(0<=(ws.getD k AF.z).b/\(ws.getD k AF.z).b<=(np:Int)-1)
theorem wy6(h:¬(0<=(ws.getD k AF.z).a/\(ws.getD k AF.z).a<=(np:Int)-1)\/¬(0<=(ws.getD k AF.z).b/\(ws.getD k AF.z).b<=(np:Int)-1)):Dx np ws k=6:=by
 unfold Dx;rw [miss_no h,bV aF]
theorem wyP(h:¬(¬(0<=(ws.getD k AF.z).a/\(ws.getD k AF.z).a<=(np:Int)-1)\/¬(0<=(ws.getD k AF.z).b/\(ws.getD k AF.z).b<=(np:Int)-1))):waP ws k np:=⟨Decidable.byContradiction λe=>h (.inl e),Decidable.byContradiction λe=>h (.inr e)⟩
theorem wy7(h:waP ws k np)(h2:(ws.getD k AF.z).b<=(ws.getD k AF.z).a):Dx np ws k=7:=by
 unfold Dx;rw [OR h.1 h.2,bU aG,bV h2]
theorem wy5(h:waP ws k np)(h2:¬(ws.getD k AF.z).b<=(ws.getD k AF.z).a)(h3:(ws.take k).any (λy=>decide (y.a=(ws.getD k AF.z).a/\y.b=(ws.getD k AF.z).b))=true):Dx np ws k=5:=by
 unfold Dx;rw [OR h.1 h.2,bU aG,bU h2,bV h3]
theorem wy1(h:waP ws k np)(h2:¬(ws.getD k AF.z).b<=(ws.getD k AF.z).a)(h3:(ws.take k).any (λy=>decide (y.a=(ws.getD k AF.z).a/\y.b=(ws.getD k AF.z).b))=false)(h4:¬(((0<=(ws.getD k AF.z).low/\(ws.getD k AF.z).low<=(ws.getD k AF.z).high)/\(ws.getD k AF.z).high<=30)/\(ws.getD k AF.z).high-(ws.getD k AF.z).low<2)):Dx np ws k=1:=by
 unfold Dx;rw [OR h.1 h.2,bU aG,bU h2,bU (by rw [h3];simp)];exact bV h4
theorem wy0(h:waP ws k np)(h2:¬(ws.getD k AF.z).b<=(ws.getD k AF.z).a)(h3:(ws.take k).any (λy=>decide (y.a=(ws.getD k AF.z).a/\y.b=(ws.getD k AF.z).b))=false)(h4:(((0<=(ws.getD k AF.z).low/\(ws.getD k AF.z).low<=(ws.getD k AF.z).high)/\(ws.getD k AF.z).high<=30)/\(ws.getD k AF.z).high-(ws.getD k AF.z).low<2)):Dx np ws k=0:=by
 unfold Dx;rw [OR h.1 h.2,bU aG,bU h2,bU (by rw [h3];simp)];exact bU (λe=>e h4)
theorem waysOK(h:∀k,k<ws.length->Dx np ws k=0):NP np ws:=λk b=>by
 have:=h k b
 unfold Dx at this;split at this
 ·rename_i a;exact absurd this a
 ·rename_i a
  have q:=Gt (Decidable.not_not.1 a);have c:=q _ List.mem_cons_self;have d:=q _ (List.mem_cons_of_mem _ List.mem_cons_self);omega
theorem rw2(h:(5:Int)<ws.length):Gx np ws=2:=bV h
theorem XD{c:Int}(h5:¬(5:Int)<ws.length)(hs:∀j,j<k->Dx np ws j=0)(hk:k<ws.length)(e:Dx np ws k=c)(hc:c≠0):Gx np ws=c:=by
 have a:=Bw hs hk e hc;rw [Gx,bU h5,a,bV hc]
theorem rw8(h5:¬(5:Int)<ws.length)(hs:∀j,j<k->Dx np ws j=0)(hk:ws.length<=k)(h:((Di ws).length:Int)<np):Gx np ws=8:=by
 rw [Gx,bU h5,DA hs hk,bU aG,bV O]
theorem rw0(h5:¬(5:Int)<ws.length)(hs:∀j,j<k->Dx np ws j=0)(hk:ws.length<=k)(h:¬((Di ws).length:Int)<np):Gx np ws=0:=by
 rw [Gx,bU h5,DA hs hk,bU aG,bU O]
theorem jb6(h:¬(0<=(js.getD k AY.z).place/\(js.getD k AY.z).place<=(np:Int)-1)):HD np bO js k=6:=by
 unfold HD;rw [miss_no1 h,bV aF]
theorem jb1(h:0<=(js.getD k AY.z).place/\(js.getD k AY.z).place<=(np:Int)-1)(h2:¬(((0<=(js.getD k AY.z).low/\(js.getD k AY.z).low<=(js.getD k AY.z).high)/\(js.getD k AY.z).high<=30)/\(js.getD k AY.z).high-(js.getD k AY.z).low<2)\/¬(0<=(js.getD k AY.z).due/\(js.getD k AY.z).due<=200)):HD np bO js k=1:=by
 unfold HD;rw [TP h,bU aG];exact bV h2
theorem jb2(h:0<=(js.getD k AY.z).place/\(js.getD k AY.z).place<=(np:Int)-1)(h2:¬(¬(((0<=(js.getD k AY.z).low/\(js.getD k AY.z).low<=(js.getD k AY.z).high)/\(js.getD k AY.z).high<=30)/\(js.getD k AY.z).high-(js.getD k AY.z).low<2)\/¬(0<=(js.getD k AY.z).due/\(js.getD k AY.z).due<=200)))(h3:¬((js.getD k AY.z).parts.length:Int)=bO):HD np bO js k=2:=by
 unfold HD;rw [TP h,bU aG];exact (bU h2).trans (bV h3)
theorem jb3(h:0<=(js.getD k AY.z).place/\(js.getD k AY.z).place<=(np:Int)-1)(h2:¬(¬(((0<=(js.getD k AY.z).low/\(js.getD k AY.z).low<=(js.getD k AY.z).high)/\(js.getD k AY.z).high<=30)/\(js.getD k AY.z).high-(js.getD k AY.z).low<2)\/¬(0<=(js.getD k AY.z).due/\(js.getD k AY.z).due<=200)))(h3:((js.getD k AY.z).parts.length:Int)=bO):HD np bO js k=if (js.getD k AY.z).parts.any (λn=>decide (¬(0<=n/\n<=5))) then 1 else 0:=by
 unfold HD;rw [TP h,bU aG];exact (bU h2).trans (bU (λe=>e h3))
theorem nt2(h:(5:Int)<(ns.getD k AO.z).ways.length):Ek nw ns k=2:=bV h
theorem nt6(h:¬(5:Int)<(ns.getD k AO.z).ways.length)(h2:(ns.getD k AO.z).ways.any (λn=>decide (¬(0<=n/\n<=(nw:Int)-1)))=true):Ek nw ns k=6:=by
 unfold Ek;rw [bU h,bV h2]
theorem nt1(h:¬(5:Int)<(ns.getD k AO.z).ways.length)(h2:(ns.getD k AO.z).ways.any (λn=>decide (¬(0<=n/\n<=(nw:Int)-1)))=false)(h3:¬((0<=(ns.getD k AO.z).low/\(ns.getD k AO.z).low<=(ns.getD k AO.z).high)/\(ns.getD k AO.z).high<=200)):Ek nw ns k=1:=by
 unfold Ek;rw [bU h,bU (by rw [h2];simp),bV (λe=>h3 e.1)]
theorem nt0(h:¬(5:Int)<(ns.getD k AO.z).ways.length)(h2:(ns.getD k AO.z).ways.any (λn=>decide (¬(0<=n/\n<=(nw:Int)-1)))=false)(h3:(0<=(ns.getD k AO.z).low/\(ns.getD k AO.z).low<=(ns.getD k AO.z).high)/\(ns.getD k AO.z).high<=200):Ek nw ns k=0:=by
 unfold Ek;rw [bU h,bU (by rw [h2];simp),bU (λe=>e ⟨h3,O⟩)]
end
section
variable {ps:List bY} {k:Nat} {a b:List (Int×Int)}
theorem pa4(h:GE (ps.getD k (⟨#[]⟩:bY))=false):GV ps k=4:=by unfold GV;rw [bV h]
theorem pa5(h:GE (ps.getD k (⟨#[]⟩:bY))=true)(h2:0<=idxOf (λx=>(ps.getD k (⟨#[]⟩:bY)).toList==x.toList) (ps.take k)):GV ps k=5:=by
 unfold GV;rw [bU (by rw [h];simp),bV ((GT _ _).1 h2)]
theorem pa0(h:GE (ps.getD k (⟨#[]⟩:bY))=true)(h2:¬0<=idxOf (λx=>(ps.getD k (⟨#[]⟩:bY)).toList==x.toList) (ps.take k)):GV ps k=0:=by
 unfold GV;rw [bU (by rw [h];simp),bU λe=>h2 ((GT _ _).2 e)]
theorem Ue(hs:a.take k=b.take k)(hk:k<=a.length)(h:¬(k:Int)<a.length)(hl:(a.length:Int)=b.length):a=b:=by
 rw [List.take_of_length_le O,List.take_of_length_le O] at hs;exact hs
theorem eq_getDP{k:Nat}(h:((a.getD k (0,0)).1==(b.getD k (0,0)).1 && ((a.getD k (0,0)).2==(b.getD k (0,0)).2 && true))=true):a.getD k (0,0)=b.getD k (0,0):=by
 simp only [Bool.and_true,Bool.and_eq_true,beq_iff_eq] at h;exact Prod.ext h.1 h.2
theorem ne_getDP{k:Nat}(h:(!((a.getD k (0,0)).1==(b.getD k (0,0)).1 && ((a.getD k (0,0)).2==(b.getD k (0,0)).2 && true)))=true):¬a=b:=λe=>by rw [e] at h;simp at h
end
section
variable (bP bO:Int) (ps:List bY) (ws:List AF) (js:List AY) (ns:List AO)
def F5:Bool:=decide ((((20:Int)<ps.length\/(20:Int)<ws.length)\/(20:Int)<js.length)\/(20:Int)<ns.length) || ps.any (λs=>decide ((100:Int)<s.size)) || js.any (λj=>decide ((20:Int)<j.parts.length)) || ns.any λn=>decide ((20:Int)<n.ways.length)
end
section
variable {ps:List bY} {ws:List AF} {js:List AY} {ns:List AO} {k:Nat}
theorem XE(h:F5 ps ws js ns=false)(k:Nat):(ps.getD k (⟨#[]⟩:bY)).size<=1000:=by
 unfold F5 at h;simp only [Bool.or_eq_false_iff] at h;by_cases a:k<ps.length
 ·have:=List.any_eq_false.1 h.1.1.2 _ (CS (d:=(⟨#[]⟩:bY)) a)
  have:=of_decide_eq_false (Bool.eq_false_iff.2 this)
  omega
 ·rw [CH O];decide
end
section
variable {bP bO:Int} {ps:List bY} {ws:List AF} {js:List AY} {ns:List AO}
theorem L0(h:B4 ps=0):0<ps.length/\ps.length<=4:=by
 unfold B4 at h;split at h
 ·cases h
 ·omega
theorem rc1(h:¬(0<=bP/\bP<=9)\/¬(0<=bO/\bO<=3)):H3 bP bO ps ws js ns=1:=by
 have e:HX bP bO=1:=bV h;unfold H3;rw [e,bV aF]
theorem tb0(h:¬(¬(0<=bP/\bP<=9)\/¬(0<=bO/\bO<=3))):HX bP bO=0:=bU h
theorem rc2(h0:¬(¬(0<=bP/\bP<=9)\/¬(0<=bO/\bO<=3)))(h:¬B4 ps=0):H3 bP bO ps ws js ns=B4 ps:=by unfold H3;rw [tb0 h0,bU aG,bV h]
theorem rc3(h0:¬(¬(0<=bP/\bP<=9)\/¬(0<=bO/\bO<=3)))(h1:¬¬B4 ps=0)(h:¬Gx ps.length ws=0):H3 bP bO ps ws js ns=Gx ps.length ws:=by unfold H3;rw [tb0 h0,bU aG,bU h1,bV h]
theorem rc4(h0:¬(¬(0<=bP/\bP<=9)\/¬(0<=bO/\bO<=3)))(h1:¬¬B4 ps=0)(h2:¬¬Gx ps.length ws=0)(h:¬Cg ps.length bO js=0):H3 bP bO ps ws js ns=Cg ps.length bO js:=by unfold H3;rw [tb0 h0,bU aG,bU h1,bU h2,bV h]
theorem rc5(h0:¬(¬(0<=bP/\bP<=9)\/¬(0<=bO/\bO<=3)))(h1:¬¬B4 ps=0)(h2:¬¬Gx ps.length ws=0)(h:¬¬Cg ps.length bO js=0):H3 bP bO ps ws js ns=DP ws.length ns:=by unfold H3;rw [tb0 h0,bU aG,bU h1,bU h2,bU h]
theorem gr_len(h:(((20:Int)<ps.length\/(20:Int)<ws.length)\/(20:Int)<js.length)\/(20:Int)<ns.length):F5 ps ws js ns=true:=by unfold F5;rw [decide_eq_true h];rfl
theorem gr_p(h:ps.any (λs=>decide ((100:Int)<s.size))=true):F5 ps ws js ns=true:=by unfold F5;rw [h];simp
theorem gr_j(h:js.any (λj=>decide ((20:Int)<j.parts.length))=true):F5 ps ws js ns=true:=by unfold F5;rw [h];simp
theorem gr_n(h:ns.any (λn=>decide ((20:Int)<n.ways.length))=true):F5 ps ws js ns=true:=by unfold F5;rw [h];simp
theorem gr_0(h:¬((((20:Int)<ps.length\/(20:Int)<ws.length)\/(20:Int)<js.length)\/(20:Int)<ns.length))(h1:ps.any (λs=>decide ((100:Int)<s.size))=false)(h2:js.any (λj=>decide ((20:Int)<j.parts.length))=false)(h3:ns.any (λn=>decide ((20:Int)<n.ways.length))=false):F5 ps ws js ns=false:=by
 unfold F5;rw [decide_eq_false h,h1,h2,h3];rfl
end
end Go.Ns
namespace Go.Ns
def Dl:List bY:=[⟨#[119,111,114,107,115]⟩,⟨#[97,121,114]⟩,⟨#[98,117,116,101]⟩]
theorem Dw:∀k,(Dl.getD k (⟨#[]⟩:bY)).size<=1000
 | 0=>aF
 | 1=>aF
 | 2=>aF
 | k+3=>by rw [CH (by simp [Dl])];decide
def Dh:List AF:=[⟨0,1,2,3⟩,⟨1,2,4,4⟩,⟨0,2,5,5⟩]
def DE(a b c:bW):List AY:=[⟨1,1,1,5,a,[2]⟩,⟨2,1,2,12,b,[1]⟩,⟨0,1,1,20,c,[1]⟩]
theorem Dt.ex{h:A}{t:bX}{a b c:bW}(x:Ci h t a [2])(y:Ci h t b [1])(z:Ci h t c [1]):Dt h t (DE a b c):=λk=>by
 match k with
 | 0=>exact x
 | 1=>exact y
 | 2=>exact z
 | k+3=>rw [CH (by show 3<=_;omega)];exact Ci.nil _ _
theorem Ai.isSl{α:Type}{h:A}{v:bW}{n:Nat}{enc:α->Array bW}{xs:List α}(x:Ai h v n enc xs):∀k i,v≠.int k i:=by
 obtain ⟨a,b,rfl,_⟩:=x;intro k i e;cases e
theorem Ai.across9{h h':A}{v:bW}{xs:List Int}{r:Nat}{a b c d:bW}{bN:bX}(x:Ai h v 1 eI xs)(hb:h r=some (true,.cells #[.int .i64 3,.int .i64 1,a,b,c,d] bN (0,0)))(ho:∀y,y≠r->h' y=h y)
  (ha:∀k i,a≠.int k i) (hb':∀k i,b≠.int k i) (hc:∀k i,c≠.int k i) (hd:∀k i,d≠.int k i) (hx:∀o,o<6->∃i:Fin xs.length,(o+i.val=0->xs[i.val]≠3)/\(o+i.val=1->xs[i.val]≠1)):Ai h' v 1 eI xs:=by
 obtain ⟨N,w,P,m,Q,E⟩:=x;refine ⟨N,w,P,m,Q,λi F=>?_⟩;obtain ⟨y,g,H,R⟩:=E i F;refine ⟨y,g,H,R.same (ho y ?_)⟩;rintro rfl;have n:∀j (q:j<xs.length),g+j<6/\(#[Value.int .i64 3,.int .i64 1,a,b,c,d]:Array bW).extract (g+j) (g+j+1)=eI xs[j]:=λj q=>by
  obtain ⟨X,I,C,V⟩:=E j q;rw [H] at C;simp only [Option.some.injEq,Addr.mk.injEq,and_true] at C;obtain ⟨rfl,rfl⟩:=C;obtain ⟨p,Y,t,f,D,K,M⟩:=V;rw [hb] at D;simp only [Option.some.injEq,Prod.mk.injEq,Obj.cells.injEq] at D;obtain ⟨_,rfl,_⟩:=D;rw [Nat.mul_one] at K M;exact ⟨by simp at K;omega,M⟩
 obtain ⟨⟨j,q⟩,s,u⟩:=hx g (by have:=(n i F).1;omega);obtain ⟨W,l⟩:=n j q;simp only at s u;generalize g+j=o at W l s u;generalize xs[j]=z at l s u
 have:o=0\/o=1\/o=2\/o=3\/o=4\/o=5:=O
 rcases this with rfl | rfl | rfl | rfl | rfl | rfl
 ·have e:(#[.int .i64 3]:Array bW)=#[.int .i64 z]:=l;simp at e;exact s rfl e.symm
 ·have e:(#[.int .i64 1]:Array bW)=#[.int .i64 z]:=l;simp at e;exact u rfl e.symm
 ·have e:(#[a]:Array bW)=#[.int .i64 z]:=l;simp at e;exact ha _ _ e
 ·have e:(#[b]:Array bW)=#[.int .i64 z]:=l;simp at e;exact hb' _ _ e
 ·have e:(#[c]:Array bW)=#[.int .i64 z]:=l;simp at e;exact hc _ _ e
 ·have e:(#[d]:Array bW)=#[.int .i64 z]:=l;simp at e;exact hd _ _ e
end Go.Ns
namespace Go.Ns
section
variable {m:FZ} {b np i k n:Nat}
structure FZ.Sym(m:FZ):Prop where
 ok:m.ok
 diag:∀i,m i i=0
 sym:∀i k,m i k=m k i
theorem Yz(b i:Nat)(m:FZ)(hd:m b b=0)(h0:m.ok):∀n x y,Il b i m n x y=if x=i/\y<n then min (m i y) (m i b+m b y) else m x y
 | 0,x,y=>by rw [bU O];rfl
 | n+1,x,y=>by
  have d:=Yz b i m hd h0 n;have e:Il b i m (n+1)=Rb b i (Il b i m n) n:=BO _ _ _;rw [e];unfold Rb FZ.set;by_cases c:x=i/\y=n
  ·obtain ⟨rfl,rfl⟩:=c;rw [bV ⟨rfl,rfl⟩,bV ⟨rfl,Nat.lt_succ_self _⟩,d x y,bU O,d x b,d b y];have j:=h0 x b;have h:=h0 b y;have f:=hd;by_cases a:x=x/\b<y
   ·rw [bV a];by_cases g:b=x/\y<y
    ·omega
    ·rw [bU g];rw [f];omega
   ·rw [bU a];by_cases g:b=x/\y<y
    ·omega
    ·rw [bU g]
  ·rw [bU c,d x y];by_cases a:x=i/\y<n
   ·rw [bV a,bV ⟨a.1,O⟩]
   ·rw [bU a,bU (λe=>a ⟨e.1,O⟩)]
theorem farI1_get(b i:Nat)(m:FZ)(hd:m b b=0)(h0:m.ok)(x y:Nat):QJ b np m i x y=if x=i/\y<np then min (m i y) (m i b+m b y) else m x y:=by
 unfold QJ;split
 ·rename_i e
  by_cases a:x=i/\y<np
  ·obtain ⟨rfl,c⟩:=a;rw [bV ⟨rfl,c⟩,e]
   have:=h0 x y
   have:=h0 b y
   omega
  ·rw [bU a]
 ·exact Yz b i m hd h0 np x y
theorem TQ(b:Nat)(m:FZ)(hd:m b b=0)(h0:m.ok):∀n x y,F4 b np m n x y=if x<n/\y<np then min (m x y) (m x b+m b y) else m x y
 | 0,x,y=>by rw [bU O];rfl
 | n+1,x,y=>by
  have c:=TQ b m hd h0 n;have e:F4 b np m (n+1)=QJ b np (F4 b np m n) n:=BO _ _ _;have d:F4 b np m n b b=0:=by rw [c b b,hd];split <;> omega
  rw [e,farI1_get b n _ d (Rc h0)];by_cases f:x=n/\y<np
  ·obtain ⟨rfl,a⟩:=f;rw [bV ⟨rfl,a⟩,bV ⟨Nat.lt_succ_self _,a⟩,c x y,bU O,c x b,bU O,c b y];have h:=h0 x b;have j:=h0 b y;by_cases g:b<x/\y<np
   ·rw [bV g,hd];omega
   ·rw [bU g]
  ·rw [bU f,c x y];by_cases a:x<n/\y<np
   ·rw [bV a,bV ⟨O,a.2⟩]
   ·rw [bU a,bU (λe=>O)]
structure FW(np n:Nat)(m0 m:FZ):Prop where
 s:m.Sym
 tri:∀c,c<n->∀i k,i<np->k<np->m i k<=m i c+m c k
 le:∀i k,m i k<=m0 i k
theorem FW.step{m0:FZ}(h:FW np n m0 m)(hn:n<np):FW np (n+1) m0 (F4 n np m np):=by
 have g:=TQ (np:=np) n m (h.s.diag n) h.s.ok np;have s:=h.s;have p:=λi k=>s.ok i k;refine ⟨⟨Rc s.ok,λi=>?_,λi k=>?_⟩,λc l i k a f=>?_,λi k=>?_⟩
 ·rw [g i i];have:=p i n;have:=p n i;have:=s.diag i;split <;> omega
 ·rw [g i k,g k i];have j:=s.sym i k;have o:=s.sym i n;have r:=s.sym k n;by_cases c:i<np/\k<np
  ·rw [bV c,bV ⟨c.2,c.1⟩];omega
  ·rw [bU c,bU (λe=>c ⟨e.2,e.1⟩)];exact j
 ·rw [g i k,g i c,g c k,bV ⟨a,f⟩,bV ⟨a,O⟩,bV ⟨O,f⟩];have d:=s.diag n
  have:=p i n
  have:=p n k
  have:=p n c
  have:=p c n
  rcases Nat.lt_or_ge c n with q | q
  ·have t1:=h.tri c q i k a f;have t2:=h.tri c q i n a hn;have t3:=h.tri c q n k hn f;omega
  ·have:c=n:=O
   subst this;omega
 ·rw [g i k];have:=h.le i k;split <;> omega
theorem FW.all{m0:FZ}(s:m0.Sym):∀n,n<=np->FW np n m0 (DR np m0 n)
 | 0,_=>⟨s,λc a=>absurd a (Nat.not_lt_zero _),λ_ _=>Int.le_refl _⟩
 | n+1,h=>by
  have d:=FW.all s n O;have e:DR np m0 (n+1)=F4 n np (DR np m0 n) np:=BO _ _ _;rw [e];exact d.step O
end
theorem VU(i:Nat)(m:FZ):∀n x y,IO i m n x y=if x=i/\y<n/\i≠y then 1048576 else m x y
 | 0,x,y=>by rw [bU O];rfl
 | n+1,x,y=>by
  have a:=VU i m n;have e:IO i m (n+1)=NK i (IO i m n) n:=BO _ _ _;rw [e];unfold NK;by_cases h:(i:Int)=(n:Int)
  ·rw [bU (λq=>q h),a x y];by_cases c:x=i/\y<n/\i≠y
   ·rw [bV c,bV ⟨c.1,O,c.2.2⟩]
   ·rw [bU c,bU (λq=>c ⟨q.1,O,q.2.2⟩)]
  ·rw [bV h];show (if x=i/\y=n then 1048576 else IO i m n x y)=_;by_cases c:x=i/\y=n
   ·rw [bV c,bV ⟨c.1,O,O⟩]
   ·rw [bU c,a x y];by_cases d:x=i/\y<n/\i≠y
    ·rw [bV d,bV ⟨d.1,O,d.2.2⟩]
    ·rw [bU d,bU (λq=>d ⟨q.1,O,q.2.2⟩)]
theorem L1:∀n x y,Jt n x y=if x<n/\y<4/\x≠y then 1048576 else 0
 | 0,x,y=>by rw [bU O];rfl
 | n+1,x,y=>by
  have a:=L1 n;have e:Jt (n+1)=IO n (Jt n) 4:=BO _ _ _;rw [e,VU,a x y];by_cases c:x=n/\y<4/\n≠y
  ·rw [bV c,bV ⟨O,c.2.1,O⟩]
  ·rw [bU c];by_cases d:x<n/\y<4/\x≠y
   ·rw [bV d,bV ⟨O,d.2⟩]
   ·rw [bU d,bU (λq=>O)]
theorem far0_sym:(Jt 4).Sym:=⟨far0_ok,λi=>by rw [L1,bU (λq=>q.2.2 rfl)],λi k=>by
 rw [L1,L1];by_cases c:i<4/\k<4/\i≠k
 ·rw [bV c,bV ⟨c.2.1,c.1,c.2.2.symm⟩]
 ·rw [bU c,bU (λq=>c ⟨q.2.1,q.1,q.2.2.symm⟩)]⟩
section
variable {p:AG} {ws:List AF} {np:Nat}
structure OS(ws:List AF):Prop where
 rng:∀k,k<ws.length->0<=(ws.getD k AF.z).a/\(ws.getD k AF.z).a<(ws.getD k AF.z).b
 one:∀j k,j<k->k<ws.length->¬((ws.getD j AF.z).a=(ws.getD k AF.z).a/\(ws.getD j AF.z).b=(ws.getD k AF.z).b)
theorem Jb(h:∀k,k<ws.length->Dx np ws k=0):OS ws:=by
 have f:∀k,k<ws.length->(0<=(ws.getD k AF.z).a)/\¬(ws.getD k AF.z).b<=(ws.getD k AF.z).a/\(ws.take k).any (λy=>decide (y.a=(ws.getD k AF.z).a/\y.b=(ws.getD k AF.z).b))=false:=λk g=>by
  have w:=(waysOK h k g).1.1
  have:=h k g
  unfold Dx at this;split at this
  ·rename_i a;exact absurd this a
  ·split at this
   ·cases this
   ·rename_i b
    split at this
    ·cases this
    ·rename_i c
     exact ⟨w,b,by simpa using c⟩
 refine ⟨λk g=>⟨(f k g).1,by have:=(f k g).2.1;omega⟩,λj k i g e=>?_⟩
 have:=(f k g).2.2
 rw [Yy (d:=AF.z) i O (decide_eq_true e)] at this;cases this
theorem NQ(m:FZ)(k x y:Nat)(hk:(ws.getD k AF.z).a.toNat≠(ws.getD k AF.z).b.toNat):Ll p ws m k x y=if (x=(ws.getD k AF.z).a.toNat/\y=(ws.getD k AF.z).b.toNat)\/(x=(ws.getD k AF.z).b.toNat/\y=(ws.getD k AF.z).a.toNat) then p.ways k else m x y:=by
 unfold Ll FZ.set;by_cases c:x=(ws.getD k AF.z).b.toNat/\y=(ws.getD k AF.z).a.toNat
 ·rw [bV c,bV (.inr c)]
 ·rw [bU c];by_cases d:x=(ws.getD k AF.z).a.toNat/\y=(ws.getD k AF.z).b.toNat
  ·rw [bV d,bV (.inl d)]
  ·rw [bU d,bU (λq=>q.elim d c)]
theorem L2(hp:Bt p)(hw:OS ws):∀n,n<=ws.length->(BU p ws n).Sym
 | 0,_=>far0_sym
 | n+1,h=>by
  have d:=L2 hp hw n O;have r:=hw.rng n O;have g:=λx y=>NQ (p:=p) (ws:=ws) (BU p ws n) n x y O;have e:BU p ws (n+1)=Ll p ws (BU p ws n) n:=BO _ _ _;refine ⟨NL hp,λi=>?_,λi k=>?_⟩
  ·rw [e,g,bU O];exact d.diag i
  ·rw [e,g,g];by_cases c:(i=(ws.getD n AF.z).a.toNat/\k=(ws.getD n AF.z).b.toNat)\/(i=(ws.getD n AF.z).b.toNat/\k=(ws.getD n AF.z).a.toNat)
   ·rw [bV c,bV O]
   ·rw [bU c,bU O];exact d.sym i k
theorem TR(hw:OS ws):∀n,n<=ws.length->∀k,k<n->BU p ws n (ws.getD k AF.z).a.toNat (ws.getD k AF.z).b.toNat=p.ways k
 | 0,_,k,c=>absurd c (Nat.not_lt_zero _)
 | n+1,h,k,c=>by
  have r:=hw.rng n O;have d:=hw.rng k O;have g:=λx y=>NQ (p:=p) (ws:=ws) (BU p ws n) n x y O;have e:BU p ws (n+1)=Ll p ws (BU p ws n) n:=BO _ _ _;rw [e,g];by_cases q:k=n
  ·subst q;rw [bV (.inl ⟨rfl,rfl⟩)]
  ·have one:=hw.one k n O O;rw [bU O];exact TR hw n O k O
theorem H4(hp:Bt p)(hw:OS ws):FW np np (BU p ws ws.length) (Ap np ws p):=FW.all (L2 hp hw _ (Nat.le_refl _)) np (Nat.le_refl _)
theorem farAll_way(hp:Bt p)(hw:OS ws){k:Nat}(hk:k<ws.length):Ap np ws p (ws.getD k AF.z).a.toNat (ws.getD k AF.z).b.toNat<=p.ways k:=by
 have:=(H4 (np:=np) hp hw).le (ws.getD k AF.z).a.toNat (ws.getD k AF.z).b.toNat
 rwa [TR hw _ (Nat.le_refl _) k hk] at this
end
end Go.Ns
namespace Go.Ns
section
variable {ws:List AF} {c:G2} {x:AF} {i n k np:Nat}
theorem L4(h:c i=true):GF c x i=true:=by
 unfold GF G2.set;by_cases e:i=x.b.toNat
 ·rw [bV e];by_cases d:x.b.toNat=x.a.toNat
  ·rw [bV d];rw [e,d] at h;rw [h];simp
  ·rw [bU d,<-e,h];simp
 ·rw [bU e];by_cases d:i=x.a.toNat
  ·rw [bV d,<-d,h];simp
  ·rw [bU d];exact h
theorem Y1(h:c x.a.toNat=true\/c x.b.toNat=true):GF c x x.a.toNat=true/\GF c x x.b.toNat=true:=by
 unfold GF G2.set;rcases h with h | h
 ·constructor
  ·by_cases e:x.a.toNat=x.b.toNat
   ·rw [bV e];simp [h]
   ·rw [bU e];simp [h]
  ·rw [bV rfl];simp [h]
 ·constructor
  ·by_cases e:x.a.toNat=x.b.toNat
   ·rw [bV e];simp [h]
   ·rw [bU e];simp [h]
  ·rw [bV rfl];simp [h]
theorem Ir:∀(l:List AF)(c:G2),c i=true->l.foldl GF c i=true
 | [],_,h=>h
 | x ::l,c,h=>Ir l _ (L4 h)
theorem Kt:∀(l:List AF)(c:G2),x ∈ l->(c x.a.toNat=true\/c x.b.toNat=true)->l.foldl GF c x.a.toNat=true/\l.foldl GF c x.b.toNat=true
 | y ::l,c,hx,h=>by
  rcases List.mem_cons.1 hx with e | hx
  ·subst e;have b:=Y1 h;exact ⟨Ir l _ b.1,Ir l _ b.2⟩
  ·exact Kt l _ hx (h.imp L4 L4)
theorem L5:∀n (c:G2),FB ws (n+1) c=IN ws (FB ws n c)
 | 0,_=>rfl
 | n+1,c=>L5 n (IN ws c)
theorem PQ{m:Nat}(h:FB ws n c i=true):∀d,m=n+d->FB ws m c i=true
 | 0,e=>by rw [e];exact h
 | d+1,e=>by
  rw [e,show n+(d+1)=(n+d)+1 by omega,L5];exact Ir ws _ (PQ h d rfl)
def c0:G2:=G2.none.set 0 true
def KB(ws:List AF)(l:List Int):Prop:=∀i,i<l.length->FB ws i c0 (l.getD i 0).toNat=true
theorem KB.snoc{l:List Int}{q:Int}(h:KB ws l)(hq:FB ws l.length c0 q.toNat=true):KB ws (l++[q]):=λi a=>by
 rw [List.length_append,List.length_singleton] at a;rw [J9];by_cases e:i<l.length
 ·rw [bV e];exact h i e
 ·rw [bU e,show i=l.length by omega,Nat.sub_self];exact hq
theorem KB.step{l:List Int}(h:KB ws l)(hk:k<l.length)(hx:x ∈ ws):KB ws (DY l k x):=by
 have one:∀{l:List Int}{p q:Int},KB ws l->k<l.length->(x.a=p/\x.b=q\/x.b=p/\x.a=q)->KB ws (IZ l k p q):=by
  intro l p q h hk d;unfold IZ;split
  ·rename_i e
   have f:=h k hk;rw [<-e.1] at f;have g:FB ws (k+1) c0 q.toNat=true:=by
    rw [L5];rcases d with ⟨rfl,rfl⟩ | ⟨rfl,rfl⟩
    ·exact (Kt ws _ hx (.inl f)).2
    ·exact (Kt ws _ hx (.inr f)).1
   exact h.snoc (PQ g (l.length-(k+1)) O)
  ·exact h
 have j:=one h hk (.inl ⟨rfl,rfl⟩);have m:=(JI l k x.a x.b).length_le;exact one j O (.inr ⟨rfl,rfl⟩)
theorem KB.ways{l:List Int}(h:KB ws l)(hk:k<l.length):∀j,j<=ws.length->KB ws (A6 ws l k j)
 | 0,_=>h
 | j+1,a=>(KB.ways h hk j O).step (Nat.lt_of_lt_of_le hk (Gv j).length_le) (CS O)
theorem PR:∀k,KB ws (BJ ws k)
 | 0=>λi a=>by
  have:i=0:=by
   have:i<1:=a
   omega
  subst this;rfl
 | k+1=>by
  unfold BJ;split
  ·rename_i e;exact (PR k).ways e _ (Nat.le_refl _)
  ·exact PR k
theorem XF(hn:0<np)(hw:NP np ws)(h:¬(Di ws).length<np):FY np ws=0:=by
 have g:IR np (Di ws):=KA hn hw 4;have q:=g.len;have all:∀y,y<np->FB ws np c0 y=true:=λy j=>by
  have a:(y:Int) ∈ Di ws:=Decidable.byContradiction λe=>by
   have:=(g.snoc (x:=(y:Int)) ⟨O,O⟩ e).len
   rw [List.length_append,List.length_singleton] at this;omega
  obtain ⟨i,d,e⟩:=List.mem_iff_getElem.1 a;have f:FB ws i c0 ((Di ws).getD i 0).toNat=true:=PR (ws:=ws) 4 i d;have o:(Di ws).getD i 0=(y:Int):=by
   rw [List.getD_eq_getElem?_getD,List.getElem?_eq_getElem d];exact e
  rw [o] at f;exact PQ f (np-i) (by have p:i<(Di ws).length:=d;omega)
 unfold FY;rw [bU];intro e;obtain ⟨b,l,m⟩:=List.any_eq_true.1 e;unfold OB at l;obtain ⟨y,j,rfl⟩:=List.mem_map.1 l
 have:FB ws np (G2.none.set 0 true) y=true:=all y (List.mem_range.1 j)
 rw [this] at m;cases m
end
section
variable {bP bO:Int} {ps:List bY} {ws:List AF} {js:List AY} {ns:List AO}
end
end Go.Ns
namespace Go.Ns
open Go.Conc
section
variable {P:Program} {E:Ho P} {V:Nat->bW} {ds:List Deferred} {h:A} {bN:(Nat->bW)->List Deferred->A->Prop} {dst:Option Nat} {ty:bX} {pos:String} {af:Array Edge} {gd:Option (Nat×Bool)}
end
section
variable {F G:AG->Int} {l:List AG} {x:AG}
theorem Y3{k:Nat}:(l.drop 1).getD k AG.zero=l.getD (k+1) AG.zero:=by
 rw [List.getD_eq_getElem?_getD,List.getElem?_drop,<-List.getD_eq_getElem?_getD,Nat.add_comm]
end
section
variable {bP bO:Int} {ps:List bY} {ws:List AF} {js:List AY} {ns:List AO} {a b c:Int}
end
section
variable {bP bO:Int} {ps:List bY} {ws:List AF} {js:List AY} {ns:List AO} {a b c s:Int}
end
end Go.Ns
namespace Go.Ns
open Go.Conc
section
variable {P:Program} {Post:bW->World->Prop}
def mainW(P:Program)(Post:bW->World->Prop):Wk P:=⟨true,E5 P Post,Mm⟩
theorem XG:NF (mainW P Post):=⟨Post,rfl⟩
theorem top_of_tr{f:FuncId}{fn:Func}{c:Code}{args:Array bW}{h:A}{R:bW->A->Prop}(hf:P.funcs[f]? =some fn)(hb:fn.body=some c)(hsz:args.size<=fn.ntmps)(hin:P.inits.idxOf? f=none)(hpost:∀v h',R v h'->∀w,FJ w h'->Post v w)
  (x:Tr ⟨mainW P Post,f,none,fn.ntmps⟩ c (λi=>args.getD i undef) [] h (λe V ds h'=>(e=.normal\/e=.ret)/\Hp P fn V R ds h')):E5 P Post (G (Frame.enter P f args .normal) []) h:=by
 have u:Frame.enter P f args .normal=DT (Frame.enter P f args .normal) (args++Array.replicate (fn.ntmps-args.size) undef) [] [.code c]:=by
  simp [Frame.enter,DT,hf,hb]
 rw [u];let y:Lv:=λj t ds h'=>(j=none\/j=some .ret)/\∃V,CE t fn.ntmps V/\Hp P fn V R ds h';have d:∀V ds h' t k,CE t fn.ntmps V->Hp P fn V R ds h'->(mainW P Post).K (G (F2 (Frame.enter P f args .normal) t ds k) []) h':=by
  intro V ds h' t k g a;refine Pv (W:=mainW P Post) (R:=R) hf (b:=Frame.enter P f args .normal) rfl (λt k v h h' z l=>?_) ds h' t k g a;refine Z2 rfl λw C=>?_;obtain ⟨p,q,D,r⟩:=l w C;refine ⟨v,p,seen P f q++ #[],h',?_,r.sub (es':=seen P f q++ #[]) λe n=>?_,hpost v h' z p r.fits⟩
  ·rw [M6];unfold unwind;have o:(F2 (Frame.enter P f args .normal) t [] k).fn=f:=rfl;have E:(F2 (Frame.enter P f args .normal) t [] k).kind=.normal:=rfl;have F:(F2 (Frame.enter P f args .normal) t [] k).mode=.returning:=rfl;have H:(F2 (Frame.enter P f args .normal) t [] k).defers=[]:=rfl;have I:(F2 (Frame.enter P f args .normal) t [] k).tmps=t:=rfl;simp only [H,F,o,hf,I,D,GStep.after,doReturn,E,hin];rfl
  ·rw [Array.append_empty] at n;exact mem_seen n
 refine x (Frame.enter P f args .normal) [] [] y _ rfl rfl ⟨?_,?_,?_⟩ ⟨by simp;omega,λi=>?_⟩ ?_
 ·rintro t ds h' ⟨_,V,g,a⟩;exact Wk.go (F2 (Frame.enter P f args .normal) t ds []) (λw=>by rw [Bc];simp [stepG.exec,DT,F2,G,Frame.enter]) (d V ds h' t [] g a)
 ·rintro t ds h' k ⟨_,V,g,a⟩;exact Wk.go (F2 (Frame.enter P f args .normal) t ds (.code .ret ::k)) (λw=>by rw [Bc];simp [stepG.exec,DT,F2,G,Frame.enter]) (d V ds h' t _ g a)
 ·rintro id t ds h' k _ ⟨h1 | h1,_⟩ <;> cases h1
 ·by_cases M:i<args.size
  ·simp [Array.getD_eq_getD_getElem?,Array.getElem?_append_left M]
  ·simp only [Array.getD_eq_getD_getElem?];rw [Array.getElem?_append_right O,Array.getElem?_eq_none (show args.size<=i by omega),Array.getElem?_replicate];split <;> rfl
 ·rintro e V ds h' ⟨n,a⟩ s m;rcases n with rfl | rfl
  ·exact Wk.go (F2 (Frame.enter P f args .normal) s ds []) (λw=>by rw [Bc];simp [stepG.exec,DT,F2,G,Frame.enter]) (d V ds h' s [] m a)
  ·exact ⟨.inr rfl,V,m,a⟩
def A.of(W:World):A:=λb=>(W.heap[b]?).map λo=>(false,o)
theorem A.of_some{W:World}{b:Nat}{o:Obj}(h:W.heap[b]? =some o):A.of W b=some (false,o):=by unfold A.of;rw [h];rfl
theorem fits_of(W:World):FJ W (A.of W):=λb p o h=>by
 unfold A.of at h;cases e:W.heap[b]? with
 | none=>rw [e] at h;cases h
 | some x=>rw [e] at h;cases h;rfl
theorem kept_of{W w:World}{h:A}(l:(A.of W).Le h)(f:FJ w h){b:Nat}{o:Obj}(hb:W.heap[b]? =some o):w.heap[b]? =some o:=f b _ _ (l.keep (A.of_some hb) rfl)
theorem start_runs{g:Goroutine}{W:World}(hg:E5 P Post g (A.of W)):CX P (KP Post W.os W.output) (solo g W) #[]:=by
 have c:∀k a,touchAt (#[]:Trace) k=some a->False:=λk a h=>by
  obtain ⟨e,l,_⟩:=touch_of h;simp at l
 refine hg #[g] W none (λ_=>0) #[] ⟨rfl,?_,fits_of W,?_,?_,λk a b d=>(c k a d).elim,?_,λk a d=>(c k a d).elim,λb p o k a _ _ d=>(c k a d).elim⟩
 ·intro j x q f;rw [Array.getElem?_eq_none (by simp;omega)] at f;cases f
 ·intro e DL;simp at DL
 ·rintro said ⟨i,j,m,⟨a,b,n,_⟩,_⟩;exact c i a n
 ·intro e DL;simp at DL
end
end Go.Ns
namespace Go.Ns
open Go.Conc Go.ChangeShapes Go.WideShapes Go.ChangeAt Go.RowKit
section
variable {P:Program} {W:World}
theorem TT{b off n:Nat}{cs:List bW}(h:W.cells? 0 ⟨b,off,none⟩ n=some cs)(hn:0<n):Ao (A.of W) b off n cs.toArray:=by
 obtain ⟨_,p,k⟩:=World.cells?_some h;have hcell:∀i,i<n->W.cell? ⟨b,off+i,none⟩=cs[i]? :=λi d=>by
  have:=k i d
  unfold Addr.add at this;split at this
  ·rename_i e;subst e;exact this
  ·exact this
 have j:=hcell 0 hn;unfold World.cell? at j;cases g:W.heap[b]? with
 | none=>simp [g,List.getElem?_eq_getElem (show 0<cs.length by omega)] at j
 | some o=>
  cases o with
  | cells c t f=>
   have a:∀i,i<n->c[off+i]? =cs[i]? :=λi d=>by
    have:=hcell i d
    unfold World.cell? at this;simpa [g] using this
   have hlast:=a (n-1) O;rw [List.getElem?_eq_getElem (show n-1<cs.length by omega)] at hlast;have l:=(Array.getElem?_eq_some_iff.1 hlast).1;refine ⟨false,c,t,f,A.of_some g,O,?_⟩;apply Array.ext
   ·simp;omega
   ·intro i q m;have d:i<n:=by simp at m;omega
    have:=a i d
    rw [Array.getElem?_eq_getElem O,List.getElem?_eq_getElem O] at this;simpa using this
  | _=>simp [g,List.getElem?_eq_getElem (show 0<cs.length by omega)] at j
def Opens(P:Program)(e:bX){α:Type}(enc:α->Array bW)(good:α->Prop):Prop:=
 ∀{H:Type}(en:bX×bW->H)(W:World)(base:Nat)(sp:Nat->Bool)(held:Bool)(fuel:Nat)(cs:List bW)(x:DataW H×List MemPlace),DataW.trod en P W base sp held fuel e cs=some x->∃a:α,cs=(enc a).toList/\good a
theorem open_sl{H:Type}{en:bX×bW->H}{sp:Nat->Bool}{held:Bool}{fuel:Nat}{t e:bX}{n:Nat}{α:Type}{enc:α->Array bW}{good:α->Prop}{v:bW}{d:DataW H}{ps:List MemPlace}(ht:P.underlying t=some (.slice e))(hc:P.cellsOf e=n)(hn:0<n)
  (ho:Opens P e enc good) (h:DataW.trod en P W 0 sp held fuel t [v]=some (d,ps)) (hw:∀es rs,d=.slice es rs->es.length<=140737488355328):∃xs:List α,Ai (A.of W) v n enc xs/\∀x ∈ xs,good x:=by
 rcases DataW.trod_slice ht h with ⟨o,_⟩ | ⟨a,f,p,elems,rest,m,rfl,o,E,_,I,_,q,r,_,_⟩
 ·simp at o;subst o;exact ⟨[],Ai.nil _ _ _,λx j=>by cases j⟩
 ·simp only [List.cons.injEq,and_true] at o;subst o;simp only [Prod.mk.injEq] at E;have s:f<=140737488355328:=by
   have:=hw _ _ E.1
   simpa [q] using this
  have each:∀i,i<f->∃x:α,∃b c,a=⟨b,c,none⟩/\Ao (A.of W) b (c+i*n) n (enc x)/\good x:=λi l=>by
   have:=r i l
   rw [List.getElem?_eq_getElem O,hc] at this;simp only [Option.bind_eq_some_iff] at this;obtain ⟨K,g,j⟩:=this;obtain ⟨x,w,y⟩:=ho _ _ _ _ _ _ _ _ j;have u:=(World.cells?_some g).2.2 0 hn;have C:=(World.cells?_some g).2.1;rw [List.getElem?_eq_getElem (show 0<K.length by omega)] at u;have D:=World.cell?_spot u;obtain ⟨b,c,spot⟩:=a;have hspot:spot=none\/i≠0:=by
    by_cases F:i=0
    ·subst F;left;simpa [Addr.add] using D
    ·exact .inr F
   have hfirst:spot=none:=by
    rcases hspot with e | e
    ·exact e
    ·have h00:=r 0 O;rw [List.getElem?_eq_getElem O,hc] at h00;simp only [Option.bind_eq_some_iff] at h00;obtain ⟨c0,hc00,_⟩:=h00;have z:=(World.cells?_some hc00).2.2 0 hn;have R:=(World.cells?_some hc00).2.1;rw [List.getElem?_eq_getElem (show 0<c0.length by omega)] at z
     have:=World.cell?_spot z
     simpa [Addr.add] using this
   subst hfirst;refine ⟨x,b,c,rfl,?_,y⟩;have M:(Addr.add ⟨b,c,none⟩ (i*n))=⟨b,c+i*n,none⟩:=by
    unfold Addr.add;split
    ·rename_i e;rw [e];rfl
    ·rfl
   rw [M] at g
   have:=TT g hn
   rw [w] at this;simpa using this
  by_cases N:f=0
  ·subst N;exact ⟨[],⟨some a,p,rfl,Nat.zero_le _,Nat.zero_le _,λi l=>by simp at l⟩,λx j=>by cases j⟩
  ·have k:∀i:Fin f,∃x:α,∃b c,a=⟨b,c,none⟩/\Ao (A.of W) b (c+i.val*n) n (enc x)/\good x:=λi=>each i.val i.isLt;refine ⟨List.ofFn λi=>Classical.choose (k i),⟨some a,p,by rw [List.length_ofFn],by rw [List.length_ofFn];exact I,by rw [List.length_ofFn];exact s,λi l=>?_⟩,λx j=>?_⟩
   ·rw [List.length_ofFn] at l;obtain ⟨b,c,w,y,_⟩:=Classical.choose_spec (k ⟨i,l⟩);refine ⟨b,c,by rw [w],?_⟩;rw [List.getElem_ofFn];exact y
   ·obtain ⟨i,rfl⟩:=List.mem_ofFn.1 j;obtain ⟨_,_,_,_,Q⟩:=Classical.choose_spec (k i);exact Q
def PS(P:Program)(W:World)(e:bX){α:Type}(enc:α->Array bW)(good:α->Prop):Prop:=
 ∀{H:Type}(en:bX×bW->H)(sp:Nat->Bool)(held:Bool)(fuel:Nat)(cs:List bW)(x:DataW H×List MemPlace),DataW.trod en P W 0 sp held fuel e cs=some x->(∀y ∈ x.1.weights P e,y<=reachBytes)->∃a:α,cs=(enc a).toList/\good a
theorem L6{H:Type}{e:bX}{d:DataW H}{y:Nat}:∀{l:List (DataW H)},d ∈ l->y ∈ d.weights P e->y ∈ DataW.weightsAll P e l
 | c ::l,hd,a=>by
  unfold DataW.weightsAll;rcases List.mem_cons.1 hd with rfl | hd
  ·exact List.mem_append_left _ a
  ·exact List.mem_append_right _ (L6 hd a)
theorem KC{H:Type}{en:bX×bW->H}{sp:Nat->Bool}{held:Bool}{fuel:Nat}{t e:bX}{n:Nat}{α:Type}{enc:α->Array bW}{good:α->Prop}{v:bW}{d:DataW H}{ps:List MemPlace}(ht:P.underlying t=some (.slice e))(hc:P.cellsOf e=n)(hn:0<n)
  (hb:1<=P.bytesOf e) (ho:PS P W e enc good) (h:DataW.trod en P W 0 sp held fuel t [v]=some (d,ps)) (hw:∀y ∈ d.weights P t,y<=reachBytes):∃xs:List α,Ai (A.of W) v n enc xs/\∀x ∈ xs,good x:=by
 rcases DataW.trod_slice ht h with ⟨o,_⟩ | ⟨a,f,p,elems,rest,m,rfl,o,E,_,N,_,F,q,_,_⟩
 ·simp at o;subst o;exact ⟨[],Ai.nil _ _ _,λx j=>by cases j⟩
 ·simp only [List.cons.injEq,and_true] at o;subst o;simp only [Prod.mk.injEq] at E;have I:d=.slice (elems.map (·.1)) (rest.map (·.1)):=E.1;have r:f<=140737488355328:=by
   have:=hw ((elems.map (·.1)).length+(rest.map (·.1)).length |>.mul (P.bytesOf e)) (by rw [I];unfold DataW.weights;rw [ht];exact List.mem_cons_self ..)
   have Q:(elems.map (·.1)).length+(rest.map (·.1)).length<=((elems.map (·.1)).length+(rest.map (·.1)).length)*P.bytesOf e:=Nat.le_mul_of_pos_right _ hb;have K:((elems.map (·.1)).length+(rest.map (·.1)).length)*P.bytesOf e<=reachBytes:=this;rw [List.length_map] at Q K;unfold reachBytes at K;omega
  have each:∀i,i<f->∃x:α,∃b c,a=⟨b,c,none⟩/\Ao (A.of W) b (c+i*n) n (enc x)/\good x:=λi l=>by
   have:=q i l
   rw [List.getElem?_eq_getElem O,hc] at this;simp only [Option.bind_eq_some_iff] at this;obtain ⟨R,g,j⟩:=this;obtain ⟨x,u,w⟩:=ho _ _ _ _ _ _ j λy V=>hw y (by rw [I];unfold DataW.weights;rw [ht];exact List.mem_cons_of_mem _ (List.mem_append_left _ (L6 (List.mem_map.2 ⟨_,List.getElem_mem (show i<elems.length by omega),rfl⟩) V)));have s:=(World.cells?_some g).2.2 0 hn;have C:=(World.cells?_some g).2.1;rw [List.getElem?_eq_getElem (show 0<R.length by omega)] at s;have D:=World.cell?_spot s;obtain ⟨b,c,spot⟩:=a;have hspot:spot=none\/i≠0:=by
    by_cases M:i=0
    ·subst M;left;simpa [Addr.add] using D
    ·exact .inr M
   have hfirst:spot=none:=by
    rcases hspot with e | e
    ·exact e
    ·have h00:=q 0 O;rw [List.getElem?_eq_getElem O,hc] at h00;simp only [Option.bind_eq_some_iff] at h00;obtain ⟨c0,hc00,_⟩:=h00;have z:=(World.cells?_some hc00).2.2 0 hn;have zl:=(World.cells?_some hc00).2.1;rw [List.getElem?_eq_getElem (show 0<c0.length by omega)] at z
     have:=World.cell?_spot z
     simpa [Addr.add] using this
   subst hfirst;refine ⟨x,b,c,rfl,?_,w⟩;have X:(Addr.add ⟨b,c,none⟩ (i*n))=⟨b,c+i*n,none⟩:=by
    unfold Addr.add;split
    ·rename_i e;rw [e];rfl
    ·rfl
   rw [X] at g
   have:=TT g hn
   rw [u] at this;simpa using this
  by_cases Y:f=0
  ·subst Y;exact ⟨[],⟨some a,p,rfl,Nat.zero_le _,Nat.zero_le _,λi l=>by simp at l⟩,λx j=>by cases j⟩
  ·have k:∀i:Fin f,∃x:α,∃b c,a=⟨b,c,none⟩/\Ao (A.of W) b (c+i.val*n) n (enc x)/\good x:=λi=>each i.val i.isLt;refine ⟨List.ofFn λi=>Classical.choose (k i),⟨some a,p,by rw [List.length_ofFn],by rw [List.length_ofFn];exact N,by rw [List.length_ofFn];exact r,λi l=>?_⟩,λx j=>?_⟩
   ·rw [List.length_ofFn] at l;obtain ⟨b,c,u,w,_⟩:=Classical.choose_spec (k ⟨i,l⟩);refine ⟨b,c,by rw [u],?_⟩;rw [List.getElem_ofFn];exact w
   ·obtain ⟨i,rfl⟩:=List.mem_ofFn.1 j;obtain ⟨_,_,_,_,e3⟩:=Classical.choose_spec (k i);exact e3
theorem KD{H:Type}{en:bX×bW->H}{t:bX}(hl:laidOutB P=true)(hr:P.readableRec t=true)(hrow:t<P.types.size){W':World}{v:bW}{d:DataW H}{ps:List MemPlace}(h:DataW.Trod en P W 0 (λ_=>true) true t v d ps)
  (hk:∀(b:Nat)(o:Obj),W.heap[b]? =some o->W'.heap[b]? =some o) (hlt:∀x ∈ ps,x.block<W.heap.size):DataW.Trod en P W' 0 (λb=>decide (b<W.heap.size)) true t v d ps:=by
 let W2:World:={ W' with os:=W.os,tape:=W.tape,output:=W.output };have c:W.heap.size<=W'.heap.size:=by
  rcases Nat.lt_or_ge W'.heap.size W.heap.size with x | x
  ·have:=hk W'.heap.size _ (Array.getElem?_eq_getElem x)
   rw [Array.getElem?_eq_none (Nat.le_refl _)] at this;cases this
  ·exact x
 have e:Below W.heap.size W W2:=⟨rfl,rfl,rfl,c,λk a=>by
  show W'.heap[k]? =_;rw [Array.getElem?_eq_getElem a];exact hk k _ (Array.getElem?_eq_getElem a)⟩
 exact DataW.Trod.of_heap (w:=W2) (w':=W') rfl (Below.trod hl hr hrow h e hlt)
theorem kept_but{W':World}(hk:∀(b:Nat)(o:Obj),W.heap[b]? =some o->W'.heap[b]? =some o)(ho:W'.os=W.os)(hp:W'.output=W.output)(may:MemPlace->Prop):W.keptBut W' may:=by
 refine ⟨ho,hp,λi a=>?_⟩;rw [hk i _ (Array.getElem?_eq_getElem a),Array.getElem?_eq_getElem a];split <;> simp_all
end
end Go.Ns
namespace Go.Ns
open Go.Conc
theorem TU{P:Program}{E:Ho P}{V:Nat->bW}{ds:List Deferred}{h:A}{bN:(Nat->bW)->List Deferred->A->Prop}{dst:Option Nat}{ty:bX}{pos:String}{af:Array Edge}{gd:Option (Nat×Bool)}{α:Type}
  {s x:bX} {o1 o2:Operand} {h0:A} {w:bW} {r e n bytes:Nat} {enc:α->Array bW} {ys:List α} (ht:JU P s x=some (e,n,bytes)) (h1:Ag V o1=.slice (some ⟨r,0,none⟩) 0 0) (h2:Ag V o2=w)
  (hv:Ae h0 h (.slice (some ⟨r,0,none⟩) 0 0) e n enc ([]:List α)) (hw:Ai h w n enc ys) (l0:∀q,h q=none->h0 q=none) (hb:(2*(([]:List α).length+ys.length)+512)*bytes<=2 ^ 48) (hfine:∀y ∈ ys,(enc y).toList.all (·.oneCell')=true)
  (k:∀v' h',Ae h0 h' v' e n enc ys->HQ h h' (.slice (some ⟨r,0,none⟩) 0 0) v'->h.Le h'->bN (putS V dst v') ds h'):B9 E ⟨dst,.call ⟨.builtin .append,#[o1,o2],#[s,x]⟩,ty,pos,af,gd⟩ V ds h bN:=
 R8 ht h1 h2 hv hw l0 hb hfine λv' h' o a f g=>k v' h' o ⟨a,f⟩ (.of λb y hb=>by
  by_cases e:b=r
  ·subst e;rcases hv with ⟨q,_⟩ | ⟨m,i,c,q,_,d,p,_⟩
   ·cases q
   ·simp only [Value.slice.injEq,Option.some.injEq,Addr.mk.injEq,and_true] at q;obtain ⟨rfl,_,rfl⟩:=q;obtain ⟨j,l,t⟩:=g b c rfl d;rw [d] at hb;cases hb;rw [l,Array.eq_empty_of_size_eq_zero (show c.size=0 by omega),Array.eq_empty_of_size_eq_zero (show j.size=0 by omega)]
  ·exact a b y hb λq=>e (by simpa [DH] using q.symm))
section
variable {n i:Nat} {l kn rest:List Int}
end
section
variable {n:Nat} {a b:List Sl}
end
section
variable {l:List Int} {i q:Nat}
end
section
variable {bP bO:Int} {ps:List bY} {ws:List AF} {js:List AY} {ns:List AO} {l:List Int} {p:AG} {i:Nat}
end
section
variable {F G:AG->Int} {l:List AG}
end
section
variable {bP bO:Int} {ps:List bY} {ws:List AF} {js:List AY} {ns:List AO} {l:List Int} {i k:Nat}
end
end Go.Ns
namespace Go.Ns
section
variable {bP bO:Int} {ps:List bY} {ws:List AF} {js:List AY} {ns:List AO} {r l:List Int} {i k:Nat} {s:Int}
end
end Go.Ns
namespace Go.Ns
section
variable {a b c:List Int} {x y:Int}
end
section
variable {jobs l r:List Int} {f n:Nat}
end
section
variable {g pre:List (List Int)} {x:List Int}
end
section
variable {G:List Int->Int} {l:List (List Int)}
end
end Go.Ns
namespace Go.Ns
section
variable {c:G2} {q i:Nat} {x:Int}
end
section
variable {bP bO:Int} {ps:List bY} {ws:List AF} {js:List AY} {ns:List AO} {r:List Int} {k:Nat} {x:Int}
end
end Go.Ns
namespace Go.Ns
theorem asc_ext{l l':List Int}(h:l.Pairwise (· < ·))(h':l'.Pairwise (· < ·))(e:∀x,x ∈ l↔x ∈ l'):l=l':=by
 induction l generalizing l' with
 | nil=>
  cases l' with
  | nil=>rfl
  | cons y l'=>exact absurd ((e y).2 List.mem_cons_self) aG
 | cons x l c=>
  cases l' with
  | nil=>exact absurd ((e x).1 List.mem_cons_self) aG
  | cons y l'=>
   rw [List.pairwise_cons] at h h';have b:x=y:=by
    rcases List.mem_cons.1 ((e x).1 List.mem_cons_self) with q | q
    ·exact q
    ·rcases List.mem_cons.1 ((e y).2 List.mem_cons_self) with q' | q'
     ·exact q'.symm
     ·have d:=h.1 y q';have f:=h'.1 x q;omega
   subst b;congr 1;refine c h.2 h'.2 λz=>⟨λa=>?_,λa=>?_⟩
   ·rcases List.mem_cons.1 ((e z).1 (List.mem_cons_of_mem _ a)) with rfl | q
    ·exact absurd (h.1 z a) O
    ·exact q
   ·rcases List.mem_cons.1 ((e z).2 (List.mem_cons_of_mem _ a)) with rfl | q
    ·exact absurd (h'.1 z a) O
    ·exact q
theorem ins_at{s l:List Int}{x:Int}{k i:Nat}(ha:s.Pairwise (· < ·))(hm:∀y,y ∈ s↔y ∈ l.take i)(hi:i<l.length)(hx:l.getD i 0=x)(hk:k<=s.length)(hge:∀j,k<=j->j<s.length->x<=s.getD j 0)(hlt:k=0\/s.getD (k-1) 0<x)(hne:¬(k<s.length/\s.getD k 0=x)) :
  (s.take k++[x]++s.drop k).Pairwise (· < ·)/\∀y,y ∈ s.take k++[x]++s.drop k↔y ∈ l.take (i+1):=by
 have p:s=s.take k++s.drop k:=(List.take_append_drop k s).symm;have f:=ha;rw [p] at f;obtain ⟨r,t,u⟩:=List.pairwise_append.1 f;have mono:∀a b,a<b->b<s.length->s.getD a 0<s.getD b 0:=λa b m c=>by
  rw [Cy 0 O,Cy 0 c];exact List.pairwise_iff_getElem.1 ha a b O c m
 have v:∀y ∈ s.take k,y<x:=λy n=>by
  obtain ⟨j,w,e⟩:=List.mem_take_iff_getElem.1 n;have g:j<s.length:=O
  rcases hlt with rfl | hlt
  ·omega
  ·by_cases q:j=k-1
   ·rw [<-e,<-Cy 0 g,q];exact hlt
   ·have:=mono j (k-1) O O
    rw [<-e,<-Cy 0 g];omega
 have o:∀y ∈ s.drop k,x<y:=λy n=>by
  obtain ⟨j,w,e⟩:=List.mem_drop_iff_getElem.1 n;have d:k<s.length:=O
  have z:=hge k (Nat.le_refl _) d;have C:s.getD k 0≠x:=λe=>hne ⟨d,e⟩;by_cases q:j=0
  ·subst q
   have:s.getD k 0=y:=by rw [Cy 0 d,<-e];simp
   omega
  ·have D:=mono k (k+j) O O
   have:s.getD (k+j) 0=y:=by rw [Cy 0 O,<-e]
   omega
 refine ⟨List.pairwise_append.2 ⟨List.pairwise_append.2 ⟨r,List.pairwise_singleton ..,λa h b c=>by rw [List.mem_singleton.1 c];exact v a h⟩,t,λa h b c=>?_⟩,λy=>?_⟩
 ·rcases List.mem_append.1 h with h | h
  ·exact u a h b c
  ·rw [List.mem_singleton.1 h];exact o b c
 ·have e:y ∈ s↔y ∈ s.take k\/y ∈ s.drop k:=by rw [<-List.mem_append,<-p]
  rw [DF 0 hi,hx];simp only [List.mem_append,List.mem_singleton,<-hm y,e];constructor
  ·rintro ((h | h) | h)
   ·exact .inl (.inl h)
   ·exact .inr h
   ·exact .inl (.inr h)
  ·rintro ((h | h) | h)
   ·exact .inl (.inl h)
   ·exact .inr h
   ·exact .inl (.inr h)
theorem ins_had{s l:List Int}{x:Int}{k i:Nat}(hm:∀y,y ∈ s↔y ∈ l.take i)(hi:i<l.length)(hx:l.getD i 0=x)(h:k<s.length/\s.getD k 0=x):∀y,y ∈ s↔y ∈ l.take (i+1):=λy=>by
 rw [DF 0 hi,hx,List.mem_append,List.mem_singleton,<-hm y];exact ⟨.inl,λq=>q.elim id λe=>by rw [e,<-h.2];exact CS h.1⟩
theorem ge_next{s:List Int}{x:Int}{k:Nat}(h:∀j,k<=j->j<s.length->x<=s.getD j 0)(hk:0<k)(hx:x<=s.getD ((k:Int)-1).toNat 0):∀j,k-1<=j->j<s.length->x<=s.getD j 0:=λj b a=>by
 by_cases q:j=k-1
 ·rw [show ((k:Int)-1).toNat=k-1 by omega] at hx;rw [q];exact hx
 ·exact h j O a
section
variable {nj:Nat} {l:List Int} {k:Nat}
theorem cr6(h:¬(0<=l.getD k 0/\l.getD k 0<=(nj:Int)-1)):Fb nj l k=6:=by
 have e:CJ nj (l.getD k 0)=6:=bV h;unfold Fb;rw [e,bV aF]
theorem cr5(h:0<=l.getD k 0/\l.getD k 0<=(nj:Int)-1)(hm:l.getD k 0 ∈ l.take k):Fb nj l k=5:=by
 have e:CJ nj (l.getD k 0)=0:=bU (λq=>q h);unfold Fb;rw [e,bU aG,bV];exact List.any_eq_true.2 ⟨_,hm,decide_eq_true rfl⟩
theorem cr0(h:0<=l.getD k 0/\l.getD k 0<=(nj:Int)-1)(hm:¬l.getD k 0 ∈ l.take k):Fb nj l k=0:=by
 have e:CJ nj (l.getD k 0)=0:=bU (λq=>q h);unfold Fb;rw [e,bU aG,bU];intro q;obtain ⟨x,a,b⟩:=List.any_eq_true.1 q;exact hm (by rw [of_decide_eq_true b];exact a)
end
section
variable {jobs l r q:List Int} {f n:Nat}
theorem sortI_mem{y:Int}:y ∈ EV l↔y ∈ l:=by rw [J4];exact List.mem_mergeSort
end
section
variable {bP bO:Int} {ps:List bY} {ws:List AF} {js:List AY} {ns:List AO} {r o:List Int}
end
end Go.Ns
namespace Go.Ns
def wA(ws:List AF)(k:Nat):Nat:=(ws.getD k AF.z).a.toNat
def wB(ws:List AF)(k:Nat):Nat:=(ws.getD k AF.z).b.toNat
def OT(ws:List AF)(p:AG)(u v:Nat)(w:Int):Prop:=∃k,k<ws.length/\(wA ws k=u/\wB ws k=v\/wA ws k=v/\wB ws k=u)/\w=p.ways k
inductive Ni (ws:List AF) (p:AG) (x:Nat):Nat->Nat->Int->Prop
 | nil:Ni ws p x 0 x 0
 | step {k u v:Nat} {d w:Int}:Ni ws p x k u d->OT ws p u v w->Ni ws p x (k+1) v (d+w)
section
variable {ws:List AF} {p:AG} {x y z u v k l np:Nat} {d e w:Int}
theorem OT.symm(h:OT ws p u v w):OT ws p v u w:=by
 obtain ⟨k,a,b,c⟩:=h;exact ⟨k,a,b.symm,c⟩
theorem Ni.append(h:Ni ws p x k y d)(g:Ni ws p y l z e):Ni ws p x (k+l) z (d+e):=by
 induction g with
 | nil=>rw [Int.add_zero];exact h
 | step _ c a=>
  have:=a.step c
  rwa [Int.add_assoc,Nat.add_assoc] at this
theorem Ni.symm(h:Ni ws p x k y d):Ni ws p y k x d:=by
 induction h with
 | nil=>exact .nil
 | @step k u v d w _ c a=>
  have:=(Ni.step (.nil (x:=v)) c.symm).append a
  rw [Int.zero_add] at this
  rwa [Nat.add_comm k 1,Int.add_comm d w]
theorem Ni.le(hp:Bt p)(h:Ni ws p x k y d):0<=d/\d<=30*(k:Int):=by
 induction h with
 | nil=>exact ⟨Int.le_refl _,Int.le_refl _⟩
 | step _ c a=>
  obtain ⟨q,_,_,rfl⟩:=c
  have:=hp.ways q
  omega
theorem DL{Q:Nat->Nat->Prop}(hQ:∀k v,v<np->Q (k+1) v->∃u,u<np/\Q k u/\∀j,Q j u->Q (j+1) v)(hv:v<np)(h:Q k v):∃j,j<np/\Q j v:=by
 have o:∀k v,v<np->Q k v->∃j,Q j v/\∀i,i<j->¬Q i v:=by
  intro k
  induction k using Nat.strongRecOn with
  | _ k r=>
   intro v hv h;by_cases c:∃i,i<k/\Q i v
   ·obtain ⟨i,b,g⟩:=c;exact r i b v hv g
   ·exact ⟨k,h,λi m q=>c ⟨i,m,q⟩⟩
 have chain:∀j v,v<np->Q j v->(∀i,i<j->¬Q i v)->∃f:Nat->Nat,∀i,i<=j->f i<np/\Q i (f i)/\∀t,t<i->¬Q t (f i):=by
  intro j
  induction j with
  | zero=>exact λv hv h _=>⟨λ_=>v,λi m=>by rw [show i=0 by omega];exact ⟨hv,h,λt C=>absurd C (Nat.not_lt_zero _)⟩⟩
  | succ j r=>
   intro v hv h D;obtain ⟨u,E,b,g⟩:=hQ j v hv h;obtain ⟨f,n⟩:=r u E b λi m q=>D (i+1) O (g i q);refine ⟨λi=>if i=j+1 then v else f i,λi m=>?_⟩;by_cases e:i=j+1
   ·subst e;simp only [if_true];exact ⟨hv,h,D⟩
   ·simp only [bU e];exact n i O
 obtain ⟨j,b,g⟩:=o k v hv h;obtain ⟨f,n⟩:=chain j v hv b g
 have:=Sw np (j+1) f (λi m=>(n i O).1) λi t s C e=>by
  have a:=(n i O).2.1;rw [e] at a;exact (n t O).2.2 i s a
 exact ⟨j,O,b⟩
end
section
variable {bP bO:Int} {ps:List bY} {ws:List AF} {js:List AY} {ns:List AO} {p:AG} {x y v k n:Nat} {d w:Int}
theorem OU(bk:Bd bP bO ps ws js ns){u:Nat}(h:OT ws p u v w):u<ps.length/\v<ps.length:=by
 obtain ⟨k,c,e,_⟩:=h;have o:=JB bk.way k c;have f:=o.a;have g:=o.b;unfold wA wB at e;omega
theorem OV(bk:Bd bP bO ps ws js ns)(hp:Bt p){u:Nat}(h:OT ws p u v w):Ap ps.length ws p u v<=w:=by
 obtain ⟨k,b,a,rfl⟩:=h
 have:=farAll_way (np:=ps.length) hp (Jb bk.way) b
 have s:=(H4 (np:=ps.length) hp (Jb bk.way)).s.sym u v;unfold wA wB at a;rcases a with ⟨rfl,rfl⟩ | ⟨rfl,rfl⟩
 ·exact this
 ·rw [s];exact this
theorem trw_far(bk:Bd bP bO ps ws js ns)(hp:Bt p)(hx:x<ps.length)(h:Ni ws p x k v d):Ap ps.length ws p x v<=d:=by
 have a:=H4 (np:=ps.length) hp (Jb bk.way)
 induction h with
 | nil=>rw [a.s.diag];exact Int.le_refl _
 | @step k u v d w b c e=>
  have r:=OU bk c;have t:=a.tri u r.1 x v hx r.2
  have:=OV bk hp c
  omega
theorem Y5(bk:Bd bP bO ps ws js ns):∀n,n<=ws.length->∀x y,x<4->y<4->BU p ws n x y<1048576->∃k,Ni ws p x k y (BU p ws n x y)
 | 0,_,x,y,f,g,h=>by
  have e:BU p ws 0 x y=Jt 4 x y:=rfl;rw [e,L1] at h ⊢;by_cases c:x<4/\y<4/\x≠y
  ·rw [bV c] at h;omega
  ·rw [bU c]
   have:x=y:=Decidable.byContradiction λq=>c ⟨f,g,q⟩
   subst this;exact ⟨0,.nil⟩
 | n+1,i,x,y,f,g,h=>by
  have r:=(Jb bk.way).rng n O;have e:BU p ws (n+1)=Ll p ws (BU p ws n) n:=BO _ _ _;rw [e,NQ _ _ _ _ O] at h ⊢;by_cases c:(x=(ws.getD n AF.z).a.toNat/\y=(ws.getD n AF.z).b.toNat)\/(x=(ws.getD n AF.z).b.toNat/\y=(ws.getD n AF.z).a.toNat)
  ·rw [bV c]
   have:=Ni.step (.nil (ws:=ws) (p:=p) (x:=x)) (v:=y) (w:=p.ways n) ⟨n,O,by unfold wA wB;omega,rfl⟩
   rw [Int.zero_add] at this;exact ⟨1,this⟩
  ·rw [bU c] at h ⊢;exact Y5 bk n O x y f g h
theorem Y6(bk:Bd bP bO ps ws js ns)(hp:Bt p):∀n,n<=ps.length->∀x y,x<ps.length->y<ps.length->DR ps.length (BU p ws ws.length) n x y<1048576->∃k,Ni ws p x k y (DR ps.length (BU p ws ws.length) n x y)
 | 0,_,x,y,f,i,h=>Y5 bk ws.length (Nat.le_refl _) x y (by have:=bk.plen;omega) (by have:=bk.plen;omega) h
 | n+1,m,x,y,f,i,h=>by
  have j:=Y6 bk hp n O;have s:=(FW.all (L2 hp (Jb bk.way) ws.length (Nat.le_refl _)) n (show n<=ps.length by omega)).s;have e:DR ps.length (BU p ws ws.length) (n+1)=F4 n ps.length (DR ps.length (BU p ws ws.length) n) ps.length:=BO _ _ _;have g:=TQ (np:=ps.length) n (DR ps.length (BU p ws ws.length) n) (s.diag n) s.ok ps.length x y;rw [bV ⟨f,i⟩] at g;rw [e,g] at h ⊢;have o:=s.ok x n;have q:=s.ok n y;rcases Int.le_total (DR ps.length (BU p ws ws.length) n x y) (DR ps.length (BU p ws ws.length) n x n+DR ps.length (BU p ws ws.length) n n y) with c | c
  ·rw [Int.min_eq_left c] at h ⊢;exact j x y f i h
  ·rw [Int.min_eq_right c] at h ⊢;obtain ⟨k,a⟩:=j x n f O O;obtain ⟨l,b⟩:=j n y O i O;exact ⟨_,a.append b⟩
theorem Y7(bk:Bd bP bO ps ws js ns)(hv:v<ps.length):∃k d,Ni ws p 0 k v d:=by
 have one:∀(c:G2)(a:AF),a ∈ ws->(∀i,c i=true->∃k d,Ni ws p 0 k i d)->∀i,GF c a i=true->∃k d,Ni ws p 0 k i d:=by
  intro c a m g;obtain ⟨q,r,C⟩:=List.mem_iff_getElem.1 m;have s:OT ws p a.a.toNat a.b.toNat (p.ways q):=⟨q,r,.inl (by unfold wA wB;rw [Cy AF.z r,C];exact ⟨rfl,rfl⟩),rfl⟩;have both:(c a.a.toNat || c a.b.toNat)=true->(∃k d,Ni ws p 0 k a.a.toNat d)/\∃k d,Ni ws p 0 k a.b.toNat d:=λh=>by
   rcases Bool.or_eq_true_iff.1 h with h | h
   ·obtain ⟨k,d,t⟩:=g _ h;exact ⟨⟨k,d,t⟩,_,_,t.step s⟩
   ·obtain ⟨k,d,t⟩:=g _ h;exact ⟨⟨_,_,t.step s.symm⟩,k,d,t⟩
  intro i f;unfold GF G2.set at f;by_cases e:i=a.b.toNat
  ·rw [bV e] at f;rw [e];by_cases j:a.b.toNat=a.a.toNat
   ·rw [bV j,bV rfl,Bool.or_self] at f;exact (both f).2
   ·rw [bU j,bV rfl] at f;rcases Bool.or_eq_true_iff.1 f with h | h
    ·exact g _ h
    ·exact (both h).2
  ·rw [bU e] at f;by_cases j:i=a.a.toNat
   ·rw [bV j] at f;rw [j];exact (both f).1
   ·rw [bU j] at f;exact g i f
 have fold:∀(l:List AF)(c:G2),(∀a ∈ l,a ∈ ws)->(∀i,c i=true->∃k d,Ni ws p 0 k i d)->∀i,l.foldl GF c i=true->∃k d,Ni ws p 0 k i d:=by
  intro l
  induction l with
  | nil=>exact λc _ g=>g
  | cons a l o=>exact λc u g=>o _ (λb D=>u b (List.mem_cons_of_mem _ D)) (one c a (u a List.mem_cons_self) g)
 have all:∀n (c:G2),(∀i,c i=true->∃k d,Ni ws p 0 k i d)->∀i,FB ws n c i=true->∃k d,Ni ws p 0 k i d:=by
  intro n
  induction n with
  | zero=>exact λc g=>g
  | succ n o=>exact λc g=>o _ (fold ws c (λa m=>m) g)
 have led:=bk.led;unfold FY at led;split at led
 ·cases led
 ·rename_i q
  refine all ps.length (G2.none.set 0 true) (λi f=>?_) v ?_
  ·unfold G2.set G2.none at f;by_cases e:i=0
   ·subst e;exact ⟨0,0,.nil⟩
   ·rw [bU e] at f;cases f
  ·refine Decidable.byContradiction λc=>q (List.any_eq_true.2 ⟨FB ws ps.length (G2.none.set 0 true) v,?_,?_⟩)
   ·unfold OB;exact List.mem_map.2 ⟨v,List.mem_range.2 hv,rfl⟩
   ·rw [Bool.eq_false_iff.2 c];rfl
theorem VW(bk:Bd bP bO ps ws js ns)(hp:Bt p)(hx:x<ps.length)(hv:v<ps.length):∃k,k<ps.length/\Ni ws p x k v (Ap ps.length ws p x v):=by
 have g:=bk.plen;have h:=H4 (np:=ps.length) hp (Jb bk.way);have small:Ap ps.length ws p x v<1048576:=by
  obtain ⟨k,d,t⟩:=Y7 (p:=p) bk hx;obtain ⟨l,e,t2⟩:=Y7 (p:=p) bk hv;obtain ⟨j,i,d2,t3⟩:=DL (Q:=λk v=>∃d,Ni ws p x k v d) (np:=ps.length) (λk v _ ⟨d,t⟩=>by
   cases t with
   | @step _ u _ d w t c=>exact ⟨u,(OU bk c).1,⟨_,t⟩,λj ⟨d,t⟩=>⟨_,t.step c⟩⟩) hv (k:=k+l) ⟨_,t.symm.append t2⟩
  have a:=trw_far bk hp hx t3;have b:=t3.le hp;omega
 obtain ⟨k,t⟩:=Y6 bk hp ps.length (Nat.le_refl _) x v hx hv small;refine DL (Q:=λk v=>Ni ws p x k v (Ap ps.length ws p x v)) (np:=ps.length) (λk v f t=>?_) hv t;generalize m:Ap ps.length ws p x v=D at t;cases t with
 | @step _ u _ d w t c=>
  have r:=OU bk c;have a:=trw_far bk hp hx t;have b:=OV bk hp c;have o:=h.tri u r.1 x v hx f;have e:Ap ps.length ws p x u=d:=O
  exact ⟨u,r.1,by rw [e];exact t,λj t2=>by
   have:=t2.step c
   rw [e] at this;exact this⟩
def L7(o:Nat->Int)(i:Nat)(v:Int):Nat->Int:=λj=>if j=i then v else o j
def LN(ws:List AF)(p:AG)(o:Nat->Int)(k:Nat):Nat->Int:=
 L7 (L7 o (wA ws k) (min (o (wA ws k)) (o (wB ws k)+p.ways k))) (wB ws k) (min (L7 o (wA ws k) (min (o (wA ws k)) (o (wB ws k)+p.ways k)) (wB ws k)) (L7 o (wA ws k) (min (o (wA ws k)) (o (wB ws k)+p.ways k)) (wA ws k)+p.ways k))
def Z0(ws:List AF)(p:AG)(o:Nat->Int):Nat->Nat->Int
 | 0=>o
 | n+1=>LN ws p (Z0 ws p o n) n
def Uf(ws:List AF)(p:AG)(o:Nat->Int):Nat->Nat->Int
 | 0=>o
 | r+1=>Z0 ws p (Uf ws p o r) ws.length
def PT(np x:Nat):Nat->Int:=λv=>if v=x then 0 else 30*(np:Int)
theorem Y8(o:Nat->Int)(k v:Nat):LN ws p o k v<=o v:=by
 unfold LN L7;by_cases h:v=wB ws k
 ·rw [bV h];by_cases a:wB ws k=wA ws k
  ·rw [bV a,bV rfl,h,a];omega
  ·rw [bU a,h];omega
 ·rw [bU h];by_cases a:v=wA ws k
  ·rw [bV a,a];omega
  ·rw [bU a];exact Int.le_refl _
theorem bfWay_a(o:Nat->Int)(k:Nat):LN ws p o k (wA ws k)<=o (wB ws k)+p.ways k/\LN ws p o k (wB ws k)<=o (wA ws k)+p.ways k:=by
 unfold LN L7;rw [bV rfl,bV rfl];by_cases h:wA ws k=wB ws k
 ·rw [bV h,bV h.symm];omega
 ·rw [bU h,bU (λq=>h q.symm)];omega
theorem bfR_le(o:Nat->Int)(v:Nat):∀n,Z0 ws p o n v<=o v
 | 0=>Int.le_refl _
 | n+1=>Int.le_trans (Y8 _ _ _) (bfR_le o v n)
theorem Y9(o:Nat->Int)(v:Nat):∀d n,Z0 ws p o (n+d) v<=Z0 ws p o n v
 | 0,n=>Int.le_refl _
 | d+1,n=>Int.le_trans (Y8 _ _ _) (Y9 o v d n)
theorem bfR_edge(o:Nat->Int){u:Nat}(h:OT ws p u v w):Z0 ws p o ws.length v<=o u+w:=by
 obtain ⟨k,c,b,rfl⟩:=h;have m:=Y9 (ws:=ws) (p:=p) o v (ws.length-(k+1)) (k+1);rw [show k+1+(ws.length-(k+1))=ws.length by omega] at m;refine Int.le_trans m ?_;have a:=bfWay_a (ws:=ws) (p:=p) (Z0 ws p o k) k;have l:=bfR_le (ws:=ws) (p:=p) o u k;show LN ws p (Z0 ws p o k) k v<=_;rcases b with ⟨rfl,rfl⟩ | ⟨rfl,rfl⟩
 ·have:=a.2;omega
 ·have:=a.1;omega
theorem bfN_walk(np:Nat)(h:Ni ws p x k v d):Uf ws p (PT np x) k v<=d:=by
 induction h with
 | nil=>show PT np x x<=0;unfold PT;rw [bV rfl];exact Int.le_refl _
 | step _ c a=>exact Int.le_trans (bfR_edge _ c) O
theorem ZA(o:Nat->Int)(v:Nat):∀d r,Uf ws p o (r+d) v<=Uf ws p o r v
 | 0,r=>Int.le_refl _
 | d+1,r=>Int.le_trans (bfR_le _ _ _) (ZA o v d r)
theorem bfWay_ge(bk:Bd bP bO ps ws js ns)(hp:Bt p)(hx:x<ps.length){o:Nat->Int}(h:∀v,v<ps.length->Ap ps.length ws p x v<=o v)(hk:k<ws.length):∀v,v<ps.length->Ap ps.length ws p x v<=LN ws p o k v:=by
 have g:=H4 (np:=ps.length) hp (Jb bk.way);have f:OT ws p (wA ws k) (wB ws k) (p.ways k):=⟨k,hk,.inl ⟨rfl,rfl⟩,rfl⟩;have r:=OU bk f;have j:=OV bk hp f;have l:=OV bk hp f.symm;have t1:=g.tri (wB ws k) r.2 x (wA ws k) hx r.1;have t2:=g.tri (wA ws k) r.1 x (wB ws k) hx r.2;have a:=h _ r.1;have b:=h _ r.2;intro v i;unfold LN L7;by_cases c:v=wB ws k
 ·rw [bV c,bV rfl,c];by_cases e:wB ws k=wA ws k
  ·have m:Ap ps.length ws p x (wB ws k)<=o (wA ws k):=by rw [e];exact a
   have q:=hp.ways k;rw [bV e];omega
  ·rw [bU e];omega
 ·rw [bU c];by_cases e:v=wA ws k
  ·rw [bV e,e];omega
  ·rw [bU e];exact h v i
theorem bfN_ge(bk:Bd bP bO ps ws js ns)(hp:Bt p)(hx:x<ps.length):∀r v,v<ps.length->Ap ps.length ws p x v<=Uf ws p (PT ps.length x) r v
 | 0,v,a=>by
  show _<=PT ps.length x v;unfold PT;by_cases c:v=x
  ·rw [bV c,c,(H4 (np:=ps.length) hp (Jb bk.way)).s.diag];exact Int.le_refl _
  ·rw [bU c];obtain ⟨k,f,t⟩:=VW bk hp hx a
   have:=t.le hp
   omega
 | r+1,v,a=>by
  have e:=bfN_ge bk hp hx r
  have:∀n,n<=ws.length->∀v,v<ps.length->Ap ps.length ws p x v<=Z0 ws p (Uf ws p (PT ps.length x) r) n v:=by
   intro n
   induction n with
   | zero=>exact λ_=>e
   | succ n b=>exact λg=>bfWay_ge bk hp hx (b O) O
  exact this ws.length (Nat.le_refl _) v a
theorem bf_far(bk:Bd bP bO ps ws js ns)(hp:Bt p)(hx:x<ps.length)(hv:v<ps.length):Uf ws p (PT ps.length x) ps.length v=Ap ps.length ws p x v:=by
 refine Int.le_antisymm ?_ (bfN_ge bk hp hx _ v hv);obtain ⟨k,a,t⟩:=VW bk hp hx hv;have m:=ZA (ws:=ws) (p:=p) (PT ps.length x) v (ps.length-k) k;rw [show k+(ps.length-k)=ps.length by omega] at m;exact Int.le_trans m (bfN_walk _ t)
end
end Go.Ns
namespace Go.Ns
def dfs(bK:Nat->Int×Int):Nat->Nat->List (List Int)
 | 0,_=>[[]]
 | f+1,i=>(FI (bK i).1 (bK i).2).flatMap λn=>(dfs bK f (i+1)).map λs=>n ::s
def Ca(bK:Nat->Int×Int):Nat->List (List Int)
 | 0=>[[]]
 | i+1=>(Ca bK i).flatMap λx=>(FI (bK i).1 (bK i).2).map λn=>x++[n]
section
variable {bK:Nat->Int×Int}
theorem ZB:∀f i,dfs bK (f+1) i=(dfs bK f i).flatMap λx=>(FI (bK (i+f)).1 (bK (i+f)).2).map λn=>x++[n]
 | 0,i=>by
  show (FI (bK i).1 (bK i).2).flatMap (λn=>[[n]])=[[]].flatMap _;rw [List.flatMap_cons,List.flatMap_nil,List.append_nil,Nat.add_zero,List.map_eq_flatMap];rfl
 | f+1,i=>by
  have a:=ZB f (i+1);show (FI (bK i).1 (bK i).2).flatMap (λn=>(dfs bK (f+1) (i+1)).map λs=>n ::s)=((FI (bK i).1 (bK i).2).flatMap λn=>(dfs bK f (i+1)).map λs=>n ::s).flatMap _;rw [List.flatMap_assoc];congr 1;funext n;rw [a,List.map_flatMap,List.flatMap_map];congr 1;funext s;rw [List.map_map,show i+1+f=i+(f+1) by omega];rfl
theorem TV:∀m,Ca bK m=dfs bK m 0
 | 0=>rfl
 | m+1=>by
  rw [ZB,<-TV m,Nat.zero_add];rfl
end
def JS(w k:List Int):AG:=⟨λi=>w.getD i 0,λi=>k.getD i 0⟩
def OW(p:AG)(i:Nat)(s:List Int):AG:={ p with ways:=λk=>if i<=k/\k<i+s.length then s.getD (k-i) 0 else p.ways k }
def OX(p:AG)(i:Nat)(s:List Int):AG:={ p with works:=λk=>if i<=k/\k<i+s.length then s.getD (k-i) 0 else p.works k }
theorem ZE{f:Nat->Int}{i n:Nat}{v:Int}{s:List Int}:(λk=>if i<=k/\k<i+(v ::s).length then (v ::s).getD (k-i) 0 else f k)=λk=>if i+1<=k/\k<i+1+s.length then s.getD (k-(i+1)) 0 else if k=i then v else f k:=by
 funext k;by_cases a:k=i
 ·subst a;rw [bV aG,bU O,bV rfl,Nat.sub_self];rfl
 ·by_cases b:i+1<=k/\k<i+1+s.length
  ·rw [bV b,bV (by simp only [List.length_cons];omega),show k-i=(k-(i+1))+1 by omega];rfl
  ·rw [bU b,bU (by simp only [List.length_cons];omega),bU a]
theorem TW{p:AG}{nw i:Nat}{v:Int}{s:List Int}(h:i<nw):OW p i (v ::s)=OW (p.put nw i v) (i+1) s:=by
 unfold OW AG.put;rw [bV h,ZE (n:=0)];rfl
theorem putsK_cons{p:AG}{nw i:Nat}{v:Int}{s:List Int}(h:nw<=i):OX p (i-nw) (v ::s)=OX (p.put nw i v) (i+1-nw) s:=by
 unfold OX AG.put;rw [bU O,ZE (n:=0),show i-nw+1=i+1-nw by omega];rfl
theorem VX(p:AG)(i:Nat):OW p i []=p:=by
 unfold OW
 have:(λk=>if i<=k/\k<i+([]:List Int).length then ([]:List Int).getD (k-i) 0 else p.ways k)=p.ways:=funext λk=>bU aG
 rw [this]
theorem putsK_nil(p:AG)(i:Nat):OX p i []=p:=by
 unfold OX
 have:(λk=>if i<=k/\k<i+([]:List Int).length then ([]:List Int).getD (k-i) 0 else p.works k)=p.works:=funext λk=>bU aG
 rw [this]
def Gy(ws:List AF)(k:Nat):Int×Int:=((ws.getD k AF.z).low,(ws.getD k AF.z).high)
def JJ(js:List AY)(k:Nat):Int×Int:=((js.getD k AY.z).low,(js.getD k AY.z).high)
section
variable {ws:List AF} {js:List AY} {ns:List AO} {ag:AG->Bool}
theorem VY:∀(f i:Nat)(p:AG),ws.length<=i->C0 ag ws js f i p=(dfs (JJ js) f (i-ws.length)).map (OX p (i-ws.length))
 | 0,i,p,_=>by
  show [p]=[[]].map _;rw [List.map_singleton,putsK_nil]
 | f+1,i,p,h=>by
  rw [FC];have a:C8 ws js i=(JJ js (i-ws.length)).1:=bU O;have b:HG ws js i=(JJ js (i-ws.length)).2:=bU O;show _=((FI _ _).flatMap _).map _;rw [a,b,List.map_flatMap];congr 1;funext n;unfold Cm;rw [bU O,VY f (i+1) _ O,List.map_map,show i+1-ws.length=i-ws.length+1 by omega];congr 1;funext s;show _=OX p (i-ws.length) (n ::s);rw [putsK_cons h,show i+1-ws.length=i-ws.length+1 by omega]
theorem QW{α β:Type}(q:α->Bool)(F:α->List β):∀l:List α,(l.filter q).flatMap F=l.flatMap λx=>if q x=true then F x else []
 | []=>rfl
 | x ::l=>by
  rw [List.filter_cons,List.flatMap_cons,<-QW q F l];by_cases h:q x=true
  ·rw [bV h,bV h,List.flatMap_cons]
  ·rw [bU h,bU h,List.nil_append]
theorem ZF:∀(f i:Nat)(p:AG),i+(f+1)=ws.length->C0 ag ws js (f+1+js.length) i p=(dfs (Gy ws) (f+1) i).flatMap λs=>if ag (OW p i s)=true then C0 ag ws js js.length ws.length (OW p i s) else []
 | 0,i,p,h=>by
  rw [show 0+1+js.length=js.length+1 by omega,FC];have a:C8 ws js i=(Gy ws i).1:=bV O;have b:HG ws js i=(Gy ws i).2:=bV O;show _=((FI _ _).flatMap λn=>[[n]]).flatMap _;rw [a,b,List.flatMap_assoc];congr 1;funext n;rw [List.flatMap_cons,List.flatMap_nil,List.append_nil,TW (nw:=ws.length) O,VX];unfold Cm;cases c:ag (p.put ws.length i n) with
  | false=>rw [bV ⟨O,rfl⟩];rfl
  | true=>rw [bU (λq=>by cases q.2),bV rfl,show i+1=ws.length by omega]
 | f+1,i,p,h=>by
  rw [show f+1+1+js.length=(f+1+js.length)+1 by omega,FC];have a:C8 ws js i=(Gy ws i).1:=bV O;have b:HG ws js i=(Gy ws i).2:=bV O;show _=((FI _ _).flatMap λn=>(dfs (Gy ws) (f+1) (i+1)).map λs=>n ::s).flatMap _;rw [a,b,List.flatMap_assoc];congr 1;funext n;unfold Cm;rw [bU (λq=>O),ZF f (i+1) _ O,List.flatMap_map];congr 1;funext s;rw [TW (nw:=ws.length) O]
def JK(ws:List AF)(js:List AY)(ns:List AO):List (List Int×List Int):=
 ((Ca (Gy ws) ws.length).filter λw=>CM ns (JS w [])).flatMap λw=>(Ca (JJ js) js.length).map λk=>(w,k)
theorem VZ{w:List Int}:OW AG.zero 0 w=JS w []:=by
 unfold OW JS AG.zero;congr 1
 ·funext k;by_cases h:k<w.length
  ·rw [bV O];rfl
  ·rw [bU O,CH O]
theorem puts_both{w k:List Int}:OX (JS w []) 0 k=JS w k:=by
 unfold OX JS;congr 1;funext i;by_cases h:i<k.length
 ·rw [bV O];rfl
 ·rw [bU O,CH O];rfl
theorem QX:AC ws js ns=(JK ws js ns).map λx=>JS x.1 x.2:=by
 have a:∀w:List Int,C0 (CM ns) ws js js.length ws.length (JS w [])=(Ca (JJ js) js.length).map λk=>JS w k:=λw=>by
  rw [VY _ _ _ (Nat.le_refl _),Nat.sub_self,TV];congr 1;funext k;exact puts_both
 unfold JK;rw [QW,List.map_flatMap];have rhs:∀w:List Int,(if CM ns (JS w [])=true then (Ca (JJ js) js.length).map λk=>(w,k) else []).map (λx=>JS x.1 x.2)=if CM ns (JS w [])=true then C0 (CM ns) ws js js.length ws.length (JS w []) else []:=λw=>by
  split
  ·rw [a,List.map_map];rfl
  ·rfl
 simp only [rhs];unfold AC;rcases Nat.eq_zero_or_pos ws.length with h | h
 ·rw [h,Nat.zero_add];show _=[[]].flatMap _;rw [List.flatMap_cons,List.flatMap_nil,List.append_nil];have z:(JS [] []:AG)=AG.zero:=by rw [<-VZ,VX]
  rw [z];by_cases c:CM ns AG.zero=true
  ·rw [bV (.inr c),bV c]
  ·rw [bU (λq=>q.elim O c),bU c]
 ·rw [bV (.inl h)]
  have:=ZF (ag:=CM ns) (ws:=ws) (js:=js) (ws.length-1) 0 AG.zero O
  rw [show ws.length-1+1=ws.length by omega] at this;rw [this,TV];congr 1;funext w;rw [VZ]
end
end Go.Ns
namespace Go.Ns
def LQ(np:Nat)(o:Nat->Int):List Int:=(List.range np).map o
def bfIf(np x i:Nat):Nat->Int:=λv=>if v<i/\v≠x then 30*(np:Int) else 0
def Va(np x i:Nat):List Int:=LQ np (bfIf np x i)
section
variable {np x i k:Nat} {o:Nat->Int} {v:Int} {ws:List AF} {p:AG}
theorem MY:(LQ np o).length=np:=by unfold LQ;rw [List.length_map,List.length_range]
theorem bfI_len:(Va np x i).length=np:=MY
theorem OY(h:i<np):(LQ np o).getD i 0=o i:=by
 unfold LQ;rw [Cy 0 (by rw [List.length_map,List.length_range];exact h),List.getElem_map,List.getElem_range]
theorem bfL_at{j:Nat}(h:j<(LQ np o).length):(LQ np o)[j]=o j:=by
 simp only [LQ,List.getElem_map,List.getElem_range]
theorem XH(h:i<np):(LQ np o).set i v=LQ np (L7 o i v):=by
 apply List.ext_getElem
 ·rw [List.length_set,MY,MY]
 ·intro j a b;rw [List.getElem_set,bfL_at,bfL_at];unfold L7;by_cases c:i=j
  ·rw [bV c,bV c.symm]
  ·rw [bU c,bU (λq=>c q.symm)]
theorem bfI_0:Va np x 0=List.replicate np 0:=by
 apply List.ext_getElem
 ·rw [bfI_len,List.length_replicate]
 ·intro j a b;rw [List.getElem_replicate];exact (bfL_at a).trans (bU O)
theorem bfI_put(hi:i<np)(h:i≠x):(Va np x i).set i (30*(np:Int))=Va np x (i+1):=by
 unfold Va;rw [XH hi];congr 1;funext j;unfold L7 bfIf;by_cases c:j=i
 ·rw [bV c,bV ⟨O,O⟩]
 ·rw [bU c];by_cases d:j<i/\j≠x
  ·rw [bV d,bV ⟨O,d.2⟩]
  ·rw [bU d,bU (λq=>d ⟨O,q.2⟩)]
theorem bfI_skip(h:i=x):Va np x i=Va np x (i+1):=by
 unfold Va;congr 1;funext v;unfold bfIf;by_cases d:v<i/\v≠x
 ·rw [bV d,bV ⟨O,d.2⟩]
 ·rw [bU d,bU (λq=>d ⟨O,q.2⟩)]
theorem bfI_end(h:np<=i):Va np x i=LQ np (PT np x):=by
 unfold Va LQ;apply List.map_congr_left;intro v a
 have:=List.mem_range.1 a
 unfold PT bfIf;by_cases c:v=x
 ·rw [bU (λq=>q.2 c),bV c]
 ·rw [bV ⟨O,c⟩,bU c]
def bfOK(np:Nat)(o:Nat->Int):Prop:=∀i,i<np->0<=o i/\o i<=30*(np:Int)
theorem bfZ_ok(x:Nat):bfOK np (PT np x):=λi _=>by unfold PT;split <;> omega
theorem bfWay_ok(h:bfOK np o)(ha:wA ws k<np)(hb:wB ws k<np)(hp:Bt p):bfOK np (LN ws p o k):=λi f=>by
 have w:=hp.ways k;have a:=h _ ha;have b:=h _ hb;have c:=h i f;unfold LN L7;by_cases e:i=wB ws k
 ·rw [bV e,bV rfl];by_cases d:wB ws k=wA ws k
  ·rw [bV d];omega
  ·rw [bU d];omega
 ·rw [bU e];by_cases d:i=wA ws k
  ·rw [bV d];omega
  ·rw [bU d];exact c
theorem bfR_ok(h:bfOK np o)(hw:∀k,k<ws.length->wA ws k<np/\wB ws k<np)(hp:Bt p):∀n,n<=ws.length->bfOK np (Z0 ws p o n)
 | 0,_=>h
 | n+1,a=>bfWay_ok (bfR_ok h hw hp n O) (hw n O).1 (hw n O).2 hp
theorem bfN_ok(x:Nat)(hw:∀k,k<ws.length->wA ws k<np/\wB ws k<np)(hp:Bt p):∀r,bfOK np (Uf ws p (PT np x) r)
 | 0=>bfZ_ok x
 | r+1=>bfR_ok (bfN_ok x hw hp r) hw hp _ (Nat.le_refl _)
theorem bfL_rng(h:bfOK np o)(i:Nat):0<=(LQ np o).getD i 0/\(LQ np o).getD i 0<=30*(np:Int):=by
 by_cases c:i<np
 ·rw [OY c];exact h i c
 ·rw [CH (by rw [MY];omega)];omega
theorem bfL_way(ha:wA ws k<np)(hb:wB ws k<np):((LQ np o).set (wA ws k) (min ((LQ np o).getD (wA ws k) 0) ((LQ np o).getD (wB ws k) 0+p.ways k))).set (wB ws k) (min (((LQ np o).set (wA ws k) (min ((LQ np o).getD (wA ws k) 0) ((LQ np o).getD (wB ws k) 0+p.ways k))).getD (wB ws k) 0) (((LQ np o).set (wA ws k) (min ((LQ np o).getD (wA ws k) 0) ((LQ np o).getD (wB ws k) 0+p.ways k))).getD (wA ws k) 0+p.ways k))=LQ np (LN ws p o k):=by
 rw [OY ha,OY hb,XH ha,OY hb,OY ha,XH hb];rfl
theorem set_rng{l:List Int}{bG:Nat}{b:Int}(h:∀i,0<=l.getD i 0/\l.getD i 0<=b)(hv:0<=v/\v<=b)(i:Nat):0<=(l.set bG v).getD i 0/\(l.set bG v).getD i 0<=b:=by
 rw [List.getD_eq_getElem?_getD,List.getElem?_set];by_cases c:bG=i
 ·subst c;by_cases d:bG<l.length
  ·rw [bV rfl,bV d];exact hv
  ·rw [bV rfl,bU d];have:=h bG;show 0<=(0:Int)/\(0:Int)<=b;omega
 ·rw [bU c,<-List.getD_eq_getElem?_getD];exact h i
end
def Gh(np:Nat)(ws:List AF)(p:AG)(x:Nat):List Int:=(List.range np).map (Ap np ws p x)
section
variable {bP bO:Int} {ps:List bY} {ws:List AF} {js:List AY} {ns:List AO} {p:AG} {x i:Nat}
theorem way_ab(bk:Bd bP bO ps ws js ns)(k:Nat)(hk:k<ws.length):wA ws k<ps.length/\wB ws k<ps.length:=by
 have o:=JB bk.way k hk;have c:=o.a;have d:=o.b;unfold wA wB;omega
theorem farLn_end(bk:Bd bP bO ps ws js ns)(hp:Bt p)(hx:x<ps.length){r:Nat}(hr:r=ps.length):Gh ps.length ws p x=LQ ps.length (Uf ws p (PT ps.length x) r):=by
 subst hr;unfold Gh LQ;apply List.map_congr_left;intro v a;exact (bf_far bk hp hx (List.mem_range.1 a)).symm
theorem Vb:(Gh ps.length ws p x).length=ps.length:=by unfold Gh;rw [List.length_map,List.length_range]
theorem Vc(h:i<ps.length):(Gh ps.length ws p x).getD i 0=Ap ps.length ws p x i:=by
 unfold Gh;rw [Cy 0 (by rw [List.length_map,List.length_range];exact h),List.getElem_map,List.getElem_range]
end
theorem note_way{nw k q:Nat}{ns:List AO}(h:Ek nw ns k=0)(hq:q<(ns.getD k AO.z).ways.length):0<=(ns.getD k AO.z).ways.getD q 0/\(ns.getD k AO.z).ways.getD q 0<=(nw:Int)-1:=by
 unfold Ek at h;split at h
 ·cases h
 ·split at h
  ·cases h
  ·rename_i a
   have b:¬∃x ∈ (ns.getD k AO.z).ways,¬(0<=x/\x<=(nw:Int)-1):=by simpa [List.any_eq_true] using a
   exact Classical.byContradiction λz=>b ⟨_,CS hq,z⟩
def JL(l:List Int):Nat->Int
 | 0=>l.getD 0 0
 | k+1=>min (JL l k) (l.getD (k+1) 0)
def JM(l:List Int):Nat->Int
 | 0=>l.getD 0 0
 | k+1=>max (JM l k) (l.getD (k+1) 0)
section
variable {F:AG->Int} {pq:List AG} {hl:List (List Int×List Int)}
theorem MZ{α:Type}{z:α}{G:α->Int}{l:List α}{k:Nat}(h:k<l.length):(l.map G).getD k 0=G (l.getD k z):=by
 rw [Cy 0 (by rw [List.length_map];exact h),List.getElem_map,Cy z h]
theorem ZG:∀k,k<pq.length->JL (pq.map F) k=fLo F pq k
 | 0,h=>MZ h
 | k+1,h=>by
  unfold JL fLo;rw [ZG k O,MZ (z:=AG.zero) h,Y3]
theorem ZH:∀k,k<pq.length->JM (pq.map F) k=fHi F pq k
 | 0,h=>MZ h
 | k+1,h=>by
  unfold JM fHi;rw [ZH k O,MZ (z:=AG.zero) h,Y3]
theorem ZI(h:0<pq.length):JL (pq.map F) ((pq.map F).length-1)=Df F pq/\JM (pq.map F) ((pq.map F).length-1)=Cc F pq:=by
 rw [List.length_map];exact ⟨ZG _ O,ZH _ O⟩
end
end Go.Ns
namespace Go.Ns
open Go.Conc
structure P2 where
 w:Sl
 k:Sl
def P2.o:P2:=⟨Sl.z,Sl.z⟩
def eP2(x:P2):Array bW:=#[x.w.1,x.k.1]
def Gl(h:A)(t:bX)(l:List P2):Prop:=∀k,Ci h t (l.getD k P2.o).w.1 (l.getD k P2.o).w.2/\Ci h t (l.getD k P2.o).k.1 (l.getD k P2.o).k.2
theorem Gl.le{h h':A}{t:bX}{l:List P2}(x:Gl h t l)(e:h.Le h'):Gl h' t l:=λk=>⟨(x k).1.le e,(x k).2.le e⟩
theorem Gl.nil(h:A)(t:bX):Gl h t []:=λk=>by
 rw [CH aG];exact ⟨Ci.nil _ _,Ci.nil _ _⟩
theorem Gl.app{h:A}{t:bX}{l l':List P2}(a:Gl h t l)(b:Gl h t l'):Gl h t (l++l'):=λk=>by
 rw [J9];split
 ·exact a k
 ·exact b _
theorem Gl.one{h:A}{t:bX}{x:P2}(a:Ci h t x.w.1 x.w.2)(b:Ci h t x.k.1 x.k.2):Gl h t [x]:=λk=>by
 cases k with
 | zero=>exact ⟨a,b⟩
 | succ k=>rw [CH aG];exact ⟨Ci.nil _ _,Ci.nil _ _⟩
theorem Gl.grown{α:Type}{h h' h0:A}{v v':bW}{t t':bX}{n:Nat}{enc:α->Array bW}{ys:List α}(g:HQ h h' v v')(o:Ae h0 h v t' n enc ys)(ne:t'≠t){l:List P2}(x:Gl h t l):Gl h' t l:=λk=>⟨(x k).1.grown g o ne,(x k).2.grown g o ne⟩
theorem Gl.fine{h:A}{t:bX}{l:List P2}(a:Gl h t l):∀y ∈ l,(eP2 y).toList.all (·.oneCell')=true:=λy b=>by
 obtain ⟨k,c,e⟩:=List.mem_iff_getElem.1 b;obtain rfl:l.getD k P2.o=y:=by rw [Cy P2.o c];exact e
 show (((l.getD k P2.o).w.1.oneCell') && (((l.getD k P2.o).k.1.oneCell') && true))=true;rw [(Ai.one (a k).1.1).2,(Ai.one (a k).2.1).2];rfl
theorem fill_b2{v0 v1:bW}(h0:v0.cells=#[v0])(h1:v1.cells=#[v1]):Instr.fill (λx=>#[(0,1),(1,1)][x]?) #[Value.slice none 0 0,Value.slice none 0 0] [(0,v0),(1,v1)]=some #[v0,v1]:=by
 simp [Instr.fill,h0,h1]
def rps(l:List P2):List (List Int×List Int):=l.map λx=>(x.w.2,x.k.2)
theorem rps_app(a b:List P2):rps (a++b)=rps a++rps b:=List.map_append
theorem OZ(l:List P2):(rps l).length=l.length:=List.length_map _
theorem rps_getD{l:List P2}{k:Nat}(hk:k<l.length):(rps l).getD k ([],[])=((l.getD k P2.o).w.2,(l.getD k P2.o).k.2):=by
 unfold rps;rw [Cy _ (by simpa using hk),Cy P2.o hk,List.getElem_map]
section
variable {bK:Nat->Int×Int}
def H5(bK:Nat->Int×Int)(i k j:Nat):List (List Int):=(((Ca bK i).take k).flatMap λx=>(FI (bK i).1 (bK i).2).map λn=>x++[n])++(DC (bK i).1 j).map λn=>(Ca bK i).getD k []++[n]
theorem ZJ{i k:Nat}:H5 bK i k 0=((Ca bK i).take k).flatMap λx=>(FI (bK i).1 (bK i).2).map λn=>x++[n]:=by
 unfold H5 DC;rw [List.range_zero,List.map_nil,List.map_nil,List.append_nil]
theorem nextTo_j{i k j:Nat}:H5 bK i k (j+1)=H5 bK i k j++[(Ca bK i).getD k []++[(bK i).1+(j:Int)]]:=by
 unfold H5;rw [LX,List.map_append,List.append_assoc];rfl
theorem nextTo_k{i k j:Nat}(hk:k<(Ca bK i).length)(h1:¬(bK i).1+(j:Int)<=(bK i).2)(h2:(j:Int)<=(bK i).2-(bK i).1+1\/j=0):H5 bK i k j=H5 bK i (k+1) 0:=by
 rw [ZJ,DF [] hk,List.flatMap_append,List.flatMap_cons,List.flatMap_nil,List.append_nil];unfold H5 FI;rw [show j=((bK i).2-(bK i).1+1).toNat by omega]
theorem nextTo_end{i k:Nat}(hk:(Ca bK i).length<=k):H5 bK i k 0=Ca bK (i+1):=by
 rw [ZJ,List.take_of_length_le hk];rfl
theorem ZK(h:∀i,(bK i).2-(bK i).1<2):∀i,(Ca bK i).length<=2 ^ i
 | 0=>Nat.le_refl 1
 | i+1=>by
  have:=LY (f:=λx=>(FI (bK i).1 (bK i).2).map λn=>x++[n]) (c:=2) (l:=Ca bK i) λx _=>by
   rw [List.length_map];exact NJ (h i)
  have a:=ZK h i;show ((Ca bK i).flatMap λx=>(FI (bK i).1 (bK i).2).map λn=>x++[n]).length<=2 ^ (i+1);rw [Nat.pow_succ];omega
theorem Ku(h:∀i,(bK i).2-(bK i).1<2){i:Nat}(hi:i<=5):(Ca bK i).length<=32:=Nat.le_trans (ZK h i) (Nat.pow_le_pow_right aF hi:2 ^ i<=2 ^ 5)
theorem nextTo_len(h:∀i,(bK i).2-(bK i).1<2){i k j:Nat}(hi:i<=5)(hj:j<=2):(H5 bK i k j).length<=66:=by
 have b:=LY (f:=λx=>(FI (bK i).1 (bK i).2).map λn=>x++[n]) (c:=2) (l:=(Ca bK i).take k) λx _=>by
  rw [List.length_map];exact NJ (h i)
 have a:=Ku h hi;have d:((Ca bK i).take k).length<=32:=Nat.le_trans (List.length_take_le' _ _) a;unfold H5 DC;rw [List.length_append,List.length_map,List.length_map,List.length_range];omega
theorem KE:∀(m:Nat)(s:List Int),s ∈ Ca bK m->s.length=m/\∀k,k<m->(bK k).1<=s.getD k 0/\s.getD k 0<=(bK k).2
 | 0,s,h=>by rw [List.mem_singleton.1 h];exact ⟨rfl,λk a=>absurd a (Nat.not_lt_zero _)⟩
 | m+1,s,h=>by
  obtain ⟨x,d,h⟩:=List.mem_flatMap.1 h;obtain ⟨n,b,rfl⟩:=List.mem_map.1 h;obtain ⟨e,r⟩:=KE m x d;have b:=SS.1 b;refine ⟨by rw [List.length_append,e];rfl,λk a=>?_⟩;rw [J9];by_cases c:k<m
  ·rw [bV O];exact r k c
  ·have:k=m:=O
   subst this;rw [bU O,e,Nat.sub_self];show (bK k).1<=n/\n<=(bK k).2;omega
theorem nums_at{i k:Nat}(h:k<(Ca bK i).length):((Ca bK i).getD k []).length=i:=(KE i _ (CS h)).1
theorem NR{S':Nat->Int×Int}:∀m,(∀k,k<m->bK k=S' k)->Ca bK m=Ca S' m
 | 0,_=>rfl
 | m+1,h=>by
  unfold Ca;rw [NR m λk a=>h k O,h m O]
end
def ZL(ws:List AF):List (Int×Int):=ws.map λx=>(x.low,x.high)
def ZM(js:List AY):List (Int×Int):=js.map λx=>(x.low,x.high)
section
variable {bP bO:Int} {ps:List bY} {ws:List AF} {js:List AY} {ns:List AO} {k:Nat}
theorem Kv:(ZL ws).length=ws.length:=List.length_map _
theorem Kx:(ZM js).length=js.length:=List.length_map _
theorem spW_next(h:k<ws.length):ZL (ws.take (k+1))=ZL (ws.take k)++[((ws.getD k AF.z).low,(ws.getD k AF.z).high)]:=by
 unfold ZL;rw [DF AF.z h,List.map_append];rfl
theorem spJ_next(h:k<js.length):ZM (js.take (k+1))=ZM (js.take k)++[((js.getD k AY.z).low,(js.getD k AY.z).high)]:=by
 unfold ZM;rw [DF AY.z h,List.map_append];rfl
theorem spW_at(h:k<ws.length):(ZL ws).getD k (0,0)=Gy ws k:=by
 unfold ZL Gy;rw [Cy _ (by rw [List.length_map];exact h),List.getElem_map,Cy AF.z h]
theorem spJ_at(h:k<js.length):(ZM js).getD k (0,0)=JJ js k:=by
 unfold ZM JJ;rw [Cy _ (by rw [List.length_map];exact h),List.getElem_map,Cy AY.z h]
theorem ZO:Ca (λk=>(ZL ws).getD k (0,0)) (ZL ws).length=Ca (Gy ws) ws.length:=by
 rw [Kv];exact NR _ λk a=>spW_at a
theorem ZP:Ca (λk=>(ZM js).getD k (0,0)) (ZM js).length=Ca (JJ js) js.length:=by
 rw [Kx];exact NR _ λk a=>spJ_at a
theorem spW_rng(bk:Bd bP bO ps ws js ns)(k:Nat):(0<=((ZL ws).getD k (0,0)).1/\((ZL ws).getD k (0,0)).2<=30)/\((ZL ws).getD k (0,0)).2-((ZL ws).getD k (0,0)).1<2:=by
 by_cases h:k<ws.length
 ·have:=(JB bk.way k h).time
  rw [spW_at h];show (0<=(ws.getD k AF.z).low/\(ws.getD k AF.z).high<=30)/\(ws.getD k AF.z).high-(ws.getD k AF.z).low<2;omega
 ·rw [CH (by rw [Kv];omega)];decide
theorem spJ_rng(bk:Bd bP bO ps ws js ns)(k:Nat):(0<=((ZM js).getD k (0,0)).1/\((ZM js).getD k (0,0)).2<=30)/\((ZM js).getD k (0,0)).2-((ZM js).getD k (0,0)).1<2:=by
 by_cases h:k<js.length
 ·have:=(Lh (bk.job k h)).time
  rw [spJ_at h];show (0<=(js.getD k AY.z).low/\(js.getD k AY.z).high<=30)/\(js.getD k AY.z).high-(js.getD k AY.z).low<2;omega
 ·rw [CH (by rw [Kx];omega)];decide
def Fc(ns:List AO)(W K:List (List Int))(i j:Nat):List (List Int×List Int):=(((W.take i).filter λw=>CM ns (JS w [])).flatMap λw=>K.map λk=>(w,k))++(K.take j).map λk=>(W.getD i [],k)
section
variable {W K:List (List Int)} {i j:Nat}
theorem Ma:Fc ns W K i 0=(((W.take i).filter λw=>CM ns (JS w [])).flatMap λw=>K.map λk=>(w,k)):=by
 unfold Fc;rw [List.take_zero,List.map_nil,List.append_nil]
theorem XI(h:i<W.length)(hn:CM ns (JS (W.getD i []) [])=false):Fc ns W K i 0=Fc ns W K (i+1) 0:=by
 rw [Ma,Ma,DF [] h,List.filter_append,List.filter_cons,bU (by rw [hn];decide),List.filter_nil,List.append_nil]
theorem XJ(h:j<K.length):Fc ns W K i (j+1)=Fc ns W K i j++[(W.getD i [],K.getD j [])]:=by
 unfold Fc;rw [DF [] h,List.map_append,List.append_assoc];rfl
theorem XK(h:i<W.length)(hn:CM ns (JS (W.getD i []) [])=true)(hj:K.length<=j):Fc ns W K i j=Fc ns W K (i+1) 0:=by
 rw [Ma,DF [] h,List.filter_append,List.filter_cons,bV hn,List.filter_nil,List.flatMap_append,List.flatMap_cons,List.flatMap_nil,List.append_nil];unfold Fc;rw [List.take_of_length_le hj]
theorem ZQ(h:W.length<=i)(hW:W=Ca (Gy ws) ws.length)(hK:K=Ca (JJ js) js.length):Fc ns W K i 0=JK ws js ns:=by
 rw [Ma,List.take_of_length_le h];subst hW;subst hK;rfl
theorem ZR(hW:W.length<=32)(hK:K.length<=32):(Fc ns W K i j).length<=1056:=by
 have a:=LY (f:=λw=>K.map λk=>(w,k)) (c:=32) (l:=(W.take i).filter λw=>CM ns (JS w [])) λx _=>by rw [List.length_map];exact hK
 have b:=List.length_filter_le (λw=>CM ns (JS w [])) (W.take i);have d:=List.length_take_le i W;have e:=List.length_take_le j K;have g:=List.length_take_le' i W;have h:=List.length_take_le' j K;unfold Fc;rw [List.length_append,List.length_map];omega
end
theorem num_ok(bk:Bd bP bO ps ws js ns){s:List Int}(hs:s ∈ Ca (Gy ws) ws.length)(k:Nat):0<=s.getD k 0/\s.getD k 0<=30:=by
 obtain ⟨e,r⟩:=KE _ s hs;by_cases h:k<ws.length
 ·have:=(JB bk.way k h).time
  have q:=r k h;unfold Gy at q;omega
 ·rw [CH O];decide
theorem numJ_ok(bk:Bd bP bO ps ws js ns){s:List Int}(hs:s ∈ Ca (JJ js) js.length)(k:Nat):0<=s.getD k 0/\s.getD k 0<=30:=by
 obtain ⟨e,r⟩:=KE _ s hs;by_cases h:k<js.length
 ·have:=(Lh (bk.job k h)).time
  have q:=r k h;unfold JJ at q;omega
 ·rw [CH O];decide
theorem toT_ok(bk:Bd bP bO ps ws js ns){s:List Int}(hs:s ∈ Ca (Gy ws) ws.length):Bt (JS s []):=⟨num_ok bk hs,λk=>by show 0<=([]:List Int).getD k 0/\([]:List Int).getD k 0<=30;rw [CH (Nat.zero_le _)];decide⟩
theorem pasts_mem(bk:Bd bP bO ps ws js ns){x:List Int×List Int}(h:x ∈ JK ws js ns):Bt (JS x.1 x.2)/\x.1.length=ws.length/\x.2.length=js.length:=by
 obtain ⟨w,a,h⟩:=List.mem_flatMap.1 h;obtain ⟨k,b,rfl⟩:=List.mem_map.1 h;have a:=(List.mem_filter.1 a).1;exact ⟨⟨num_ok bk a,numJ_ok bk b⟩,(KE _ w a).1,(KE _ k b).1⟩
theorem TX(bk:Bd bP bO ps ws js ns){pl:List P2}(hrp:rps pl=JK ws js ns)(hk:k<pl.length):Bt (JS (pl.getD k P2.o).w.2 (pl.getD k P2.o).k.2)/\(pl.getD k P2.o).w.2.length=ws.length/\(pl.getD k P2.o).k.2.length=js.length/\(AC ws js ns).getD k AG.zero=JS (pl.getD k P2.o).w.2 (pl.getD k P2.o).k.2:=by
 have a:k<(JK ws js ns).length:=by rw [<-hrp,OZ];exact hk
 have e:(JK ws js ns).getD k ([],[])=((pl.getD k P2.o).w.2,(pl.getD k P2.o).k.2):=by rw [<-hrp,rps_getD hk]
 have m:=pasts_mem bk (CS (d:=([],[])) a);rw [e] at m;refine ⟨m.1,m.2.1,m.2.2,?_⟩;rw [QX,Cy _ (by rw [List.length_map];exact a),List.getElem_map];rw [Cy _ a] at e;rw [e]
theorem H6{pl:List P2}(hrp:rps pl=JK ws js ns):(AC ws js ns).length=pl.length:=by
 rw [QX,List.length_map,<-hrp,OZ]
end
section
variable {bP bO:Int} {ps:List bY} {ws:List AF} {js:List AY} {ns:List AO} {l:List Int} {p:AG}
end
section
variable {G:AG->Int} {pq:List AG} {due:Int}
end
section
variable {bP bO:Int} {ps:List bY} {ws:List AF} {js:List AY} {ns:List AO} {l:List Int}
theorem hist_isR(hz:B7 bP bO ps ws js ns=0):Eq bP bO ps ws js ns=((AC ws js ns).length:Int):=bV hz
end
section
variable {G:AG->Int} {pq:List AG} {due v:Int} {i:Nat}
end
end Go.Ns
namespace Go.Ns
section
variable {ws:List AF} {l:List Int} {k j np:Nat} {w:AF} {p q:Int}
theorem TY(h:p=l.getD k 0):q ∈ IZ l k p q:=by
 unfold IZ;split
 ·simp
 ·rename_i e;exact Decidable.byContradiction λn=>e ⟨h,n⟩
theorem XL(h:w.a=l.getD k 0):w.b ∈ DY l k w:=(JI _ _ _ _).subset (TY h)
theorem XM(hk:k<l.length)(h:w.b=l.getD k 0):w.a ∈ DY l k w:=TY (h.trans (TO (JI _ _ _ _) hk).symm)
theorem Jy(hk:k<l.length):∀n,j<n->((ws.getD j AF.z).a=l.getD k 0->(ws.getD j AF.z).b ∈ A6 ws l k n)/\((ws.getD j AF.z).b=l.getD k 0->(ws.getD j AF.z).a ∈ A6 ws l k n)
 | n+1,h=>by
  by_cases e:j=n
  ·subst e;have c:=Gv (ws:=ws) (l:=l) (k:=k) j;have d:=TO c hk;exact ⟨λx=>XL (x.trans d.symm),λx=>XM (Nat.lt_of_lt_of_le hk c.length_le) (x.trans d.symm)⟩
  ·have f:=Jy hk n O;exact ⟨λx=>(Jx _ _ _).subset (f.1 x),λx=>(Jx _ _ _).subset (f.2 x)⟩
theorem Ky(m:Nat):∀d,BJ ws m<+:BJ ws (m+d)
 | 0=>List.prefix_refl _
 | d+1=>by
  refine (Ky m d).trans ?_;show BJ ws (m+d)<+:BJ ws (m+d+1)
  conv=>rhs;unfold BJ
  split
  ·exact Gv _
  ·exact List.prefix_refl _
theorem XR(ok:IR np (Di ws))(hnp:np<=4)(hj:j<ws.length):(ws.getD j AF.z).a ∈ Di ws↔(ws.getD j AF.z).b ∈ Di ws:=by
 have r:=ok.len;have f:∀{y z:Int},((∀k l,k<l.length->y=l.getD k 0->z ∈ A6 ws l k ws.length))->y ∈ Di ws->z ∈ Di ws:=by
  intro y z g h;obtain ⟨k,d,e⟩:=List.mem_iff_getElem.1 h;have i:(Di ws).getD k 0=y:=by rw [List.getD_eq_getElem?_getD,List.getElem?_eq_getElem d];exact e
  have c:k<(BJ ws k).length:=Decidable.byContradiction λn=>by
   have q:=VT (ws:=ws) (k:=k) O O;rw [q] at d;omega
  have m:BJ ws k<+:Di ws:=by
   have q:=Ky (ws:=ws) k (4-k);rw [show k+(4-k)=4 by omega] at q;exact q
  have o:BJ ws (k+1)<+:Di ws:=by
   have q:=Ky (ws:=ws) (k+1) (4-(k+1));rw [show k+1+(4-(k+1))=4 by omega] at q;exact q
  refine o.subset ?_;rw [Ly c];exact g k _ c (by rw [<-i];exact TO m c)
 exact ⟨f λk l d e=>(Jy d ws.length hj).1 e,f λk l d e=>(Jy d ws.length hj).2 e⟩
theorem canWay_in{R:List Int}{c:G2}{x:AF}(h:∀v,c v=true->(v:Int) ∈ R)(hx:((x.a.toNat:Nat):Int) ∈ R↔((x.b.toNat:Nat):Int) ∈ R):∀v,GF c x v=true->(v:Int) ∈ R:=by
 have f:∀v,(c.set x.a.toNat (c x.a.toNat || c x.b.toNat)) v=true->(v:Int) ∈ R:=λv d=>by
  unfold G2.set at d;split at d
  ·rename_i e;subst e
   rcases Bool.or_eq_true_iff.1 d with q | q
   ·exact h _ q
   ·exact hx.2 (h _ q)
  ·exact h _ d
 intro v d;unfold GF at d;generalize c.set x.a.toNat (c x.a.toNat || c x.b.toNat)=g at f d;unfold G2.set at d;split at d
 ·rename_i e;subst e
  rcases Bool.or_eq_true_iff.1 d with q | q
  ·exact f _ q
  ·exact hx.1 (f _ q)
 ·exact f _ d
theorem TZ{R:List Int}:∀(m:List AF)(c:G2),(∀v,c v=true->(v:Int) ∈ R)->(∀x ∈ m,((x.a.toNat:Nat):Int) ∈ R↔((x.b.toNat:Nat):Int) ∈ R)->∀v,m.foldl GF c v=true->(v:Int) ∈ R
 | [],_,h,_=>h
 | x ::m,c,h,d=>TZ m _ (canWay_in h (d x aG)) λy e=>d y (List.mem_cons_of_mem _ e)
theorem Vd{R:List Int}(hx:∀x ∈ ws,((x.a.toNat:Nat):Int) ∈ R↔((x.b.toNat:Nat):Int) ∈ R):∀n (c:G2),(∀v,c v=true->(v:Int) ∈ R)->∀v,FB ws n c v=true->(v:Int) ∈ R
 | 0,_,h=>h
 | n+1,c,h=>Vd hx n _ (TZ ws c h hx)
theorem XS(hn:0<np)(hnp:np<=4)(hw:NP np ws)(h:FY np ws=0):¬(Di ws).length<np:=by
 have m:IR np (Di ws):=KA hn hw 4;have o:(0:Int) ∈ Di ws:=(Ky (ws:=ws) 0 4).subset (by simp [BJ]);have d:∀x ∈ ws,((x.a.toNat:Nat):Int) ∈ Di ws↔((x.b.toNat:Nat):Int) ∈ Di ws:=λx d=>by
  obtain ⟨j,c,e⟩:=List.mem_iff_getElem.1 d;have f:ws.getD j AF.z=x:=by rw [List.getD_eq_getElem?_getD,List.getElem?_eq_getElem c];exact e
  have r:=hw j c;rw [f] at r;rw [Int.toNat_of_nonneg r.1.1,Int.toNat_of_nonneg r.2.1,<-f];exact XR m hnp c
 have all:∀y,y<np->(y:Int) ∈ Di ws:=λy s=>by
  refine Vd d np c0 (λv g=>?_) y (Decidable.byContradiction λn=>?_)
  ·unfold c0 G2.set G2.none at g;split at g
   ·rename_i e;subst e;exact o
   ·cases g
  ·have:(OB (FB ws np c0) np).any (λx=>(false==x))=true:=List.any_eq_true.2 ⟨false,by
    unfold OB;exact List.mem_map.2 ⟨y,List.mem_range.2 s,by simpa using n⟩,rfl⟩
   unfold FY at h;rw [show G2.none.set 0 true=c0 from rfl,bV this] at h;cases h
 intro t
 have:=Sw (Di ws).length np (λy=>(Di ws).idxOf (y:Int)) (λi u=>List.idxOf_lt_length_of_mem (all i u)) λi j C c e=>by
  have a:=List.getElem_idxOf (List.idxOf_lt_length_of_mem (all i O));have b:=List.getElem_idxOf (List.idxOf_lt_length_of_mem (all j c));have f:(Di ws).idxOf (i:Int)=(Di ws).idxOf (j:Int):=e
  have:(i:Int)=(j:Int):=by rw [<-a,<-b];congr 1
  omega
 omega
theorem rWays_eq(hn:0<np)(hnp:np<=4):Gx np ws=Fo np ws:=by
 unfold Gx Fo;split
 ·rfl
 ·split
  ·rfl
  ·rename_i b
   have z:=EF (Decidable.not_not.1 b);have a:NP np ws:=waysOK λk f=>z k (Nat.zero_le _) O;split
   ·rename_i c
    have:¬FY np ws=0:=λe=>XS hn hnp a e c
    unfold FY at this ⊢;split
    ·rfl
    ·rename_i d;rw [bU d] at this;exact absurd rfl this
   ·rename_i c;exact (XF hn a c).symm
variable {bP bO:Int} {ps:List bY} {js:List AY} {ns:List AO}
theorem Mb:H3 bP bO ps ws js ns=B7 bP bO ps ws js ns:=by
 unfold H3 B7;simp only [Da,Js];by_cases b:HX bP bO=0
 ·rw [bU (λn=>n b),bV b];by_cases a:B4 ps=0
  ·have f:=L0 a;rw [bU (λn=>n a),bV a,rWays_eq f.1 f.2];by_cases c:Fo ps.length ws=0
   ·rw [bU (λn=>n c),bV c];by_cases d:Cg ps.length bO js=0
    ·rw [bU (λn=>n d),bV d];split
     ·rename_i e;exact e
     ·rfl
    ·rw [bV d,bU d]
   ·rw [bV c,bU c]
  ·rw [bV a,bU a]
 ·rw [bV b,bU b]
end
end Go.Ns
namespace Go.Ns
section
variable (sf:List Int->Bool) (G:List Int->Int) (l:List (List Int))
variable {sf G l}
variable (G l)
variable {G l}
end
section
variable {sf:List Int->Bool} {l:List (List Int)} {k:Nat}
end
section
variable {bP bO:Int} {ps:List bY} {ws:List AF} {js:List AY} {ns:List AO} {l:List Int} {k:Nat}
def Ve(bP bO:Int)(ps:List bY)(ws:List AF)(js:List AY)(ns:List AO)(s:Int):List (List Int×List Int):=if Aw bP bO ps ws js ns s=0 then JK ws js ns else []
theorem KF{s:Int}(h:Aw bP bO ps ws js ns s=0):Ve bP bO ps ws js ns s=JK ws js ns:=bV h
theorem L8{s:Int}(h:¬Aw bP bO ps ws js ns s=0):Ve bP bO ps ws js ns s=[]:=bU h
theorem openB_zero{s:Int}(h:Aw bP bO ps ws js ns s=0):B7 bP bO ps ws js ns=0:=Decidable.byContradiction λn=>n ((OH n).symm.trans h)
theorem ZS{s:Int}(h:Aw bP bO ps ws js ns s=0):Aw bP bO ps ws js ns 0=0:=
 Wy (λn=>n (openB_zero h)) aG (by have:=(EX h).2.2;omega)
end
section
variable {sf:List Int->Bool} {G:List Int->Int} {xl:List Sl} {i:Nat} {all:List (List Int)}
end
end Go.Ns
namespace Go.Ns
theorem ZT{a z:Int}:∀{l:List Int},l.Pairwise (· < ·)->a ∈ l->l.getLast? =some z->a<=z
 | [],_,h,_=>by cases h
 | [x],_,h,e=>by
  rw [List.mem_singleton.1 h]
  have:x=z:=by simpa using e
  omega
 | x ::y ::l,c,h,e=>by
  obtain ⟨d,f⟩:=List.pairwise_cons.1 c;have b:(y ::l).getLast? =some z:=by rw [List.getLast?_cons_cons] at e;exact e
  have g:z ∈ y ::l:=List.mem_of_getLast? b;rcases List.mem_cons.1 h with q | q
  ·have:=d z g;omega
  ·exact ZT f q b
theorem Ta:∀(l acc:List Int),acc.Pairwise (· < ·)->l.Pairwise (·<=·)->(∀a ∈ acc,∀x ∈ l,a<=x)->(l.foldl JX acc).Pairwise (· < ·)/\∀y,y ∈ l.foldl JX acc↔y ∈ acc\/y ∈ l
 | [],acc,h,_,_=>⟨h,λy=>aG⟩
 | x ::l,acc,h,j,f=>by
  obtain ⟨k,m⟩:=List.pairwise_cons.1 j;have g:∀a ∈ acc,a<=x:=λa q=>f a q x aG;have c:(JX acc x).Pairwise (· < ·)/\∀y,y ∈ JX acc x↔y ∈ acc\/y=x:=by
   unfold JX;split
   ·rename_i e
    exact ⟨h,λy=>⟨.inl,λq=>q.elim id λq=>q▸List.mem_of_getLast? e⟩⟩
   ·rename_i e
    refine ⟨List.pairwise_append.2 ⟨h,List.pairwise_singleton _ _,λa q b n=>?_⟩,λy=>aG⟩;rw [List.mem_singleton.1 n];have r:=g a q
    have:a≠x:=λo=>by
     subst o;obtain ⟨z,d⟩:∃z,acc.getLast? =some z:=by
      cases p:acc.getLast? with
      | none=>rw [List.getLast?_eq_none_iff.1 p] at q;cases q
      | some z=>exact ⟨z,rfl⟩
     have s:=ZT h q d;have t:=g z (List.mem_of_getLast? d);exact e (by rw [d];congr 1;omega)
    omega
  have:=Ta l (JX acc x) c.1 m (λa q y i=>by
   rcases (c.2 a).1 q with q | q
   ·exact f a q y (List.mem_cons_of_mem _ i)
   ·rw [q];exact k y i)
  refine ⟨this.1,λy=>(this.2 y).trans ?_⟩;rw [c.2 y,List.mem_cons,or_assoc]
theorem sort_isD{l s:List Int}(ha:s.Pairwise (· < ·))(hm:∀y,y ∈ s↔y ∈ l):Dr (EV l)=s:=by
 have a:=List.pairwise_mergeSort (le:=λx y:Int=>decide (x<=y)) (λa b c d e=>by simp at *;omega) (λa b=>by simp;omega) l;rw [<-J4] at a;obtain ⟨d,e⟩:=Ta (EV l) [] List.Pairwise.nil (a.imp λ{x y} q=>of_decide_eq_true q) (λa q=>by cases q);exact asc_ext d ha λy=>(e y).trans (by rw [sortI_mem,hm y];simp)
section
variable {bP bO:Int} {ps:List bY} {ws:List AF} {js:List AY} {ns:List AO} {l:List Int} {a b:Int} {np i k:Nat}
theorem Tb:BE np [a,b]=if (0<=a/\a<=(np:Int)-1)/\(0<=b/\b<=(np:Int)-1) then 0 else 6:=by
 unfold BE;simp only [List.length_cons,List.length_nil,Da,FX,List.getD_cons_zero,List.getD_cons_succ];by_cases c:0<=a/\a<=(np:Int)-1
 ·by_cases d:0<=b/\b<=(np:Int)-1
  ·simp [c,d]
  ·simp [c,d]
 ·simp [c]
theorem there_two(h:0<=a/\a<=(np:Int)-1):(if decide (0<=b/\b<=(np:Int)-1)=true then (0:Int) else 6)=BE np [a,b]:=by
 rw [Tb];by_cases c:0<=b/\b<=(np:Int)-1
 ·rw [bV (decide_eq_true c),bV ⟨h,c⟩]
 ·rw [bU (by rw [decide_eq_false c];simp),bU (λq=>c q.2)]
theorem there_one(h:¬(0<=a/\a<=(np:Int)-1)):(if false=true then (0:Int) else 6)=BE np [a,b]:=by
 rw [Tb];simp [h]
theorem there_job{nj:Nat}:(if decide (0<=a/\a<=(nj:Int)-1)=true then (0:Int) else 6)=CJ nj a:=by
 unfold CJ;by_cases h:0<=a/\a<=(nj:Int)-1
 ·rw [bV (decide_eq_true h),bU (λq=>q h)]
 ·rw [bU (by rw [decide_eq_false h];simp),bV h]
theorem Vf(h:BE ps.length [a,b]=0):(0<=a/\a<=(ps.length:Int)-1)/\(0<=b/\b<=(ps.length:Int)-1):=Decidable.byContradiction λn=>by
 rw [Tb,bU n] at h;cases h
theorem far_end(h:0<(AC ws js ns).length)(hi:i=(AC ws js ns).length){x y:Nat}{F:List Int}(hF:F=((AC ws js ns).take i).map (λp=>Ap ps.length ws p x y)):JL F (F.length-1)=Df (λp=>Ap ps.length ws p x y) (AC ws js ns)/\JM F (F.length-1)=Cc (λp=>Ap ps.length ws p x y) (AC ws js ns):=by
 subst hF;rw [hi,List.take_of_length_le (Nat.le_refl _)];exact ⟨(ZI h).1,(ZI h).2⟩
theorem works_next{v:Int}(e:v=((AC ws js ns).getD i AG.zero).works k):Ec k (AC ws js ns) i++[v]=Ec k (AC ws js ns) (i+1):=by rw [e];rfl
theorem open_in{s:Int}{al:List P2}(he:rps al=Ve bP bO ps ws js ns s)(h:i<al.length):Aw bP bO ps ws js ns s=0:=Decidable.byContradiction λn=>by
 rw [L8 n] at he;have q:=congrArg List.length he;rw [OZ] at q;have c:al.length=0:=q;omega
theorem open_len{s:Int}{al:List P2}(he:rps al=Ve bP bO ps ws js ns s):al.length<=2000000:=by
 by_cases h:Aw bP bO ps ws js ns s=0
 ·rw [<-H6 (he.trans (KF h))];exact Ee (EX h).1
 ·rw [L8 h] at he;have q:=congrArg List.length he;rw [OZ] at q;have c:al.length=0:=q;omega
theorem worksR_end{al:List P2}{j:Int}(he:rps al=Ve bP bO ps ws js ns (CJ js.length j))(hi:i=al.length):FP bP bO ps ws js ns j=Dr (EV (Ec j.toNat (AC ws js ns) i)):=by
 unfold FP;by_cases h:Aw bP bO ps ws js ns (CJ js.length j)=0
 ·rw [bU (λn=>n h),hi,H6 (he.trans (KF h))]
 ·rw [bV h]
  have:i=0:=Decidable.byContradiction λn=>h (open_in (i:=i-1) he O)
  subst this;have e:EV []=[]:=List.eq_nil_of_length_eq_zero (by rw [EZ];rfl);show []=Dr (EV []);rw [e];rfl
end
end Go.Ns
namespace Go.Ns
open Go.Conc
universe u
theorem Z{α:Sort u}{a:α}:a=a:=rfl
theorem Lr{h:A}:A.Le h h:=A.Le.refl h
theorem Ln{h h':A}(l:h.Le h'){r:Nat}(hr:h' r=none):h r=none:=l.nothing hr
theorem DQ{h:A}{b r:Nat}{p:Bool}{o:Obj}(hb:h b=some (p,o))(hr:h r=none):b≠r:=A.ne_of hb hr
theorem Nb{a b:Nat}(h:Nat.ble a b=true):a<=b:=Nat.le_of_ble_eq_true h
theorem Dn{p:Prop}[Decidable p](h:¬¬p):p:=Decidable.not_not.1 h
theorem Et{α:Sort u}{a b c:α}(x:a=b)(y:b=c):a=c:=x.trans y
theorem Kl{h0 h:A}(k:KeepD (λb=>h0 b=none) h0 h):h0.Le h:=k.leOf
theorem Bx{h:A}{b:Nat}{p:Bool}{c:Array bW}{t:bX}{f:Nat×Nat}(hb:h b=some (p,.cells c t f)){n:Nat}(hn:c.size=n):Ao h b 0 n c:=Ao.box hb hn
abbrev lE(v:bW):Law2:=λ_ u _=>u=v
abbrev lF(v:bW):Us:=λu _=>u=v
abbrev zP:Array bW:=#[.int .i64 0,.int .i64 0,.slice none 0 0,.slice none 0 0,.slice none 0 0,.slice none 0 0,.map none]
section
variable {P:Program} {E:Ho P} {V:Nat->bW} {ds:List Deferred} {h:A} {Q:Post} {bN:(Nat->bW)->List Deferred->A->Prop}
variable {dst:Option Nat} {ty:bX} {pos:String} {af:Array Edge} {ops:Array Oper} {o:Oper} {l:List Oper}
theorem Sq{x y:Code}(a:Tr E x V ds h (λe σ' ds' h'=>match e with | .normal=>Tr E y σ' ds' h' Q | e=>Q e σ' ds' h')):Tr E (.seq x y) V ds h Q:=tr_seq a
theorem Rg{id:Nat}{l:List Oper}(a:Dy E l.toArray l V ds h Q):Tr E (.region id l.toArray false) V ds h Q:=tr_region a
theorem S(q:Q .normal V ds h):Dy E ops [] V ds h Q:=trL_nil q
abbrev Rt:=@tr_ret
abbrev Bk:=@tr_block
abbrev Sk:=@tr_skip
abbrev Xt:=@tr_exit
def plainB(N:Nat)(o:Oper):Bool:=o.guard.isNone && !Do o.op && Dj o.dst N
theorem U(hp:plainB E.N o=true)(x:B9 E o V ds h λσ' ds' h'=>Dy E ops l σ' ds' h' Q):Dy E ops (o ::l) V ds h Q:=by
 simp only [plainB,Bool.and_eq_true,Option.isNone_iff_eq_none,Bool.not_eq_true'] at hp;exact Hr hp.1.1 hp.1.2 hp.2 x
theorem Mv{x:Operand}(v:bW)(hp:Dj dst E.N=true)(hx:Ag V x=v)(k:Dy E ops l (putS V dst v) ds h Q):Dy E ops (⟨dst,.move x,ty,pos,af,none⟩ ::l) V ds h Q:=Hr rfl rfl hp (WT hx k)
theorem As{x:Operand}(v:bW)(hp:Dj dst E.N=true)(hx:Ag V x=v)(k:Dy E ops l (putS V dst v) ds h Q):Dy E ops (⟨dst,.assign x,ty,pos,af,none⟩ ::l) V ds h Q:=Hr rfl rfl hp (Ft hx k)
theorem Ld{t:bX}{x:Operand}{b off:Nat}(v:bW)(hp:Dj dst E.N=true)(hx:Ag V x=.pointer (some ⟨b,off,none⟩))(hr:Rd P h t b off v)(k:Dy E ops l (putS V dst v) ds h Q):Dy E ops (⟨dst,.load t x,ty,pos,af,none⟩ ::l) V ds h Q:=
 Hr rfl rfl hp (C6 hx hr k)
theorem Fa{s:bX}{x:Operand}{f o b off:Nat}(hf:Eh P s f=some o)(hp:Dj dst E.N=true)(hx:Ag V x=.pointer (some ⟨b,off,none⟩))(k:Dy E ops l (putS V dst (.pointer (some ⟨b,off+o,none⟩))) ds h Q) :
  Dy E ops (⟨dst,.fieldAddr s x f,ty,pos,af,none⟩ ::l) V ds h Q:=Hr rfl rfl hp (AR hf hx k)
theorem Pk{c a b:Operand}(t:Bool)(v:bW)(hp:Dj dst E.N=true)(hc:Ag V c=.bool t)(hv:(if t then Ag V a else Ag V b)=v)(k:Dy E ops l (putS V dst v) ds h Q):Dy E ops (⟨dst,.pick c a b,ty,pos,af,none⟩ ::l) V ds h Q:=
 Hr rfl rfl hp (BK hc hv k)
theorem Ad{xt yt:bX}{x y:Operand}(a b:Int)(hp:Dj dst E.N=true)(hx:Ag V x=.int .i64 a)(hy:Ag V y=.int .i64 b)(hr: -9223372036854775808<=a+b/\a+b<=9223372036854775807)(k:Dy E ops l (putS V dst (.int .i64 (a+b))) ds h Q) :
  Dy E ops (⟨dst,.binOp .add xt x y yt,ty,pos,af,none⟩ ::l) V ds h Q:=Hr rfl rfl hp (D3 hx hy hr k)
def skipB(N:Nat)(ops:Array Oper)(o:Oper)(j d:Nat)(is:Bool):Bool:=(match o.guard with
 | some (i,w)=>i==j && w !=is
 | none=>false) && (match ops[j]? with
 | some oj=>(match oj.dst with
  | some e=>e==d
  | none=>false)
 | none=>false) && Nat.blt d N && Dj o.dst N
theorem Gs(j d:Nat){is:Bool}(hv:V d=.bool is)(hs:skipB E.N ops o j d is=true)(x:Dy E ops l (putS V o.dst undef) ds h Q):Dy E ops (o ::l) V ds h Q:=by
 simp only [skipB,Bool.and_eq_true] at hs;obtain ⟨⟨⟨a,b⟩,m⟩,n⟩:=hs;cases f:o.guard with
 | none=>rw [f] at a;cases a
 | some q=>
  obtain ⟨i,w⟩:=q;rw [f] at a;simp only [Bool.and_eq_true,beq_iff_eq,bne_iff_ne,ne_eq] at a;obtain ⟨rfl,g⟩:=a;cases c:ops[i]? with
  | none=>rw [c] at b;cases b
  | some p=>
   cases k:p.dst with
   | none=>simp [c,k] at b
   | some e=>
    obtain rfl:e=d:=by simpa [c,k] using b
    exact Rv f c k hv m g n x
def goB(N:Nat)(ops:Array Oper)(o:Oper)(j d:Nat)(is:Bool):Bool:=(match o.guard with
 | some (i,w)=>i==j && w==is
 | none=>false) && (match ops[j]? with
 | some oj=>(match oj.dst with
  | some e=>e==d
  | none=>false)
 | none=>false) && Nat.blt d N && !Do o.op && Dj o.dst N
theorem Gg(j d:Nat){is:Bool}(hv:V d=.bool is)(hs:goB E.N ops o j d is=true)(x:B9 E o V ds h λσ' ds' h'=>Dy E ops l σ' ds' h' Q):Dy E ops (o ::l) V ds h Q:=by
 simp only [goB,Bool.and_eq_true,Bool.not_eq_true'] at hs;obtain ⟨⟨⟨⟨a,b⟩,k⟩,m⟩,n⟩:=hs;cases f:o.guard with
 | none=>rw [f] at a;cases a
 | some q=>
  obtain ⟨i,w⟩:=q;rw [f] at a;simp only [Bool.and_eq_true,beq_iff_eq] at a;obtain ⟨rfl,rfl⟩:=a;cases c:ops[i]? with
  | none=>rw [c] at b;cases b
  | some p=>
   cases g:p.dst with
   | none=>simp [c,g] at b
   | some e=>
    obtain rfl:e=d:=by simpa [c,g] using b
    exact trL_opg f c g hv k (.inr m) n x
end
section
variable {bK:Nat->Prop} {Pre:Nat->A->Prop} {Φ:List Law2} {cl:List Nat} {k d:Nat} {h h':A} {V:Nat->bW} {ds:List Deferred} {v:bW}
theorem fL{Φ:List Us}(p:N0 Φ k v h):ds=ds/\A.Le h h/\∃w,putS V (some d) v=putS V (some d) w/\N0 Φ k w h:=⟨rfl,A.Le.refl _,_,rfl,p⟩
theorem K1{R:A->A->Prop}{Φ:List Us}{a:bW}(x:HO R Φ):HO R (lF a ::Φ):=⟨λ_ _ _ _ y=>y,x⟩
theorem K2{R:A->A->Prop}{Φ:List Us}{a b:bW}(x:HO R Φ):HO R (lF a ::lF b ::Φ):=K1 (K1 x)
theorem K4{R:A->A->Prop}{Φ:List Us}{a b c d:bW}(x:HO R Φ):HO R (lF a ::lF b ::lF c ::lF d ::Φ):=K2 (K2 x)
theorem K8{R:A->A->Prop}{Φ:List Us}{a b c d a' b' c' d':bW}(x:HO R Φ):HO R (lF a ::lF b ::lF c ::lF d ::lF a' ::lF b' ::lF c' ::lF d' ::Φ):=K4 (K4 x)
end
end Go.Ns
namespace Go.Ns
open Go.Conc
section
variable {P:Program} {E:Ho P} {V:Nat->bW} {ds:List Deferred} {h:A} {Q:Post} {bN:(Nat->bW)->List Deferred->A->Prop}
variable {dst:Option Nat} {ty:bX} {pos:String} {af:Array Edge} {ops:Array Oper} {o:Oper} {l:List Oper} {gd:Option (Nat×Bool)}
theorem Mz{x:Operand}(v:bW)(e:(Dj dst E.N,Ag V x)=(true,v))(k:Dy E ops l (putS V dst v) ds h Q):Dy E ops (⟨dst,.move x,ty,pos,af,none⟩ ::l) V ds h Q:=Mv v (congrArg Prod.fst e) (congrArg Prod.snd e) k
theorem B{x:Operand}(v:bW)(e:(Dj dst E.N,Ag V x)=(true,v))(k:Dy E ops l (putS V dst v) ds h Q):Dy E ops (⟨dst,.assign x,ty,pos,af,none⟩ ::l) V ds h Q:=As v (congrArg Prod.fst e) (congrArg Prod.snd e) k
theorem Lz{t:bX}{x:Operand}{b off:Nat}(v:bW)(e:(Dj dst E.N,Ag V x)=(true,.pointer (some ⟨b,off,none⟩)))(hr:Rd P h t b off v)(k:Dy E ops l (putS V dst v) ds h Q):Dy E ops (⟨dst,.load t x,ty,pos,af,none⟩ ::l) V ds h Q:=
 Ld v (congrArg Prod.fst e) (congrArg Prod.snd e) hr k
theorem Fz{s:bX}{x:Operand}{f o b off:Nat}(hf:Eh P s f=some o)(e:(Dj dst E.N,Ag V x)=(true,.pointer (some ⟨b,off,none⟩)))(k:Dy E ops l (putS V dst (.pointer (some ⟨b,off+o,none⟩))) ds h Q) :
  Dy E ops (⟨dst,.fieldAddr s x f,ty,pos,af,none⟩ ::l) V ds h Q:=Fa hf (congrArg Prod.fst e) (congrArg Prod.snd e) k
theorem Pz{c a b:Operand}(t:Bool)(v:bW)(e:(Dj dst E.N,Ag V c,(if t then Ag V a else Ag V b))=(true,.bool t,v))(k:Dy E ops l (putS V dst v) ds h Q):Dy E ops (⟨dst,.pick c a b,ty,pos,af,none⟩ ::l) V ds h Q:=
 Pk t v (congrArg Prod.fst e) (congrArg (λq=>q.2.1) e) (congrArg (λq=>q.2.2) e) k
theorem Yd{xt yt:bX}{x y:Operand}{a b:Int}(e:(Dj dst E.N,Ag V x,Ag V y)=(true,.int .i64 a,.int .i64 b))(hr: -9223372036854775808<=a+b/\a+b<=9223372036854775807)(k:Dy E ops l (putS V dst (.int .i64 (a+b))) ds h Q) :
  Dy E ops (⟨dst,.binOp .add xt x y yt,ty,pos,af,none⟩ ::l) V ds h Q:=Ad a b (congrArg Prod.fst e) (congrArg (λq=>q.2.1) e) (congrArg (λq=>q.2.2) e) hr k
theorem Mo{x:Operand}(v:bW)(hx:Ag V x=v)(k:bN (putS V dst v) ds h):B9 E ⟨dst,.move x,ty,pos,af,gd⟩ V ds h bN:=WT hx k
theorem Lo{t:bX}{x:Operand}{b off:Nat}(v:bW)(hx:Ag V x=.pointer (some ⟨b,off,none⟩))(hr:Rd P h t b off v)(k:bN (putS V dst v) ds h):B9 E ⟨dst,.load t x,ty,pos,af,gd⟩ V ds h bN:=C6 hx hr k
theorem Ex{x:Operand}{n:Nat}{vs:Array bW}(v:bW)(e:(Ag V x,vs[n]?)=(.tuple vs,some v))(k:bN (putS V dst v) ds h):B9 E ⟨dst,.extract x n,ty,pos,af,gd⟩ V ds h bN:=Z7 (congrArg Prod.fst e) (congrArg Prod.snd e) k
theorem Bo{t:bX}{x:Operand}{v:bW}(c:Array bW)(hx:Ag V x=v)(hc:v.cells=c)
  (k:∀r h',h r=none->h.Le h'->h' r=some (true,.cells c t (0,0))->(∀b,b≠r->h' b=h b)->bN (putS V dst (.pointer (some ⟨r,0,none⟩))) ds h'):B9 E ⟨dst,.box t x,ty,pos,af,gd⟩ V ds h bN:=WU hx hc k
theorem So{t:bX}{a x:Operand}{b off n:Nat}{g:Bool}{c:Array bW}{et:bX}(v:bW)(c':Array bW)(ht:DN P t=some (g,n))(e:(Ag V a,Ag V x)=(.pointer (some ⟨b,off,none⟩),v))(hb:h b=some (true,.cells c et (0,0)))
  (e2:(v.cells.size,Value.fine v)=(n,true)) (hn:off+n<=c.size) (hc:CK c off v.cells.toList=c') (k:∀h',h' b=some (true,.cells c' et (0,0))->(∀x,x≠b->h' x=h x)->bN (putS V dst undef) ds h') :
  B9 E ⟨dst,.store t a x,ty,pos,af,gd⟩ V ds h bN:=A1 ht (congrArg Prod.fst e) (congrArg Prod.snd e) hb (congrArg Prod.fst e2) (congrArg Prod.snd e2) hn hc k
theorem Ot{fn:Func}{R:bW->A->Prop}{t:Tmp}(v:bW)(e:(fn.results,V t)=(#[.tmp t],v))(x:R v h):Hp P fn V R [] h:=Mp (congrArg Prod.fst e) (congrArg Prod.snd e) x
theorem Ou{fn:Func}{R:bW->A->Prop}{t u:Tmp}(v v':bW)(e:(fn.results,V t,V u)=(#[.tmp t,.tmp u],v,v'))(x:R (.tuple #[v,v']) h):Hp P fn V R [] h:=outs2 (congrArg Prod.fst e) (congrArg (λq=>q.2.1) e) (congrArg (λq=>q.2.2) e) x
theorem T{id:Nat}{y:Code}(a:Dy E l.toArray l V ds h (λe σ' ds' h'=>match e with | .normal=>Tr E y σ' ds' h' Q | e=>Q e σ' ds' h')):Tr E (.seq (.region id l.toArray false) y) V ds h Q:=Sq (Rg a)
theorem S2{id:Nat}{y z:Code}(a:Dy E l.toArray l V ds h (λe σ' ds' h'=>match e with | .normal=>Tr E y σ' ds' h' (λe σ' ds' h'=>match e with | .normal=>Tr E z σ' ds' h' Q | e=>Q e σ' ds' h') | e=>(λe σ' ds' h'=>match e with | .normal=>Tr E z σ' ds' h' Q | e=>Q e σ' ds' h') e σ' ds' h')) :
  Tr E (.seq (.seq (.region id l.toArray false) y) z) V ds h Q:=Sq (Sq (Rg a))
theorem Zr{α:Type}{a b:α}:a=b\/a=a:=.inr rfl
theorem M2{x x':Operand}{dst':Option Nat}{ty':bX}{pos':String}{af':Array Edge}(v v':bW)(e:(Dj dst E.N,Ag V x,Dj dst' E.N,Ag (putS V dst v) x')=(true,v,true,v'))(k:Dy E ops l (putS (putS V dst v) dst' v') ds h Q):Dy E ops (⟨dst,.move x,ty,pos,af,none⟩ ::⟨dst',.move x',ty',pos',af',none⟩ ::l) V ds h Q:=
 Mv v (congrArg Prod.fst e) (congrArg (λq=>q.2.1) e) (Mv v' (congrArg (λq=>q.2.2.1) e) (congrArg (λq=>q.2.2.2) e) k)
theorem A2{x x':Operand}{dst':Option Nat}{ty':bX}{pos':String}{af':Array Edge}(v v':bW)(e:(Dj dst E.N,Ag V x,Dj dst' E.N,Ag (putS V dst v) x')=(true,v,true,v'))(k:Dy E ops l (putS (putS V dst v) dst' v') ds h Q):Dy E ops (⟨dst,.assign x,ty,pos,af,none⟩ ::⟨dst',.assign x',ty',pos',af',none⟩ ::l) V ds h Q:=
 As v (congrArg Prod.fst e) (congrArg (λq=>q.2.1) e) (As v' (congrArg (λq=>q.2.2.1) e) (congrArg (λq=>q.2.2.2) e) k)
theorem Ct{W:Wk P}{f:FuncId}{fn:Func}{c:Code}{args:Array bW}{R:bW->A->Prop}(hf:P.funcs[f]? =some fn)(e:(fn.body,Nat.ble args.size fn.ntmps)=(some c,true))
  (x:Tr ⟨W,f,none,fn.ntmps⟩ c (λi=>args.getD i undef) [] h (λe V ds h'=>(e=.normal\/e=.ret)/\Hp P fn V R ds h')):Al W f args h R:=Z6 hf (congrArg Prod.fst e) (Nat.le_of_ble_eq_true (congrArg Prod.snd e)) x
end
section
variable {P:Program} {E:Ho P} {l:List Oper} {n:Nat} {fl:Bool} {hs:A} {ds:List Deferred} {Lw:Nat->bW->A->Prop} {F:(Nat->bW)->A->Prop} {π:List Nat} {V:Nat->bW} {h:A} {m k g d:Nat} {dst:Option Nat} {op:Op} {ty:bX} {pos:String} {af:Array Edge} {v:bW} {w is:Bool} {og:Oper}
theorem Rz(e:(Mr m,l[k]?)=((.r,k),some ⟨dst,op,ty,pos,af,none⟩))(x:WZ E ⟨dst,op,ty,pos,af,none⟩ V ds h v)(y:TD E l n fl hs ds Lw F (dK π) (putS V dst v) h):TD E l n fl hs ds Lw F (dK (m ::π)) V h:=tR (congrArg Prod.fst e) (congrArg Prod.snd e) x y
theorem Rm{x:Operand}(v:bW)(e:(Mr m,l[k]?,Ag V x)=((.r,k),some ⟨dst,.move x,ty,pos,af,none⟩,v))(y:TD E l n fl hs ds Lw F (dK π) (putS V dst v) h):TD E l n fl hs ds Lw F (dK (m ::π)) V h:=
 tR (congrArg Prod.fst e) (congrArg (λq=>q.2.1) e) (WT (congrArg (λq=>q.2.2) e) L) y
theorem Rl{t:bX}{x:Operand}{b off:Nat}(v:bW)(e:(Mr m,l[k]?,Ag V x)=((.r,k),some ⟨dst,.load t x,ty,pos,af,none⟩,.pointer (some ⟨b,off,none⟩)))(hr:Rd P h t b off v)(y:TD E l n fl hs ds Lw F (dK π) (putS V dst v) h):TD E l n fl hs ds Lw F (dK (m ::π)) V h:=
 tR (congrArg Prod.fst e) (congrArg (λq=>q.2.1) e) (C6 (congrArg (λq=>q.2.2) e) hr L) y
theorem Py(e:(Mr m,l[k]?)=((.p,k),some ⟨dst,op,ty,pos,af,none⟩))(x:∀hx,WZ E ⟨dst,op,ty,pos,af,none⟩ V ds hx v)(y:TD E l n fl hs ds Lw F (dK π) (putS V dst v) h):TD E l n fl hs ds Lw F (dK (m ::π)) V h:=tP (congrArg Prod.fst e) (congrArg Prod.snd e) x y
theorem Ry(e:(Mr m,l[k]?,l[g]?,og.dst)=((.r,k),some ⟨dst,op,ty,pos,af,some (g,w)⟩,some og,some d))(h3:V d=.bool w)(x:WZ E ⟨dst,op,ty,pos,af,some (g,w)⟩ V ds h v)
  (y:TD E l n fl hs ds Lw F (dK π) (putS V dst v) h):TD E l n fl hs ds Lw F (dK (m ::π)) V h:=tRg (congrArg Prod.fst e) (congrArg (λq=>q.2.1) e) (congrArg (λq=>q.2.2.1) e) (congrArg (λq=>q.2.2.2) e) h3 x y
theorem Sz{kd:Kd}(e:(Mr m,l[k]?,l[g]?,og.dst)=((kd,k),some ⟨dst,op,ty,pos,af,some (g,w)⟩,some og,some d))(h3:V d=.bool is)(hne:(is==w)=false)
  (y:TD E l n fl hs ds Lw F (dK π) (putS V dst undef) h) (hl:(kd !=Kd.l)=true:=by rfl):TD E l n fl hs ds Lw F (dK (m ::π)) V h:=tS (congrArg Prod.fst e) (congrArg (λq=>q.2.1) e) (congrArg (λq=>q.2.2.1) e) (congrArg (λq=>q.2.2.2) e) h3 hne y hl
end
end Go.Ns
namespace Go.Ns
open Go.Conc
structure Fe(h:A)(ps:List bY)(bR:bW)(ws:List AF)(bQ:bW)(js:List AY)(bS:bW)(ns:List AO)(bT:bW):Prop where
 a:Ai h bR 1 F9 ps
 b:Ai h bQ 4 EW ws
 c:Ai h bS 5 Dk js
 d:DJ h js
 e:Ai h bT 3 Co ns
 f:BR h ns
theorem Fe.le{h h':A}{ps:List bY}{bR:bW}{ws:List AF}{bQ:bW}{js:List AY}{bS:bW}{ns:List AO}{bT:bW}(x:Fe h ps bR ws bQ js bS ns bT)(l:h.Le h'):Fe h' ps bR ws bQ js bS ns bT:=⟨x.1.le l,x.2.le l,x.3.le l,x.4.le l,x.5.le l,x.6.le l⟩
abbrev J(x:Int):bW:=.int .i64 x
abbrev Pt(b:Nat):bW:=.pointer (some ⟨b,0,none⟩)
abbrev Sc(b:Nat)(n c:Nat):bW:=.slice (some ⟨b,0,none⟩) n c
abbrev Q0:Array bW:=#[J 0,J 0,.slice none 0 0,.slice none 0 0,.slice none 0 0,.slice none 0 0,.slice none 0 0,.map none]
abbrev Q1(a:List AF)(b:List AY)(c:List AO)(d:Nat):Array bW:=#[J (((AC a b c).getD (((d:Int)-1).toNat) AG.zero).ways 0),J (((AC a b c).getD (((d:Int)-1).toNat) AG.zero).ways 1),J (((AC a b c).getD (((d:Int)-1).toNat) AG.zero).ways 2),J (((AC a b c).getD (((d:Int)-1).toNat) AG.zero).ways 3),J (((AC a b c).getD (((d:Int)-1).toNat) AG.zero).ways 4)]
abbrev Q2(a:List AF)(b:Nat):Array bW:=#[J ((a.getD b AF.z).a),J ((a.getD b AF.z).b),J ((a.getD b AF.z).low),J ((a.getD b AF.z).high)]
abbrev Q3(a:Int)(b:Int)(c:List bY)(d:List AF)(e:List AY)(f:List AO)(g:Int)(h:Int):=Aw a b c d e f (BE c.length [g,h])
abbrev Q4(a:List AF)(b:List AY)(c:List AO)(d:Nat):Array bW:=#[J (((AC a b c).getD d AG.zero).ways 0),J (((AC a b c).getD d AG.zero).ways 1),J (((AC a b c).getD d AG.zero).ways 2),J (((AC a b c).getD d AG.zero).ways 3),J (((AC a b c).getD d AG.zero).ways 4)]
abbrev Q5(a:bY)(b:Nat):=decide (¬(((97<=((bytesOf a).getD b 0))/\(((bytesOf a).getD b 0)<=122))\/(((0<(b:Int))/\(48<=((bytesOf a).getD b 0)))/\(((bytesOf a).getD b 0)<=57))))
abbrev Q6(a:Int):=Mg (Mg a (Gk a 13)) ((Mg a (Gk a 13)) / 128)
abbrev Q7:bW:=.slice none 0 0
abbrev Q8(a:List AO)(b:Nat):Array bW:=#[(a.getD b AO.z).wv,J ((a.getD b AO.z).low),J ((a.getD b AO.z).high)]
abbrev Q9(a:bY)(b:Nat):=(bytesOf a).getD b 0
abbrev Qa(a:List AY)(b:Nat):=decide ((¬(((0<=((a.getD b AY.z).low)/\((a.getD b AY.z).low)<=((a.getD b AY.z).high))/\((a.getD b AY.z).high)<=30)/\((a.getD b AY.z).high)-((a.getD b AY.z).low)<2))\/(¬(0<=((a.getD b AY.z).due)/\((a.getD b AY.z).due)<=200)))
abbrev Qb(a:List AF)(b:Nat):=(a.getD b AF.z).b
abbrev Qc(a:List AY)(b:Nat):Array bW:=#[J ((a.getD b AY.z).place),J ((a.getD b AY.z).low),J ((a.getD b AY.z).high),J ((a.getD b AY.z).due),(a.getD b AY.z).pv]
abbrev Qd(a:List AG)(b:Nat):=(a.drop (1)).getD b AG.zero
abbrev Qe(a:List bW)(b:Array Int)(c:Nat)(d:Nat):=CT a ((b.setIfInBounds c (b[d]!)).setIfInBounds d (b[c]!))
abbrev Qf(a:Nat)(b:Array Int)(c:Nat):=Sc a b.size c
abbrev Qg(a:List AF)(b:Nat):=(a.getD b AF.z).a
abbrev Qh(a:List AY)(b:Nat):=(a.getD b AY.z).high
abbrev Qi(a:List AY)(b:Nat):=(a.getD b AY.z).low
abbrev Qj(a:List bY)(b:List AF)(c:List AY)(d:List AO):=decide ((((20<(a.length:Int))\/(20<(b.length:Int)))\/(20<(c.length:Int)))\/(20<(d.length:Int)))
abbrev Qk(a:Int)(b:Int)(c:List bY)(d:List AF)(e:List AY)(f:List AO)(g:Int):=Aw a b c d e f (CJ e.length g)
abbrev Ql(a:List AF)(b:Nat):Array bW:=#[J ((a.getD b AF.z).low),J ((a.getD b AF.z).high)]
abbrev Qm(a:Int)(b:Int):=decide ((¬(0<=a/\a<=9))\/(¬(0<=b/\b<=3)))
abbrev Qn(a:List AF)(b:List AY)(c:List AO)(d:Nat):bW:=.agg (A3 ((AC a b c).getD d AG.zero))
abbrev Qo(a:List AY)(b:List Int):=BA a.length b
abbrev Qp(a:Int)(b:Int):bW:=.bool (decide (a<=b))
abbrev Qq(a:Int)(b:Int)(c:Int)(d:Int):=decide ((((0<=a)/\(a<=b))/\(b<=c))/\((b-a)<d))
abbrev Qr(a:List bY)(b:List AF)(c:Nat):=J (BE a.length [(b.getD c AF.z).a,(b.getD c AF.z).b])
abbrev Qs(a:Nat)(b:Nat)(c:Array Int)(d:Nat):=decide (((a:Int)<=(b:Int))/\(¬((c[b]!)<(c[d]!))))
abbrev Qt(a:List AG):=a.getD 0 AG.zero
abbrev Qu(a:List Int)(b:Nat):=J (a.getD b 0)
abbrev Qv(a:List AO)(b:Nat):Array bW:=#[J ((a.getD b AO.z).low),J ((a.getD b AO.z).high)]
abbrev Qw(a:List AO)(b:Nat)(c:Nat):=((a.getD b AO.z).ways).getD c 0
abbrev Qx(a:Int)(b:Int):=decide (((0<=a/\a<=b)/\b<=30)/\((b-a)<2))
abbrev Qy(a:Int)(b:Int)(c:List bY)(d:List AF)(e:List AY)(f:List AO)(g:List Int):=decide ((Cb a b c d e f g)=(Cb a b c d e f g))
abbrev Qz(a:List bW)(b:Array Int)(c:Nat)(d:Nat):=CT a (b.setIfInBounds c (b[d]!))
abbrev Q10(a:Nat):=J ((2*(a:Int))+1)
abbrev Q11(a:Nat)(b:Int)(c:Array Int)(d:Nat):=decide (((((2*(a:Int))+1)+1)<b)/\((c[(d+((2*a)+1))]!)<(c[((d+((2*a)+1))+1)]!)))
abbrev Ml(a:Int)(b:Int)(c:List bY)(d:List AF)(e:List AY)(f:List AO):=J (B7 a b c d e f)
abbrev Q13(a:Int)(b:Int)(c:Int):=decide ((a<=b)/\(b<=c))
abbrev Q14(a:Nat)(b:Nat):bW:=.bool (decide ((a:Int)<=(b:Int)))
abbrev Q15(a:Int)(b:Int)(c:List bY)(d:List AF)(e:List AY)(f:List AO):=decide (((¬(Eq a b c d e f)=(Eq a b c d e f))\/(¬(B7 a b c d e f)=(B7 a b c d e f)))\/(¬(B7 a b c d e f)=(B7 a b c d e f)))
abbrev Q16(a:Nat)(b:Nat):=J ((a:Int)-(b:Int))
abbrev Q17(a:Int)(b:Int)(c:Int)(d:Int):=decide (((a<=b)/\(b<=c))/\(c<=d))
abbrev Q18(a:Nat)(b:Nat)(c:Array Int):=decide (((a:Int)<(b:Int))/\((c[b]!)<(c[((b:Int)-1).toNat]!)))
abbrev Q19(a:List AY)(b:Nat):=(a.getD b AY.z).due
abbrev Q1a(a:List AO)(b:Nat):=(a.getD b AO.z).wv
abbrev Q1b(a:List Int):=decide (20<(a.length:Int))
abbrev Q1c(a:Nat):=J (((2*(a:Int))+1)+1)
abbrev Q1d(a:Nat)(b:Array Int)(c:Nat):=decide ((0<(a:Int))/\(¬((b[((a:Int)-1).toNat]!)<(b[c]!))))
abbrev Q1e(a:bY):=decide (((a.size:Int)<1)\/(10<(a.size:Int)))
abbrev Q1f(a:Int):=decide ((97<=a)/\(a<=122))
abbrev ZU(a:Int)(b:Int)(c:bW)(d:bW)(e:bW)(f:bW):Array bW:=#[.agg #[J a,J b,c,d,e,f]]
abbrev Q1h(a:Array Int)(b:Nat)(c:Nat):=decide (¬((a[b]!)<(a[c]!)))
abbrev Q1i(a:Int):=decide (¬(0<=a/\a<=3))
abbrev Q1j(a:Nat):bW:=.func (.func 139) #[] #[Pt a]
abbrev Q1k(a:Nat):=J ((a:Int)+1)
abbrev Q1l:bW:=.agg #[J 0,J 0]
abbrev Q1m(a:List Int)(b:Nat)(c:List Int):=J (Wg (a.getD b 0) (c.getD b 0))
abbrev Q1n(a:List Sl)(b:Nat):=((a.drop (1)).getD b Sl.z).1
abbrev Q1o(a:List Int):Array bW:=#[J (a.getD 0 0),J (a.getD 0 0)]
abbrev Q1p(a:Int):=decide ((48<=a)/\(a<=57))
abbrev Q1q(a:List AY)(b:List Int)(c:Nat):=J (CJ a.length (b.getD c 0))
abbrev Q1r(a:List AF)(b:Nat):=EW (a.getD b AF.z)
end Go.Ns
