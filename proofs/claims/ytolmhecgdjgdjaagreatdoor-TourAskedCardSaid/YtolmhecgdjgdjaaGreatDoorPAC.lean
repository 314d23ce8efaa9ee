/- Rules and walks, part 3 of 6. No conditions. -/
import Derived.Carry
import Derived.Conc.LeavingOf
import Derived.LaidMore
import Derived.OpenShut
import Derived.ProofKit
import Derived.Test.YtolmhecgdjgdjaaGreatDoorPAB
import Derived.Test.YtolmhecgdjgdjaaGreatDoorProg
set_option linter.unusedVariables false
set_option linter.unusedSimpArgs false
set_option linter.unnecessarySimpa false
set_option linter.unusedSectionVars false
namespace Go.Ns
open Go.Conc
section
variable {P:Program} {E:GJ P} {O:Nat->Value} {ds:List Deferred} {h:GH} {T:(Nat->Value)->List Deferred->GH->Prop} {dst:Option Nat} {ty:TypeId} {pos:String} {af:Array Edge} {gd:Option (Nat×Bool)}
theorem ok_eqlB{xt yt:TypeId}{x y:Operand}{a b:Bool}(hx:AN O x=.bool a)(hy:AN O y=.bool b)(he:Nm P 1 xt (.bool a) (.bool b)=some (a==b))(k:T (putS O dst (.bool (a==b))) ds h):BT E ⟨dst,.binOp .eql xt x y yt,ty,pos,af,gd⟩ O ds h T:=by
 unfold BT execOp;simp only [hx,hy];refine Fb (AF _ _ ?_);have hg:∀(Q:Unit->GH->Prop),Q () h->(eqGuard .eql xt x y (.bool a) (.bool b)).gh P h Q:=λQ q=>q;refine hg _ ?_;show Sem.gh P (do pure (Value.bool (<-Op.equal xt (.bool a) (.bool b))):Sem Value) h _;refine AF _ _ ?_;exact Hc 1 _ _ _ _ (a==b) h _ aC he k
theorem P2{t:TypeId}{x o:Operand}{m n b off hi:Nat}(ht:Mi P t=some (m,n))(hx:AN O x=.pointer (some ⟨b,off,none⟩))(ho:∃kd,AN O o=.int kd hi)(h2:hi<=m)(k:T (putS O dst (.slice (some ⟨b,off,none⟩) hi m)) ds h) :
  BT E ⟨dst,.slice t x none (some o) none,ty,pos,af,gd⟩ O ds h T:=by
 obtain ⟨kd,e⟩:=ho;unfold BT execOp;simp only [hx];refine Fb ?_;unfold Mi at ht;unfold Instr.sliceAt;cases hu:P.underlying t with
 | none=>rw [hu] at ht;cases ht
 | some d=>
  rw [hu] at ht;cases d <;> first | (cases ht;done) | skip
  rename_i el
  simp only [Option.map_eq_some_iff,Prod.mk.injEq] at ht;obtain ⟨x0,hx0,rfl,rfl⟩:=ht;refine AF _ _ (Am hu ?_);dsimp only;refine AF _ _ (Aw ?_);unfold Instr.sliceBounds;simp only [Option.map_some,Option.map_none,e,Bool.false_eq_true,↓reduceIte];refine AF _ _ (AF _ _ (Aw (AF _ _ (DC aA aA (AF _ _ (Aw (Aw ?_)))))));refine AF _ _ (D6 hx0 (Aw ?_));simp only [Nat.sub_zero,Nat.zero_mul,Im,Nat.add_zero,ite_self,Int.toNat_natCast];exact k
end
def eBo(b:Bool):Array Value:=#[.bool b]
theorem can_sl{h:GH}{r n:Nat}{p:Bool}{c:HW}{t:TypeId}{f:Nat×Nat}(hb:h r=some (p,.cells (F4 c) t f))(hn:n<=4):AE h (.slice (some ⟨r,0,none⟩) n 4) 1 eBo (Og c n):=by
 refine ⟨some ⟨r,0,none⟩,4,by simp [Og],by simpa [Og] using hn,by simp [Og];omega,λi hi=>⟨r,0,rfl,p,_,t,f,hb,?_,?_⟩⟩
 ·have:i<n:=by simpa [Og] using hi
  show 0+i*1+1<=4;omega
 ·have hi':i<n:=by simpa [Og] using hi
  have h4:i<4:=aA
  have e:(Og c n)[i]=c i:=by simp [Og]
  rw [e]
  match i,h4 with
  | 0,_=>rfl
  | 1,_=>rfl
  | 2,_=>rfl
  | 3,_=>rfl
theorem Oj{ws:List AD}{c c':HW}{np k:Nat}(h:Dy ws (np-k) c=c')(hk:np<=k):c=c':=by
 rw [Nat.sub_eq_zero_of_le hk] at h;exact h
theorem Tm{ws:List AD}{c c':HW}{np k:Nat}(h:Dy ws (np-k) c=c')(hk:k<np):Dy ws (np-(k+1)) (Gr ws c)=c':=by
 rw [show np-k=(np-(k+1))+1 by omega] at h;exact h
def BG(ws:List AD)(c:HW)(k:Nat):HW:=(ws.take k).foldl Ed c
theorem VT{ws:List AD}{c:HW}{k:Nat}(hk:k<ws.length):BG ws c (k+1)=Ed (BG ws c k) (ws.getD k AD.z):=by
 unfold BG;rw [ET AD.z hk,List.foldl_append];rfl
theorem YF{ws:List AD}{c:HW}{k:Nat}(hk:ws.length<=k):BG ws c k=Gr ws c:=by
 unfold BG Gr;rw [List.take_of_length_le hk]
structure AG where
 ways:Nat->Int
 works:Nat->Int
def AG.zero:AG:=⟨λ_=>0,λ_=>0⟩
def Ac(p:AG):Array Value:=#[.int .i64 (p.ways 0),.int .i64 (p.ways 1),.int .i64 (p.ways 2),.int .i64 (p.ways 3),.int .i64 (p.ways 4),
 .int .i64 (p.works 0),.int .i64 (p.works 1),.int .i64 (p.works 2),.int .i64 (p.works 3)]
theorem Fl(p:AG):(Value.agg (Ac p)).cells.size=9:=rfl
theorem Fm(p:AG):Value.fine (.agg (Ac p))=true:=rfl
theorem GS(p:AG):0+9<=(Ac p).size:=Nat.le_refl 9
theorem GT(p q:AG):Bq (Ac p) 0 (Value.agg (Ac q)).cells.toList=Ac q:=by
 simp [Value.cells,Ac,Bq]
def AG.setWay(p:AG)(i:Nat)(n:Int):AG:={ p with ways:=λk=>if k=i then n else p.ways k }
def AG.setWork(p:AG)(i:Nat)(n:Int):AG:={ p with works:=λk=>if k=i then n else p.works k }
theorem GU{p:AG}{i:Nat}(h:i<5):(Ac p)[0+i*1]? =some (.int .i64 (p.ways i)):=by
 match i,h with
 | 0,_=>rfl
 | 1,_=>rfl
 | 2,_=>rfl
 | 3,_=>rfl
 | 4,_=>rfl
theorem JX{p:AG}{i:Nat}(h:i<4):(Ac p)[5+i*1]? =some (.int .i64 (p.works i)):=by
 match i,h with
 | 0,_=>rfl
 | 1,_=>rfl
 | 2,_=>rfl
 | 3,_=>rfl
theorem P3{p:AG}{i:Nat}{n:Int}(h:i<5):Bq (Ac p) (0+i*1) [.int .i64 n]=Ac (p.setWay i n):=by
 match i,h with
 | 0,_=>rfl
 | 1,_=>rfl
 | 2,_=>rfl
 | 3,_=>rfl
 | 4,_=>rfl
theorem Ok{p:AG}{i:Nat}{n:Int}(h:i<4):Bq (Ac p) (5+i*1) [.int .i64 n]=Ac (p.setWork i n):=by
 match i,h with
 | 0,_=>rfl
 | 1,_=>rfl
 | 2,_=>rfl
 | 3,_=>rfl
def AG.put(p:AG)(nw i:Nat)(n:Int):AG:=if i<nw then p.setWay i n else p.setWork (i-nw) n
theorem AG.put_put(p:AG)(nw i:Nat)(n m:Int):(p.put nw i n).put nw i m=p.put nw i m:=by
 unfold AG.put;split
 ·unfold AG.setWay;congr 1;funext k;simp only [];split <;> rfl
 ·unfold AG.setWork;congr 1;funext k;simp only [];split <;> rfl
def FW(p:AG)(l:List Int):Int:=(l.map λk=>p.ways k.toNat).sum
def Ch(ns:List AI)(p:AG):Bool:=ns.all λx=>decide (x.low<=FW p x.ways/\FW p x.ways<=x.high)
structure CF(p:AG):Prop where
 ways:∀k,0<=p.ways k/\p.ways k<=30
 works:∀k,0<=p.works k/\p.works k<=30
def Nr(ns:List AI)(p:AG)(k:Nat):Bool:=decide ((ns.getD k AI.z).low<=FW p (ns.getD k AI.z).ways/\FW p (ns.getD k AI.z).ways<=(ns.getD k AI.z).high)
theorem Sa{p:AG}{l:List Int}{q:Nat}(h:q<l.length):FW p (l.take (q+1))=FW p (l.take q)+p.ways (l.getD q 0).toNat:=by
 unfold FW;rw [ET 0 h];simp
theorem M4{p:AG}{l:List Int}{q:Nat}(h:l.length<=q):FW p (l.take q)=FW p l:=by rw [List.take_of_length_le h]
theorem Tn{p:AG}{ns:List AI}{k q:Nat}{s:Int}(hs:s=FW p ((ns.getD k AI.z).ways.take q))(hq:(ns.getD k AI.z).ways.length<=q)(h:(ns.getD k AI.z).low<=s/\s<=(ns.getD k AI.z).high):Nr ns p k=true:=by
 rw [M4 hq] at hs;subst hs;exact decide_eq_true h
theorem VU{p:AG}{ns:List AI}{k:Nat}(h:∀j,j<k->Nr ns p j=true)(hk:ns.length<=k):Ch ns p=true:=by
 unfold Ch;rw [List.all_eq_true];intro x hx;obtain ⟨i,hi,rfl⟩:=List.mem_iff_getElem.1 hx
 have:=h i aA
 unfold Nr at this;rw [DU AI.z hi] at this;exact this
theorem YG{p:AG}{ns:List AI}{k q:Nat}{s:Int}(hk:k<ns.length)(hs:s=FW p ((ns.getD k AI.z).ways.take q))(hq:(ns.getD k AI.z).ways.length<=q)(h:¬((ns.getD k AI.z).low<=s/\s<=(ns.getD k AI.z).high)):Ch ns p=false:=by
 rw [M4 hq] at hs;subst hs;rw [DU AI.z hk] at h;unfold Ch;rw [List.all_eq_false];exact ⟨ns[k],List.getElem_mem hk,by simpa using h⟩
theorem Ol{f:Nat->Bool}{k:Nat}(h:∀j,j<k->f j=true)(e:f k=true):∀j,j<k+1->f j=true:=λj hj=>by
 rcases Nat.lt_succ_iff_lt_or_eq.1 hj with q | rfl
 ·exact h j q
 ·exact e
theorem Om{nw:Nat}{ns:List AI}(h:∀k,k<ns.length->Dz nw ns k=0)(k:Nat):(ns.getD k AI.z).ways.length<=5/\(∀q,0<=(ns.getD k AI.z).ways.getD q 0/\((ns.getD k AI.z).ways.getD q 0=0\/(ns.getD k AI.z).ways.getD q 0<=(nw:Int)-1)):=by
 rcases Nat.lt_or_ge k ns.length with hk | hk
 ·have e:=h k hk;unfold Dz at e;split at e
  ·cases e
  ·split at e
   ·cases e
   ·rename_i h5 h6
    refine ⟨aA,λq=>?_⟩;rcases Nat.lt_or_ge q (ns.getD k AI.z).ways.length with hq | hq
    ·have h7:¬∃x ∈ (ns.getD k AI.z).ways,¬(0<=x/\x<=(nw:Int)-1):=by simpa [List.any_eq_true] using h6
     have h8:0<=(ns.getD k AI.z).ways.getD q 0/\(ns.getD k AI.z).ways.getD q 0<=(nw:Int)-1:=Classical.byContradiction λz=>h7 ⟨_,B0 hq,z⟩;exact ⟨h8.1,.inr h8.2⟩
    ·rw [CJ hq];exact ⟨Int.le_refl _,.inl rfl⟩
 ·rw [CJ hk];refine ⟨by simp [AI.z],λq=>?_⟩;simp [AI.z]
def CK(ws:List AD)(js:List AM)(i:Nat):Int:=if i<ws.length then (ws.getD i AD.z).low else (js.getD (i-ws.length) AM.z).low
def Eg(ws:List AD)(js:List AM)(i:Nat):Int:=if i<ws.length then (ws.getD i AD.z).high else (js.getD (i-ws.length) AM.z).high
def CD(ag:AG->Bool)(ws:List AD)(js:List AM):Nat->Nat->AG->List AG
 | 0,_,p=>[p]
 | f+1,i,p=>(Gn (CK ws js i) (Eg ws js i)).flatMap λn=>if i+1=ws.length/\ag (p.put ws.length i n)=false then [] else CD ag ws js f (i+1) (p.put ws.length i n)
def Bu(ag:AG->Bool)(ws:List AD)(js:List AM)(f i:Nat)(p:AG)(n:Int):List AG:=
 if i+1=ws.length/\ag (p.put ws.length i n)=false then [] else CD ag ws js f (i+1) (p.put ws.length i n)
theorem DZ(ag:AG->Bool)(ws:List AD)(js:List AM)(f i:Nat)(p:AG) :
  CD ag ws js (f+1) i p=(Gn (CK ws js i) (Eg ws js i)).flatMap (Bu ag ws js f i p):=rfl
def AB(ws:List AD)(js:List AM)(ns:List AI):List AG:=
 if 0<ws.length\/Ch ns AG.zero=true then CD (Ch ns) ws js (ws.length+js.length) 0 AG.zero else []
def HE(nw i:Nat):Nat:=if i<nw then 0+i*1 else 5+(i-nw)*1
theorem YH{nw i:Nat}(h:i<nw):HE nw i=0+i*1:=if_pos h
theorem VV{nw i:Nat}(h:¬i<nw):HE nw i=5+(i-nw)*1:=if_neg h
theorem J4{p:AG}{nw nj i:Nat}{v:Int}(hw:nw<=5)(hj:nj<=4)(hi:i<nw+nj):(Ac (p.put nw i v))[HE nw i]? =some (.int .i64 v):=by
 unfold AG.put HE;split
 ·rw [GU aA];simp [AG.setWay]
 ·rw [JX aA];simp [AG.setWork]
theorem F5{p:AG}{nw nj i:Nat}{v:Int}(hw:nw<=5)(hj:nj<=4)(hi:i<nw+nj):Bq (Ac p) (HE nw i) [.int .i64 v]=Ac (p.put nw i v):=by
 unfold AG.put HE;split
 ·exact P3 aA
 ·exact Ok aA
theorem JY{nw nj i:Nat}(hw:nw<=5)(hj:nj<=4)(hi:i<nw+nj):HE nw i+1<=9:=by unfold HE;split <;> omega
def AG.zeros(p:AG)(nw i:Nat):Prop:=(∀k,i<=k->k<nw->p.ways k=0)/\∀k,i<=nw+k->p.works k=0
theorem AG.zeros_put{p:AG}{nw i:Nat}(h:p.zeros nw i):p.put nw i 0=p:=by
 obtain ⟨wy,wo⟩:=p;unfold AG.put AG.setWay AG.setWork;split
 ·rename_i hi
  congr 1;funext k;split
  ·rename_i e;subst e;exact (h.1 k (Nat.le_refl _) hi).symm
  ·rfl
 ·rename_i hi
  congr 1;funext k;split
  ·rename_i e;subst e;exact (h.2 (i-nw) aA).symm
  ·rfl
theorem AG.zeros_next{p:AG}{nw i:Nat}{v:Int}(h:p.zeros nw i):(p.put nw i v).zeros nw (i+1):=by
 unfold AG.put;split
 ·refine ⟨λk h1 h2=>?_,λk h1=>h.2 k aA⟩;show (if k=i then v else p.ways k)=0;rw [if_neg aA];exact h.1 k aA h2
 ·refine ⟨λk h1 h2=>h.1 k aA h2,λk h1=>?_⟩;show (if k=i-nw then v else p.works k)=0;rw [if_neg aA];exact h.2 k aA
theorem AG.zeros_zero(nw i:Nat):AG.zero.zeros nw i:=⟨λ_ _ _=>rfl,λ_ _=>rfl⟩
theorem CF.zero:CF AG.zero:=⟨λ_=>(aC:(0:Int)<=0/\(0:Int)<=30),λ_=>(aC:(0:Int)<=0/\(0:Int)<=30)⟩
theorem CF.put{p:AG}(h:CF p){nw i:Nat}{v:Int}(hv:0<=v/\v<=30):CF (p.put nw i v):=by
 unfold AG.put;split
 ·refine ⟨λk=>?_,h.works⟩;show 0<=(if k=i then v else p.ways k)/\(if k=i then v else p.ways k)<=30;split
  ·exact hv
  ·exact h.ways k
 ·refine ⟨h.ways,λk=>?_⟩;show 0<=(if k=i-nw then v else p.works k)/\(if k=i-nw then v else p.works k)<=30;split
  ·exact hv
  ·exact h.works k
section
variable {bag kinds:Int} {ps:List ByteArray} {ws:List AD} {js:List AM} {ns:List AI} {ag:AG->Bool} {p:AG} {all pre:List AG} {f i k:Nat}
theorem Bc.few(b:Bc bag kinds ps ws js ns)(hi:i<ws.length+js.length):0<=CK ws js i/\CK ws js i<=Eg ws js i/\Eg ws js i<=30/\Eg ws js i-CK ws js i<2:=by
 unfold CK Eg;by_cases h:i<ws.length
 ·rw [if_pos h,if_pos h];exact (LN b.way i h).time
 ·rw [if_neg h,if_neg h];exact (Oi (b.job (i-ws.length) aA)).time
theorem YI(e:i+1=ws.length)(h:ag (p.put ws.length i (CK ws js i+(k:Int)))=false) :
  pre++(Cd (CK ws js i) (k+1)).flatMap (Bu ag ws js f i p)=pre++(Cd (CK ws js i) k).flatMap (Bu ag ws js f i p):=by
 rw [Ms];unfold Bu;rw [if_pos ⟨e,h⟩,List.append_nil]
theorem Qb(h:¬(i+1=ws.length/\ag (p.put ws.length i (CK ws js i+(k:Int)))=false)) :
  pre++(Cd (CK ws js i) (k+1)).flatMap (Bu ag ws js f i p)=(pre++(Cd (CK ws js i) k).flatMap (Bu ag ws js f i p))++CD ag ws js f (i+1) (p.put ws.length i (CK ws js i+(k:Int))):=by
 rw [Ms,<-List.append_assoc];congr 1;unfold Bu;rw [if_neg h]
theorem M5(hw:CU all pre (CD ag ws js (f+1) i p))(hk:CK ws js i+(k:Int)<=Eg ws js i)(h:¬(i+1=ws.length/\ag (p.put ws.length i (CK ws js i+(k:Int)))=false)) :
  CU all (pre++(Cd (CK ws js i) k).flatMap (Bu ag ws js f i p)) (CD ag ws js f (i+1) (p.put ws.length i (CK ws js i+(k:Int)))):=by
 rw [DZ] at hw
 have:=hw.round hk
 unfold Bu at this ⊢;rw [if_neg h] at this;exact this
end
theorem VW{lo hi:Int}(h:hi-lo<2):(Gn lo hi).length<=2:=by unfold Gn Cd;simp;omega
theorem LP{bag kinds:Int}{ps:List ByteArray}{ws:List AD}{js:List AM}{ns:List AI}(b:Bc bag kinds ps ws js ns)(ag:AG->Bool):∀(f i:Nat)(p:AG),i+f=ws.length+js.length->(CD ag ws js f i p).length<=2 ^ f
 | 0,_,_,_=>Nat.le_refl _
 | f+1,i,p,h=>by
  rw [DZ];have h1:=(b.few (i:=i) aA).2.2.2;have h2:=TV (f:=Bu ag ws js f i p) (c:=2 ^ f) (l:=Gn (CK ws js i) (Eg ws js i)) λx _=>by
   unfold Bu;split
   ·exact Nat.zero_le _
   ·exact LP b ag f (i+1) _ aA
  have h3:=Nat.mul_le_mul_right (2 ^ f) (VW h1);rw [Nat.pow_succ];omega
theorem Fo{bag kinds:Int}{ps:List ByteArray}{ws:List AD}{js:List AM}{ns:List AI}(b:Bc bag kinds ps ws js ns):(AB ws js ns).length<=2000000:=by
 unfold AB;split
 ·have h1:=LP b (Ch ns) (ws.length+js.length) 0 AG.zero aA;have h2:2 ^ (ws.length+js.length)<=2 ^ 9:=Nat.pow_le_pow_right aA (by have:=b.wlen;have:=b.jlen;omega);omega
 ·exact Nat.zero_le _
def Kf(bag kinds:Int)(ps:List ByteArray)(ws:List AD)(js:List AM)(ns:List AI):Int:=if BP bag kinds ps ws js ns=0 then ((AB ws js ns).length:Int) else 0
section
variable {bag kinds:Int} {ps:List ByteArray} {ws:List AD} {js:List AM} {ns:List AI}
theorem YJ(h:¬BP bag kinds ps ws js ns=0):(.tuple #[.int .i64 0,.int .i64 (BP bag kinds ps ws js ns)]:Value)=.tuple #[.int .i64 (Kf bag kinds ps ws js ns),.int .i64 (BP bag kinds ps ws js ns)]:=by
 unfold Kf;rw [if_neg h]
theorem tHist_ok(h:¬¬BP bag kinds ps ws js ns=0):(.tuple #[.int .i64 ((AB ws js ns).length:Int),.int .i64 0]:Value)=.tuple #[.int .i64 (Kf bag kinds ps ws js ns),.int .i64 (BP bag kinds ps ws js ns)]:=by
 have e:=Decidable.not_not.1 h;unfold Kf;rw [if_pos e,e]
end
section
variable {V:Type} {hB h hc h':GH} {I:List V->(Nat->Prop)->GH->Prop} {S:GH->Prop} {rp:Nat} {T:TypeId} {c c':Array Value} {X0 X:Nat->Prop} {pre l:List V} {v:Value}
theorem Eb.stoppedI{I':List V->(Nat->Prop)->GH->Prop}{pre':List V}(hv:v=.bool false)(r:∀l',Eb hB I S pre X0 h l' (.bool false) h'):Eb hB I' S pre' X0 h l v h':=by
 obtain ⟨ok,X',e,hs,hk,hl,_,h2⟩:=r [];cases e;exact ⟨false,X',hv,hs,hk,hl,(λx=>by cases x),h2⟩
def DK(I:List V->(Nat->Prop)->GH->Prop)(rp:Nat)(T:TypeId)(c:Array Value):List V->(Nat->Prop)->GH->Prop:=λpre X h=>
 ∃X',I pre X' h/\¬X' rp/\(∀b,X b↔X' b\/b=rp)/\h rp=some (true,.cells c T (0,0))
theorem DK.prom(P:GG hB I):GG hB (DK I rp T c):=by
 refine ⟨?_,?_⟩
 ·rintro pre X h b ⟨X',i,n,hX,hp⟩ hb;rcases (hX b).1 hb with q | rfl
  ·exact P.dom _ _ _ _ i q
  ·exact ⟨_,_,hp,rfl⟩
 ·rintro pre X h h' ⟨X',i,n,hX,hp⟩ same lB;exact ⟨X',P.stable _ _ _ _ i (λb hb=>same b ((hX b).2 (.inl hb))) lB,n,hX,by rw [same rp ((hX rp).2 (.inr rfl))];exact hp⟩
theorem DK.box(x:DK I rp T c pre X h):h rp=some (true,.cells c T (0,0)):=by obtain ⟨_,_,_,_,e⟩:=x;exact e
theorem DK.mem(x:DK I rp T c pre X h):X rp:=by obtain ⟨X',_,_,hX,_⟩:=x;exact (hX rp).2 (.inr rfl)
theorem EP.put(P:GG hB I)(y:EP hB (DK I rp T c) X0 h pre X hc)(rB:hB rp=none)(nb:h' rp=some (true,.cells c' T (0,0)))(ho:∀b,b≠rp->h' b=hc b):EP hB (DK I rp T c') X0 h pre X h':=by
 obtain ⟨⟨X',i,n,hX,hp⟩,sub,keep,base⟩:=y;exact ⟨⟨X',P.store i n ho (base.upd rB ho),n,hX,nb⟩,sub,keep.store' (sub rp ((hX rp).2 (.inr rfl))) ho,base.upd rB ho⟩
theorem DK.call{P:Program}{W:Wk P}{yv:Value}{args:Array Value}(x:DK I rp T c pre X hc)(k:∀X',I pre X' hc->Bw W yv args hc (Eb hB I S pre X' hc l)):Bw W yv args hc (Eb hB (DK I rp T c) S pre X hc l):=by
 have x':=x;obtain ⟨X',i,n,hX,hp⟩:=x;refine (k X' i).mono λv h' r=>?_;obtain ⟨ok,X1,hv,hs,hk,hl,h1,h2⟩:=r;have n1:¬X1 rp:=λq=>(hs rp q).elim n λe=>by rw [hp] at e;cases e
 refine ⟨ok,λb=>X1 b\/b=rp,hv,?_,λb p o hb hn=>hk b p o hb λq=>hn ((hX b).2 (.inl q)),hl,λe=>⟨X1,h1 e,n1,λ_=>Iff.rfl,hk.box hp n rfl⟩,h2⟩;rintro b (q | rfl)
 ·exact (hs b q).imp (λq=>(hX b).2 (.inl q)) id
 ·exact .inl ((hX _).2 (.inr rfl))
theorem DK.start(x:I pre X hc)(hp:hc rp=some (true,.cells c T (0,0)))(n:¬X rp):DK I rp T c pre (λb=>X b\/b=rp) hc:=⟨X,x,n,λ_=>Iff.rfl,hp⟩
theorem DK.final{X0:Nat->Prop}(y:EP hB I X0 h pre X hc)(hn:h rp=none)(r:Eb hB (DK I rp T c) S pre (λb=>X b\/b=rp) hc l v h'):Eb hB I S pre X0 h l v h':=by
 obtain ⟨ok,X1,hv,hs,hk,hl,h1,h2⟩:=r;cases ok with
 | true=>
  obtain ⟨X2,i2,n2,hX2,hp2⟩:=h1 rfl;refine ⟨true,X2,hv,λb q=>?_,?_,hl,λ_=>i2,λe=>by cases e⟩
  ·rcases hs b ((hX2 b).2 (.inl q)) with (q1 | rfl) | q1
   ·exact y.sub b q1
   ·exact absurd q n2
   ·exact subX y.sub y.keep (X1:=λz=>z=b) (λz e=>.inr (by rw [e];exact q1)) b rfl
  ·intro b p o hb hX;obtain ⟨o',e1,e2⟩:=y.keep b p o hb hX;obtain ⟨o2,e3,e4⟩:=hk b p o' e1 (λq=>q.elim (λq=>(y.sub b q).elim hX λe=>by rw [e] at hb;cases hb) λe=>by rw [e,hn] at hb;cases hb);refine ⟨o2,e3,?_⟩;rcases e2 with rfl | e2
   ·exact e4
   ·rcases e4 with rfl | e4
    ·exact .inr e2
    ·exact .inr ⟨e2.1,e4.2⟩
 | false=>
  refine ⟨false,λb=>X0 b\/h b=none,hv,λb q=>q,?_,hl,(λe=>by cases e),λ_=>h2 rfl⟩;intro b p o hb hX;obtain ⟨o',e1,e2⟩:=y.keep b p o hb hX;obtain ⟨o2,e3,e4⟩:=hk b p o' e1 (λq=>q.elim (λq=>(y.sub b q).elim hX λe=>by rw [e] at hb;cases hb) λe=>by rw [e,hn] at hb;cases hb);refine ⟨o2,e3,?_⟩;rcases e2 with rfl | e2
  ·exact e4
  ·rcases e4 with rfl | e4
   ·exact .inr e2
   ·exact .inr ⟨e2.1,e4.2⟩
end
end Go.Ns
namespace Go.Ns
open Go.Conc
abbrev FG:=Nat->Nat->Int
def KF(m:FG):Array Value:=#[.int .i64 (m 0 0),.int .i64 (m 0 1),.int .i64 (m 0 2),.int .i64 (m 0 3),.int .i64 (m 1 0),.int .i64 (m 1 1),.int .i64 (m 1 2),.int .i64 (m 1 3),
 .int .i64 (m 2 0),.int .i64 (m 2 1),.int .i64 (m 2 2),.int .i64 (m 2 3),.int .i64 (m 3 0),.int .i64 (m 3 1),.int .i64 (m 3 2),.int .i64 (m 3 3)]
def FG.zero:FG:=λ_ _=>0
def FG.set(m:FG)(i k:Nat)(v:Int):FG:=λa b=>if a=i/\b=k then v else m a b
theorem JZ{m:FG}{i k:Nat}(hi:i<4)(hk:k<4):(KF m)[0+i*4+k*1]? =some (.int .i64 (m i k)):=by
 match i,hi with
 | 0,_=>match k,hk with
  | 0,_=>rfl
  | 1,_=>rfl
  | 2,_=>rfl
  | 3,_=>rfl
 | 1,_=>match k,hk with
  | 0,_=>rfl
  | 1,_=>rfl
  | 2,_=>rfl
  | 3,_=>rfl
 | 2,_=>match k,hk with
  | 0,_=>rfl
  | 1,_=>rfl
  | 2,_=>rfl
  | 3,_=>rfl
 | 3,_=>match k,hk with
  | 0,_=>rfl
  | 1,_=>rfl
  | 2,_=>rfl
  | 3,_=>rfl
theorem LQ{m:FG}{i k:Nat}{v:Int}(hi:i<4)(hk:k<4):Bq (KF m) (0+i*4+k*1) [.int .i64 v]=KF (m.set i k v):=by
 match i,hi with
 | 0,_=>match k,hk with
  | 0,_=>rfl
  | 1,_=>rfl
  | 2,_=>rfl
  | 3,_=>rfl
 | 1,_=>match k,hk with
  | 0,_=>rfl
  | 1,_=>rfl
  | 2,_=>rfl
  | 3,_=>rfl
 | 2,_=>match k,hk with
  | 0,_=>rfl
  | 1,_=>rfl
  | 2,_=>rfl
  | 3,_=>rfl
 | 3,_=>match k,hk with
  | 0,_=>rfl
  | 1,_=>rfl
  | 2,_=>rfl
  | 3,_=>rfl
def On(i:Nat)(m:FG)(k:Nat):FG:=if¬(i:Int)=(k:Int) then m.set i k 1048576 else m
def JL(i:Nat)(m:FG)(n:Nat):FG:=(List.range n).foldl (On i) m
def KG(n:Nat):FG:=(List.range n).foldl (λm i=>JL i m 4) FG.zero
def VX(p:AG)(ws:List AD)(m:FG)(k:Nat):FG:=(m.set (ws.getD k AD.z).a.toNat (ws.getD k AD.z).b.toNat (p.ways k)).set (ws.getD k AD.z).b.toNat (ws.getD k AD.z).a.toNat (p.ways k)
def BV(p:AG)(ws:List AD)(n:Nat):FG:=(List.range n).foldl (VX p ws) (KG 4)
def XQ(by_ i:Nat)(m:FG)(k:Nat):FG:=m.set i k (min (m i k) (m i by_+m by_ k))
def IF(by_ i:Nat)(m:FG)(n:Nat):FG:=(List.range n).foldl (XQ by_ i) m
def To(by_ np:Nat)(m:FG)(i:Nat):FG:=if m i by_=1048576 then m else IF by_ i m np
def Fw(by_ np:Nat)(m:FG)(n:Nat):FG:=(List.range n).foldl (To by_ np) m
def DL(np:Nat)(m:FG)(n:Nat):FG:=(List.range n).foldl (λm b=>Fw b np m np) m
def A9(np:Nat)(ws:List AD)(p:AG):FG:=DL np (BV p ws ws.length) np
theorem BQ{β:Type}(f:β->Nat->β)(b:β)(n:Nat):(List.range (n+1)).foldl f b=f ((List.range n).foldl f b) n:=by rw [List.range_succ,List.foldl_append];rfl
def FG.ok(m:FG):Prop:=∀i k,0<=m i k/\m i k<=1048576
theorem FG.ok_set{m:FG}(h:m.ok){i k:Nat}{v:Int}(hv:0<=v/\v<=1048576):(m.set i k v).ok:=λa b=>by
 unfold FG.set;split
 ·exact hv
 ·exact h a b
theorem FG.ok_zero:FG.zero.ok:=λ_ _=>⟨Int.le_refl 0,(aC:(0:Int)<=1048576)⟩
theorem Hj{β:Type}{Q:β->Prop}{f:β->Nat->β}(hf:∀b k,Q b->Q (f b k)):∀{l:List Nat}{b:β},Q b->Q (l.foldl f b)
 | [],_,h=>h
 | x ::l,b,h=>Hj hf (l:=l) (hf b x h)
theorem YK{i:Nat}{m:FG}{k:Nat}(h:m.ok):(On i m k).ok:=by
 unfold On;split
 ·exact FG.ok_set h aC
 ·exact h
theorem far0K_ok{i:Nat}{m:FG}{n:Nat}(h:m.ok):(JL i m n).ok:=Hj (λ_ _=>YK) h
theorem far0_ok{n:Nat}:(KG n).ok:=Hj (λ_ _ h=>far0K_ok h) FG.ok_zero
theorem YL{p:AG}{ws:List AD}{m:FG}{k:Nat}(hp:CF p)(h:m.ok):(VX p ws m k).ok:=by
 have:=hp.ways k
 exact FG.ok_set (FG.ok_set h aA) aA
theorem Oo{p:AG}{ws:List AD}{n:Nat}(hp:CF p):(BV p ws n).ok:=Hj (λ_ _ h=>YL hp h) far0_ok
theorem VY{b i:Nat}{m:FG}{k:Nat}(h:m.ok):(XQ b i m k).ok:=by
 have h1:=h i k;have h2:=h i b;have h3:=h b k;exact FG.ok_set h aA
theorem XR{b i:Nat}{m:FG}{n:Nat}(h:m.ok):(IF b i m n).ok:=Hj (λ_ _ h=>VY h) h
theorem farI1_ok{b np:Nat}{m:FG}{i:Nat}(h:m.ok):(To b np m i).ok:=by
 unfold To;split
 ·exact h
 ·exact XR h
theorem XS{b np:Nat}{m:FG}{n:Nat}(h:m.ok):(Fw b np m n).ok:=Hj (λ_ _ h=>farI1_ok h) h
theorem Tp{np:Nat}{m:FG}{n:Nat}(h:m.ok):(DL np m n).ok:=Hj (λ_ _ h=>XS h) h
theorem CB{c c':Array Value}(h:c.size=c'.size):Bq c 0 c'.toList=c':=by
 apply Array.toList_inj.1;rw [EN _ _ _ (by simp [h])];simp [h]
theorem IG{b:Bool}(h:(!b)=true):b=false:=by cases b <;> simp_all
theorem IH{b:Bool}(h:(!b)=false):b=true:=by cases b <;> simp_all
abbrev E7:=(Int×Int×Int×Int×Int)×Int×Int
def Ep(a:E7):Value:=.agg #[.int .i64 a.1.1,.int .i64 a.1.2.1,.int .i64 a.1.2.2.1,.int .i64 a.1.2.2.2.1,.int .i64 a.1.2.2.2.2,.int .i64 a.2.1,.int .i64 a.2.2]
def Tq:E7->Option Int:=λ_=>none
def AG.w5(p:AG):Int×Int×Int×Int×Int:=(p.ways 0,p.ways 1,p.ways 2,p.ways 3,p.ways 4)
theorem E7.eq_iff(a b:E7):((a.1.1==b.1.1 && (a.1.2.1==b.1.2.1 && (a.1.2.2.1==b.1.2.2.1 && (a.1.2.2.2.1==b.1.2.2.2.1 && (a.1.2.2.2.2==b.1.2.2.2.2 && true))))) && (a.2.1==b.2.1 && (a.2.2==b.2.2 && true)))=decide (a=b):=by
 obtain ⟨⟨a1,a2,a3,a4,a5⟩,a6,a7⟩:=a;obtain ⟨⟨b1,b2,b3,b4,b5⟩,b6,b7⟩:=b;rw [Bool.eq_iff_iff];simp [and_assoc]
theorem P4(a:E7):Instr.sameBits 10000 (Ep a) (Ep a)=true:=by
 have hi:∀(n:Nat)(x:Int),Instr.sameBits n (.int .i64 x) (.int .i64 x)=true:=λn x=>by
  cases n <;> (unfold Instr.sameBits;simp)
 unfold Ep;show Instr.sameBits (9999+1) _ _=true;unfold Instr.sameBits;simp only [List.zip_cons_cons,List.zip_nil_left,List.all_cons,List.all_nil,hi];simp
def VZ(m:FG)(w:Int×Int×Int×Int×Int)(i:Nat)(M:E7->Option Int)(k:Nat):E7->Option Int:=λb=>if b=(w,(i:Int),(k:Int)) then some (m i k) else M b
def F6(m:FG)(w:Int×Int×Int×Int×Int)(i:Nat)(M:E7->Option Int)(n:Nat):E7->Option Int:=(List.range n).foldl (VZ m w i) M
def CN(m:FG)(w:Int×Int×Int×Int×Int)(np:Nat)(M:E7->Option Int)(n:Nat):E7->Option Int:=(List.range n).foldl (λM i=>F6 m w i M np) M
theorem M6{m:FG}{w:Int×Int×Int×Int×Int}{i k:Nat}{M:E7->Option Int}:∀{n:Nat},k<n->F6 m w i M n (w,(i:Int),(k:Int))=some (m i k)
 | 0,h=>absurd h (Nat.not_lt_zero _)
 | n+1,h=>by
  unfold F6;rw [BQ];unfold VZ;by_cases e:k=n
  ·subst e;rw [if_pos rfl]
  ·rw [if_neg (λq=>e (by have h2:(k:Int)=(n:Int):=congrArg (λz:E7=>z.2.2) q;omega))];exact M6 (n:=n) aA
theorem Iu{m:FG}{w:Int×Int×Int×Int×Int}{i:Nat}{M:E7->Option Int}{b:E7}(hb:b.1≠w\/b.2.1≠(i:Int)):∀{n:Nat},F6 m w i M n b=M b
 | 0=>rfl
 | n+1=>by
  unfold F6;rw [BQ];unfold VZ;rw [if_neg (λq=>by subst q;rcases hb with h | h <;> exact h rfl)];exact Iu hb (n:=n)
theorem M7{m:FG}{w:Int×Int×Int×Int×Int}{np i k:Nat}{M:E7->Option Int}(hk:k<np):∀{n:Nat},i<n->CN m w np M n (w,(i:Int),(k:Int))=some (m i k)
 | 0,h=>absurd h (Nat.not_lt_zero _)
 | n+1,h=>by
  unfold CN;rw [BQ];by_cases e:i=n
  ·subst e;exact M6 hk
  ·rw [Iu (.inr (by show (i:Int)≠(n:Int);omega))];exact M7 hk (n:=n) aA
theorem LR{m:FG}{w:Int×Int×Int×Int×Int}{np:Nat}{M:E7->Option Int}{b:E7}(hb:b.1≠w):∀{n:Nat},CN m w np M n b=M b
 | 0=>rfl
 | n+1=>by
  unfold CN;rw [BQ,Iu (.inl hb)];exact LR hb (n:=n)
theorem w5_at{p q:AG}(e:q.w5=p.w5){k:Nat}(h:k<5):q.ways k=p.ways k:=by
 simp only [AG.w5,Prod.mk.injEq] at e;obtain ⟨e0,e1,e2,e3,e4⟩:=e
 match k,h with
 | 0,_=>exact e0
 | 1,_=>exact e1
 | 2,_=>exact e2
 | 3,_=>exact e3
 | 4,_=>exact e4
theorem Oq{p q:AG}{ws:List AD}(e:q.w5=p.w5):∀{n:Nat},n<=5->BV q ws n=BV p ws n
 | 0,_=>rfl
 | n+1,h=>by
  have h1:=Oq (ws:=ws) e (n:=n) aA;unfold BV at h1 ⊢;rw [BQ,BQ,h1];unfold VX;rw [w5_at e aA]
theorem Q0{p q:AG}{ws:List AD}{np:Nat}(hw:ws.length<=5)(e:q.w5=p.w5):A9 np ws q=A9 np ws p:=by
 unfold A9;rw [Oq e hw]
def GK(np:Nat)(ws:List AD)(l:List AG)(M:E7->Option Int):Prop:=∀q ∈ l,∀i k:Nat,i<np->k<np->M (q.w5,(i:Int),(k:Int))=some (A9 np ws q i k)
theorem GK.call{np:Nat}{ws:List AD}{pq:List AG}{k:Nat}{M:E7->Option Int}(h:GK np ws (pq.take k) M)(hk:k<pq.length)(hw:ws.length<=5) :
  GK np ws (pq.take (k+1)) (CN (A9 np ws (pq.getD k AG.zero)) (pq.getD k AG.zero).w5 np M np):=by
 intro q hq i j hi hj;by_cases e:q.w5=(pq.getD k AG.zero).w5
 ·rw [e,M7 hj hi,Q0 hw e]
 ·rw [LR e];rw [ET AG.zero hk] at hq;rcases List.mem_append.1 hq with h1 | h1
  ·exact h q h1 i j hi hj
  ·rw [List.mem_singleton.1 h1] at e;exact absurd rfl e
theorem GK.skip{np:Nat}{ws:List AD}{pq:List AG}{k:Nat}{M:E7->Option Int}(h:GK np ws (pq.take k) M)(hk:k<pq.length)(hw:ws.length<=5)(h0:¬(k:Int)=0)(e:(pq.getD k AG.zero).w5=(pq.getD (k-1) AG.zero).w5) :
  GK np ws (pq.take (k+1)) M:=by
 intro q hq i j hi hj;rw [ET AG.zero hk] at hq;rcases List.mem_append.1 hq with h1 | h1
 ·exact h q h1 i j hi hj
 ·rw [List.mem_singleton.1 h1,e,Q0 hw e];refine h _ ?_ i j hi hj;rw [DU AG.zero aA];exact List.mem_take_iff_getElem.2 ⟨k-1,aA,rfl⟩
def EA(h:GH)(r np:Nat)(ws:List AD)(pq:List AG):Prop:=∃pm M,MapAt h r pm Ep Di M/\GK np ws pq M
theorem EA.le{h h':GH}{r np:Nat}{ws:List AD}{pq:List AG}(x:EA h r np ws pq)(l:h.Le h'):EA h' r np ws pq:=by
 obtain ⟨pm,M,⟨es,clk,hb,hl⟩,hM⟩:=x;exact ⟨pm,M,⟨es,clk,l.keep hb rfl,hl⟩,hM⟩
structure DP(hB:GH)(r:Nat)(M:E7->Option Int)(h hc:GH):Prop where
 ok:Cn hc r Ep Di M
 keep:BZ (λb=>b=r) h hc
 base:hB.Le hc
def FRes(hB:GH)(r:Nat)(M:E7->Option Int)(h h':GH):Prop:=Cn h' r Ep Di M/\BZ (λb=>b=r) h h'/\hB.Le h'
section
variable {hB h hc h':GH} {r:Nat} {M M':E7->Option Int}
theorem Cn.some(x:Cn h r Ep Di M):∃o,h r=some (true,o)/\JN o=false:=by obtain ⟨es,clk,hb,_⟩:=x;exact ⟨_,hb,rfl⟩
theorem DP.start(x:Cn h r Ep Di M)(l:hB.Le h):DP hB r M h h:=⟨x,BZ.refl _ _,l⟩
theorem DP.le(y:DP hB r M h hc)(l:hc.Le h'):DP hB r M h h':=by
 obtain ⟨o,ho,_⟩:=y.ok.some;exact ⟨y.ok.le_other ((l.keep ho rfl).trans ho.symm),y.keep.trans (λ_ q=>.inl q) (l.keepX _),y.base.trans l⟩
theorem DP.store(y:DP hB r M h hc){q:Nat}(hq:h q=none)(qB:hB q=none)(hn:q≠r)(ho:∀b,b≠q->h' b=hc b):DP hB r M h h':=
 ⟨y.ok.le_other (ho r (Ne.symm hn)),y.keep.store hq ho,y.base.upd qB ho⟩
theorem DP.put(y:DP hB r M h hc)(rB:hB r=none)(x:Cn h' r Ep Di M')(ho:∀b,b≠r->h' b=hc b):DP hB r M' h h':=⟨x,y.keep.store' (.inl rfl) ho,y.base.upd rB ho⟩
theorem DP.call(y:DP hB r M h hc)(m:FRes hB r M' hc h'):DP hB r M' h h':=⟨m.1,y.keep.trans (λ_ q=>.inl q) m.2.1,m.2.2⟩
theorem DP.ne(y:DP hB r M h hc){q:Nat}(hq:hc q=none):q≠r:=λe=>by
 obtain ⟨o,ho,_⟩:=y.ok.some;rw [e,ho] at hq;cases hq
theorem DP.nothing(y:DP hB r M h hc){q:Nat}(hq:hc q=none):h q=none:=by
 cases hx:h q with
 | none=>rfl
 | some x=>
  obtain ⟨o',h1,_⟩:=y.keep q x.1 x.2 hx (y.ne hq);rw [h1] at hq;cases hq
theorem M8(x:h r=some (true,.map #[] 0)):Cn h r Ep Di Tq:=Cn.empty x
theorem Cn.slDel{V:Type}(x:Cn h r Ep Di M){v:Value}{n:Nat}{enc:V->Array Value}{xs:List V}(y:AE h v n enc xs):AE (h.del r) v n enc xs:=by
 obtain ⟨es,clk,hb,_⟩:=x;exact AE.slDel y hb
theorem Cn.leF(x:Cn h r Ep Di M)(l:h.Le h'):Cn h' r Ep Di M:=by
 obtain ⟨o,ho,e⟩:=x.some;exact x.le_other ((l.keep ho e).trans ho.symm)
theorem DP.res(y:DP hB r M h hc):FRes hB r M h hc:=⟨y.ok,y.keep,y.base⟩
end
theorem M9{bag kinds:Int}{ps:List ByteArray}{ws:List AD}{js:List AM}{ns:List AI}(b:Bc bag kinds ps ws js ns){ag:AG->Bool}:∀{f i:Nat}{p:AG},i+f=ws.length+js.length->CF p->∀q ∈ CD ag ws js f i p,CF q
 | 0,_,p,_,hp,q,hq=>by rw [List.mem_singleton.1 hq];exact hp
 | f+1,i,p,h,hp,q,hq=>by
  rw [DZ] at hq;obtain ⟨n,hn,hq⟩:=List.mem_flatMap.1 hq;have h1:=b.few (i:=i) aA;have h2:=L5.1 hn;unfold Bu at hq;split at hq
  ·cases hq
  ·exact M9 b (f:=f) aA (hp.put aA) q hq
section
variable {bag kinds:Int} {ps:List ByteArray} {ws:List AD} {js:List AM} {ns:List AI}
theorem Gt(b:Bc bag kinds ps ws js ns):∀q ∈ AB ws js ns,CF q:=by
 intro q hq;unfold AB at hq;split at hq
 ·exact M9 b aA CF.zero q hq
 ·cases hq
theorem Or(b:Bc bag kinds ps ws js ns)(k:Nat):CF ((AB ws js ns).getD k AG.zero):=by
 rcases Nat.lt_or_ge k (AB ws js ns).length with h | h
 ·exact Gt b _ (B0 h)
 ·rw [CJ h];exact CF.zero
def AY(bag kinds:Int)(ps:List ByteArray)(ws:List AD)(js:List AM)(ns:List AI)(s:Int):Int:=
 if¬BP bag kinds ps ws js ns=0 then BP bag kinds ps ws js ns else if¬s=0 then s else if (AB ws js ns).length=0 then 9 else 0
variable {s:Int}
theorem XT(h:¬BP bag kinds ps ws js ns=0):AY bag kinds ps ws js ns s=BP bag kinds ps ws js ns:=if_pos h
theorem XU(h:¬¬BP bag kinds ps ws js ns=0)(h2:¬s=0):AY bag kinds ps ws js ns s=s:=by unfold AY;rw [if_neg h,if_pos h2]
theorem XV(h:¬¬BP bag kinds ps ws js ns=0)(h2:¬¬s=0)(h3:(AB ws js ns).length=0):AY bag kinds ps ws js ns s=9:=by unfold AY;rw [if_neg h,if_neg h2,if_pos h3]
theorem openB_4(h:¬¬BP bag kinds ps ws js ns=0)(h2:¬¬s=0)(h3:¬(AB ws js ns).length=0):AY bag kinds ps ws js ns s=0:=by unfold AY;rw [if_neg h,if_neg h2,if_neg h3]
theorem Eq(h:AY bag kinds ps ws js ns s=0):Bc bag kinds ps ws js ns/\s=0/\0<(AB ws js ns).length:=by
 unfold AY at h;split at h
 ·rename_i a;exact absurd h a
 ·split at h
  ·rename_i a b;exact absurd h b
  ·split at h
   ·cases h
   ·rename_i a b c
    exact ⟨Ck (Decidable.not_not.1 a),Decidable.not_not.1 b,aA⟩
theorem w5_eq{p q:AG}(h:(!((p.ways 0==q.ways 0 && (p.ways 1==q.ways 1 && (p.ways 2==q.ways 2 && (p.ways 3==q.ways 3 && (p.ways 4==q.ways 4 && true)))))))=false):p.w5=q.w5:=by
 simp only [Bool.not_eq_false',Bool.and_eq_true,beq_iff_eq,and_true] at h;obtain ⟨e0,e1,e2,e3,e4⟩:=h;simp only [AG.w5,e0,e1,e2,e3,e4]
theorem GK.is{h:GH}{r np:Nat}{ws:List AD}{pq:List AG}{M:E7->Option Int}{k:Nat}(x:Cn h r Ep Di M)(hM:GK np ws (pq.take k) M)(hk:pq.length<=k):EA h r np ws pq:=by
 rw [List.take_of_length_le hk] at hM;exact ⟨true,M,x,hM⟩
theorem Q1{a b c d e f w:Value}{r:Nat}(h:w.cells=#[w]):Instr.fill (λx=>#[(0,6),(6,1),(7,1)][x]?) #[.int .i64 0,.int .i64 0,.slice none 0 0,.slice none 0 0,.slice none 0 0,.slice none 0 0,.slice none 0 0,.map none] [(0,.agg #[a,b,c,d,e,f]),(1,w),(2,.map (some r))]=some #[a,b,c,d,e,f,w,.map (some r)]:=by
 have e1:∀cs,(Value.agg cs).cells=cs:=λ_=>rfl;have e2:∀q,(Value.map q).cells=#[.map q]:=λ_=>rfl;simp [Instr.fill,h,e1,e2]
end
end Go.Ns
namespace Go.Ns
open Go.Conc
section
variable {P:Program} {E:GJ P} {O:Nat->Value} {ds:List Deferred} {h:GH} {T:(Nat->Value)->List Deferred->GH->Prop}
variable {dst:Option Nat} {ty:TypeId} {pos:String} {af:Array Edge} {gd:Option (Nat×Bool)}
def LS(P:Program)(e:TypeId):Option Nat:=(P.info? e).map (·.bytes)
theorem Sb(z:Value)(n:Nat):(Array.range n).map (λi=>(#[z]:Array Value)[i%(#[z]:Array Value).size]!)=Array.replicate n z:=by
 apply Array.ext
 ·simp
 ·intro i h1 h2;simp [Nat.mod_one]
theorem LT{t:TypeId}{l c:Operand}{N by_:Nat}{z:Value}{e:TypeId}(hs:DJ P t=some (1,#[z],e))(hby:LS P e=some by_)(hl:AN O l=.int .i64 N)(hc:AN O c=.int .i64 N)(hb:by_*N<=281474976710656)(hN2:N<=16777216)
  (k:∀r h',h r=none->h.Le h'->h' r=some (true,.cells (Array.replicate N z) e (0,0))->(∀b,b≠r->h' b=h b)->T (putS O dst (.slice (some ⟨r,0,none⟩) N N)) ds h'):BT E ⟨dst,.makeSlice t l c,ty,pos,af,gd⟩ O ds h T:=by
 unfold BT execOp;refine Fb ?_;unfold DJ at hs;unfold Instr.makeSlice;rw [hl,hc];cases hu:P.underlying t with
 | none=>rw [hu] at hs;cases hs
 | some d=>
  rw [hu] at hs;cases d <;> first | (cases hs;done) | skip
  rename_i e'
  simp only at hs;cases ht:Cc P e' with
  | none=>rw [ht] at hs;cases hs
  | some x=>
   cases hz:Bv P e' with
   | none=>rw [ht,hz] at hs;cases hs
   | some z'=>
    rw [ht,hz] at hs;simp only [Option.some.injEq,Prod.mk.injEq] at hs;obtain ⟨hx2,rfl,rfl⟩:=hs;refine AF _ _ (Am hu ?_);refine AF _ _ (Aw ?_);refine AF _ _ (Aw ?_);unfold LS at hby;unfold Bv at hz;cases hi:P.info? e' with
    | none=>rw [hi] at hz;cases hz
    | some i=>
    rw [hi] at hz hby;simp only [Option.map_some,Option.some.injEq] at hby;simp only [Option.map_eq_some_iff] at hz;obtain ⟨v,hv,hvz⟩:=hz;refine AF _ _ (Cj hi ?_);have hw:IntKind.i64.wrap (N:Int)=N:=IntWalk.i64_in _ aA;simp only [hw,hby];have hb':((by_:Int)*(N:Int))<=281474976710656:=by rw [<-Int.natCast_mul];exact Int.ofNat_le.2 hb
    rw [if_neg (by simp;omega)];simp only [Int.toNat_natCast];have hask:∀(m:Nat)(Q:Unit->GH->Prop),Q () h->(askRoom m).gh P h Q:=λm Q q=>by
     unfold askRoom;split
     ·exact ⟨rfl,q⟩
     ·exact q
    refine AF _ _ (hask _ _ ?_);refine AF _ _ (GN (by rw [ht];rfl) ?_);dsimp only;rw [hx2,Nat.mul_one];by_cases hN:N=0
    ·subst hN;rw [if_pos rfl];refine AF _ _ (Aw ?_);rw [show (Array.range 0).map (λi=>(#[]:Array Value)[i%(#[]:Array Value).size]!)=Array.replicate 0 z from aD];refine AF _ _ ?_;unfold newRow;refine AF _ _ (λr hr=>?_);exact k r _ hr (GH.Le.new hr _ _) (GH.set_same _ _ _ _) λb hb=>GH.set_ne _ _ _ hb
    rw [if_neg hN];unfold zeroValue;refine AF _ _ (AF _ _ (AF _ _ (Cj hi ?_)));rw [hv];refine Aw ?_;refine AF _ _ (Aw ?_);rw [hvz,Sb];refine AF _ _ ?_;unfold newRow;refine AF _ _ (λr hr=>?_);exact k r _ hr (GH.Le.new hr _ _) (GH.set_same _ _ _ _) λb hb=>GH.set_ne _ _ _ hb
theorem Ja{V:Type}{enc:V->Array Value}{x:V}{z:Value}(he:enc x=#[z]):∀N:Nat,DQ enc (List.replicate N x)=List.replicate N z
 | 0=>rfl
 | N+1=>by
  have:=Ja he N
  unfold DQ at this ⊢;rw [List.replicate_succ,List.flatMap_cons,this,he];rfl
theorem AR.made{V:Type}{h h':GH}{r N:Nat}{t:TypeId}{enc:V->Array Value}{x:V}{z:Value}(hr:h r=none)(hb:h' r=some (true,.cells (Array.replicate N z) t (0,0)))(hN:N<=16777216)(he:enc x=#[z]) :
  AR h h' (.slice (some ⟨r,0,none⟩) N N) t 1 enc (List.replicate N x):=
 .inr ⟨r,N,_,by rw [List.length_replicate],hr,hb,aD,aD,by rw [List.length_replicate];omega,by rw [Ja he,List.length_replicate,Nat.mul_one];simp,λy hy=>by rw [(List.mem_replicate.1 hy).2,he];rfl⟩
end
def F7(nj:Nat)(k:Int):Int:=if¬(0<=k/\k<=(nj:Int)-1) then 6 else 0
def Hw(nj:Nat)(l:List Int)(k:Nat):Int:=if¬F7 nj (l.getD k 0)=0 then F7 nj (l.getD k 0) else if (l.take k).any (λx=>decide (l.getD k 0=x))=true then 5 else 0
def Ag(nj:Nat)(l:List Int):Int:=Cr (Hw nj l) 0 l.length
def F8(bag kinds:Int)(ps:List ByteArray)(ws:List AD)(js:List AM)(ns:List AI)(l:List Int):Int:=
 if¬BP bag kinds ps ws js ns=0 then BP bag kinds ps ws js ns else Ag js.length l
theorem NA{nj:Nat}{k:Int}(h:F7 nj k=0):0<=k/\k<nj:=by
 unfold F7 at h;split at h
 ·cases h
 ·omega
theorem E8{nj:Nat}{l:List Int}(h:Ag nj l=0)(k:Nat)(hk:k<l.length):0<=l.getD k 0/\l.getD k 0<nj:=by
 have h1:=DF h k (Nat.zero_le _) aA;unfold Hw at h1;split at h1
 ·rename_i a;exact absurd h1 a
 ·rename_i a;exact NA (Decidable.not_not.1 a)
def GV(out ps:List Int):Nat->List Int
 | 0=>out
 | i+1=>(GV out ps i).set i ((GV out ps i).getD i 0+ps.getD i 0)
def Ci(kinds:Int)(js:List AM)(l:List Int):Nat->List Int
 | 0=>List.replicate kinds.toNat 0
 | q+1=>GV (Ci kinds js l q) (js.getD (l.getD q 0).toNat AM.z).parts (js.getD (l.getD q 0).toNat AM.z).parts.length
def C8(kinds:Int)(js:List AM)(l:List Int):List Int:=Ci kinds js l l.length
theorem LU(out ps:List Int):∀i,(GV out ps i).length=out.length
 | 0=>rfl
 | i+1=>by rw [GV,List.length_set,LU out ps i]
theorem Ov(out ps:List Int)(hl:ps.length=out.length):∀i,i<=ps.length->∀j,(GV out ps i).getD j 0=if j<i then out.getD j 0+ps.getD j 0 else out.getD j 0
 | 0,_,j=>by rw [if_neg aA];rfl
 | i+1,h,j=>by
  have e:=Ov out ps hl i aA;have hn:=LU out ps i;unfold GV;rw [List.getD_eq_getElem?_getD,List.getElem?_set];by_cases hij:i=j
  ·subst hij;rw [if_pos rfl,if_pos aA,if_pos aA,Option.getD_some,e i,if_neg aA]
  ·rw [if_neg hij,<-List.getD_eq_getElem?_getD,e j];by_cases h1:j<i
   ·rw [if_pos h1,if_pos aA]
   ·rw [if_neg h1,if_neg aA]
section
variable {bag kinds:Int} {ps:List ByteArray} {ws:List AD} {js:List AM} {ns:List AI} {l:List Int}
theorem Ow(b:Bc bag kinds ps ws js ns){k:Int}(h:0<=k/\k<js.length):JobOK ps.length kinds (js.getD k.toNat AM.z):=Oi (b.job k.toNat aA)
theorem Iv(b:Bc bag kinds ps ws js ns):∀q,(Ci kinds js l q).length=kinds.toNat
 | 0=>List.length_replicate
 | q+1=>by rw [Ci,LU,Iv b q]
theorem Kg(b:Bc bag kinds ps ws js ns)(hr:∀k,k<l.length->0<=l.getD k 0/\l.getD k 0<js.length):∀q,q<=l.length->∀j,0<=(Ci kinds js l q).getD j 0/\(Ci kinds js l q).getD j 0<=5*(q:Int)
 | 0,_,j=>by
  unfold Ci;rw [List.getD_eq_getElem?_getD,List.getElem?_replicate];split <;> simp
 | q+1,h,j=>by
  have e:=Kg b hr q aA j;have x:=Ow b (hr q aA);have x2:=x.part j;have x3:=x.len;unfold Ci;rw [Ov _ _ (by rw [Iv b q];omega) _ (Nat.le_refl _)];split <;> omega
theorem addP_rng(b:Bc bag kinds ps ws js ns)(hr:∀k,k<l.length->0<=l.getD k 0/\l.getD k 0<js.length){q:Nat}(hq:q<l.length){i:Nat}(hi:i<(js.getD (l.getD q 0).toNat AM.z).parts.length) :
  (GV (Ci kinds js l q) (js.getD (l.getD q 0).toNat AM.z).parts i).length=(js.getD (l.getD q 0).toNat AM.z).parts.length/\0<=(GV (Ci kinds js l q) (js.getD (l.getD q 0).toNat AM.z).parts i).getD i 0/\(GV (Ci kinds js l q) (js.getD (l.getD q 0).toNat AM.z).parts i).getD i 0<=5*(q:Int)/\
  0<=(js.getD (l.getD q 0).toNat AM.z).parts.getD i 0/\(js.getD (l.getD q 0).toNat AM.z).parts.getD i 0<=5:=by
 have x:=Ow b (hr q hq);have e:=Kg b hr q aA i;have x3:=x.len;have hl:=Iv (l:=l) b q;refine ⟨by rw [LU,hl];omega,?_⟩;rw [Ov _ _ (by rw [hl];omega) i aA,if_neg aA];exact ⟨e.1,e.2,x.part i⟩
theorem Va(b:Bc bag kinds ps ws js ns):(C8 kinds js l).length=kinds.toNat:=Iv b _
theorem Vb(b:Bc bag kinds ps ws js ns)(hr:∀k,k<l.length->0<=l.getD k 0/\l.getD k 0<js.length)(j:Nat):0<=(C8 kinds js l).getD j 0/\(C8 kinds js l).getD j 0<=5*(l.length:Int):=Kg b hr _ (Nat.le_refl _) j
theorem sum_take(xs:List Int){k:Nat}(h:k<xs.length):(xs.take (k+1)).sum=(xs.take k).sum+xs.getD k 0:=by
 rw [List.take_add_one,List.sum_append,List.getD_eq_getElem?_getD,List.getElem?_eq_getElem h];simp
theorem sum_all(xs:List Int){k:Nat}(h:xs.length<=k):(xs.take k).sum=xs.sum:=by rw [List.take_of_length_le h]
theorem Ts(h:F8 bag kinds ps ws js ns l=0):Bc bag kinds ps ws js ns/\∀k,k<l.length->0<=l.getD k 0/\l.getD k 0<js.length:=by
 unfold F8 at h;split at h
 ·rename_i a;exact absurd h a
 ·rename_i a;exact ⟨Ck (Decidable.not_not.1 a),E8 h⟩
def Q2(bag kinds:Int)(ps:List ByteArray)(ws:List AD)(js:List AM)(ns:List AI)(l:List Int):List Int:=if¬F8 bag kinds ps ws js ns l=0 then [] else C8 kinds js l
def XW(bag kinds:Int)(ps:List ByteArray)(ws:List AD)(js:List AM)(ns:List AI)(l:List Int):Bool:=if¬F8 bag kinds ps ws js ns l=0 then false else decide ((C8 kinds js l).sum<=bag)
end
end Go.Ns
namespace Go.Ns
open Go.Conc
section
variable {P:Program} {E:GJ P} {O:Nat->Value} {ds:List Deferred} {h:GH} {T:(Nat->Value)->List Deferred->GH->Prop}
variable {dst:Option Nat} {ty:TypeId} {pos:String} {af:Array Edge} {gd:Option (Nat×Bool)}
theorem Kh{t kt vt:TypeId}{x ix:Operand}{r np:Nat}{ws:List AD}{pq:List AG}{q:AG}{a b:Int}{z:Value}(ht:LA P t=some (kt,vt))(hx:AN O x=.map (some r))(hk:AN O ix=Ep (q.w5,a,b))(hm:EA h r np ws pq)
  (hc:∀a:E7,ckP P 4 kt (Ep a)=true)
  (he:∀a b:E7,Nm P 4 kt (Ep a) (Ep b)=some ((a.1.1==b.1.1 && (a.1.2.1==b.1.2.1 && (a.1.2.2.1==b.1.2.2.1 && (a.1.2.2.2.1==b.1.2.2.2.1 && (a.1.2.2.2.2==b.1.2.2.2.2 && true))))) && (a.2.1==b.2.1 && (a.2.2==b.2.2 && true))))
  (hz:(P.info? vt).bind (·.zero)=some z) (hq:q ∈ pq) (ha:0<=a/\a<np) (hb:0<=b/\b<np)
  (k:T (putS O dst (.int .i64 (A9 np ws q a.toNat b.toNat))) ds h):BT E ⟨dst,.lookup t x ix false,ty,pos,af,gd⟩ O ds h T:=by
 obtain ⟨pm,M,hM,hF⟩:=hm;have e:=hF q hq a.toNat b.toNat aA aA;rw [Int.toNat_of_nonneg ha.1,Int.toNat_of_nonneg hb.1] at e;refine QQ (d:=3) (a:=(q.w5,a,b)) ht hx hk hM rfl (hc _) (λb=>by rw [he,E7.eq_iff]) hz ?_;rw [e];exact k
theorem Q3{V:Type}{t:TypeId}{x:Operand}{olo ohi:Option Operand}{n:Nat}{enc:V->Array Value}{xs:List V}{v:Value}{hk:GH}(lo hi:Nat)(ht:Ei P t=some n)(hs:AE hk v n enc xs)(hx:AN O x=v)
  (hlo:match olo with | none=>lo=0 | some o=>∃kd,AN O o=.int kd lo) (hhi:match ohi with | none=>hi=xs.length | some o=>∃kd,AN O o=.int kd hi) (h1:lo<=hi) (h2:hi<=xs.length)
  (k:∀v',AE hk v' n enc ((xs.take hi).drop lo)->T (putS O dst v') ds h):BT E ⟨dst,.slice t x olo ohi none,ty,pos,af,gd⟩ O ds h T:=by
 have hs':=hs;obtain ⟨a,cap,rfl,hc,_,_⟩:=hs';exact Jz lo hi ht hc hx hlo hhi h1 h2 (k _ (hs.part h1 h2))
end
def YM(F:AG->Int)(l:List AG):Nat->Int
 | 0=>F (l.getD 0 AG.zero)
 | k+1=>min (YM F l k) (F ((l.drop 1).getD k AG.zero))
def YN(F:AG->Int)(l:List AG):Nat->Int
 | 0=>F (l.getD 0 AG.zero)
 | k+1=>max (YN F l k) (F ((l.drop 1).getD k AG.zero))
def D3(F:AG->Int)(l:List AG):Int:=YM F l (l.length-1)
def CR(F:AG->Int)(l:List AG):Int:=YN F l (l.length-1)
theorem YO{l:List AG}{k:Nat}(h:k<l.length-1):(l.drop 1).getD k AG.zero ∈ l:=List.mem_of_mem_drop (B0 (by rw [List.length_drop];exact h))
def Q4(s v:Int):Int:=if s=0 then v else 0
theorem NB(v:Int):Q4 0 v=v:=if_pos rfl
theorem NC{s v:Int}(h:¬s=0):Q4 s v=0:=if_neg h
end Go.Ns
namespace Go.Ns
open Go.Conc
theorem Vc:∀(n m:Nat)(f:Nat->Nat),(∀i,i<m->f i<n)->(∀i j,i<j->j<m->f i≠f j)->m<=n
 | 0,m,f,h,_=>by
  rcases Nat.eq_zero_or_pos m with e | e
  ·omega
  ·exact absurd (h 0 e) (Nat.not_lt_zero _)
 | n+1,m,f,h,d=>by
  rcases Nat.eq_zero_or_pos m with e | e
  ·omega
  ·have x:=Vc n (m-1) (λi=>if f i=n then f (m-1) else f i) (λi hi=>by
    have h1:=h i aA;have h2:=h (m-1) aA;have h3:=d i (m-1) hi aA;show (if f i=n then f (m-1) else f i)<n;split <;> omega) (λi j hij hj=>by
    have h1:=d i j hij aA;have h2:=d i (m-1) aA aA;have h3:=d j (m-1) aA aA;show (if f i=n then f (m-1) else f i)≠(if f j=n then f (m-1) else f j);split <;> split <;> omega)
   omega
theorem IV{nj:Nat}{l:List Int}(h:Ag nj l=0):l.length<=nj:=by
 refine Vc nj l.length (λk=>(l.getD k 0).toNat) (λi hi=>?_) λi j hij hj=>?_
 ·have:=E8 h i hi
  show (l.getD i 0).toNat<nj;omega
 ·have hi:=E8 h i aA;have hj':=E8 h j hj;have h1:=DF h j (Nat.zero_le _) aA;unfold Hw at h1;split at h1
  ·rename_i a;exact absurd h1 a
  ·split at h1
   ·cases h1
   ·rename_i a b
    show (l.getD i 0).toNat≠(l.getD j 0).toNat;intro e;refine b (List.any_eq_true.2 ⟨l.getD i 0,?_,decide_eq_true aA⟩);rw [List.mem_iff_getElem];refine ⟨i,by rw [List.length_take];omega,?_⟩;rw [List.getElem_take,List.getD_eq_getElem?_getD,List.getElem?_eq_getElem aA];rfl
def G5(js:List AM)(l:List Int):Nat->Int
 | 0=>0
 | q+1=>(js.getD (l.getD q 0).toNat AM.z).place
def B9(np:Nat)(ws:List AD)(js:List AM)(p:AG)(l:List Int):Nat->Int
 | 0=>0
 | q+1=>B9 np ws js p l q+(A9 np ws p (G5 js l q).toNat (js.getD (l.getD q 0).toNat AM.z).place.toNat+p.works (l.getD q 0).toNat)
def Er(np:Nat)(ws:List AD)(js:List AM)(p:AG)(l:List Int):Nat->List Int
 | 0=>[]
 | q+1=>Er np ws js p l q++[B9 np ws js p l (q+1)]
def A0(np:Nat)(ws:List AD)(js:List AM)(p:AG)(l:List Int):Int:=B9 np ws js p l l.length+A9 np ws p (G5 js l l.length).toNat 0
theorem Iw(np:Nat)(ws:List AD)(js:List AM)(p:AG)(l:List Int):∀q,(Er np ws js p l q).length=q
 | 0=>rfl
 | q+1=>by rw [Er,List.length_append,Iw np ws js p l q];rfl
theorem Ox(np:Nat)(ws:List AD)(js:List AM)(p:AG)(l:List Int):∀q i,i<q->(Er np ws js p l q).getD i 0=B9 np ws js p l (i+1)
 | 0,i,h=>absurd h (Nat.not_lt_zero _)
 | q+1,i,h=>by
  have hl:=Iw np ws js p l q;rw [Er,List.getD_eq_getElem?_getD];by_cases e:i<q
  ·rw [List.getElem?_append_left aA,<-List.getD_eq_getElem?_getD];exact Ox np ws js p l q i e
  ·have e2:i=q:=aA
   subst e2;rw [List.getElem?_append_right aA,hl,Nat.sub_self];rfl
section
variable {bag kinds:Int} {ps:List ByteArray} {ws:List AD} {js:List AM} {ns:List AI} {l:List Int} {p:AG}
theorem Q5{np:Nat}(hp:CF p):(A9 np ws p).ok:=Tp (Oo hp)
theorem goAt_rng(b:Bc bag kinds ps ws js ns)(hr:∀k,k<l.length->0<=l.getD k 0/\l.getD k 0<js.length):∀q,q<=l.length->0<=G5 js l q/\G5 js l q<ps.length
 | 0,_=>by have:=b.plen;show (0:Int)<=0/\(0:Int)<_;omega
 | q+1,h=>by have:=(Ow b (hr q aA)).place;show 0<=(js.getD (l.getD q 0).toNat AM.z).place/\(js.getD (l.getD q 0).toNat AM.z).place<ps.length;omega
theorem Q6(hp:CF p):∀q,0<=B9 ps.length ws js p l q/\B9 ps.length ws js p l q<=1048606*(q:Int)
 | 0=>⟨Int.le_refl 0,Int.le_refl 0⟩
 | q+1=>by
  have e:=Q6 hp q;have f:=Q5 (np:=ps.length) (ws:=ws) hp (G5 js l q).toNat (js.getD (l.getD q 0).toNat AM.z).place.toNat;have w:=hp.works (l.getD q 0).toNat;unfold B9;omega
end
end Go.Ns
namespace Go.Ns
open Go.Conc
theorem EA.store{h h':GH}{q r np:Nat}{ws:List AD}{pq:List AG}(x:EA h r np ws pq)(ho:∀b,b≠q->h' b=h b)(n:r≠q):EA h' r np ws pq:=by
 obtain ⟨pm,M,⟨es,clk,hb,hl⟩,hM⟩:=x;exact ⟨pm,M,⟨es,clk,(ho r n).trans hb,hl⟩,hM⟩
def eSp(x:Int×Int):Array Value:=#[.int .i64 x.1,.int .i64 x.2]
section
variable (np:Nat) (ws:List AD) (js:List AM) (pq:List AG) (l:List Int)
def endLo(i:Nat):Int:=D3 (λx=>B9 np ws js x l (i+1)) pq
def endHi(i:Nat):Int:=CR (λx=>B9 np ws js x l (i+1)) pq
def Ix:Nat->List (Int×Int)
 | 0=>[]
 | q+1=>Ix q++[(endLo np ws js pq l q,endHi np ws js pq l q)]
theorem Oy:∀q,(Ix np ws js pq l q).length=q
 | 0=>rfl
 | q+1=>by rw [Ix,List.length_append,Oy q];rfl
def Oz(i:Nat):Bool:=decide (endHi np ws js pq l i<=(js.getD (l.getD i 0).toNat AM.z).due)
def CG(bag kinds:Int):Bool:=decide ((C8 kinds js l).sum<=bag) && (List.range l.length).all (Oz np ws js pq l)
variable {np ws js pq l}
theorem YP{q:Nat}(h:¬(js.getD (l.getD q 0).toNat AM.z).due<CR (λx=>B9 np ws js x l ((q:Int).toNat+1)) pq):Oz np ws js pq l q=true:=decide_eq_true (Int.not_lt.1 h)
theorem YQ{q:Nat}(h:(js.getD (l.getD q 0).toNat AM.z).due<CR (λx=>B9 np ws js x l ((q:Int).toNat+1)) pq):Oz np ws js pq l q=false:=decide_eq_false (Int.not_le.2 h)
variable {bag kinds:Int}
theorem Vd(h:¬(C8 kinds js l).sum<=bag):CG np ws js pq l bag kinds=false:=by unfold CG;rw [decide_eq_false h];rfl
theorem YR{k:Nat}(hk:k<l.length)(h:(js.getD (l.getD k 0).toNat AM.z).due<CR (λx=>B9 np ws js x l ((k:Int).toNat+1)) pq):CG np ws js pq l bag kinds=false:=by
 unfold CG;rw [Bool.and_eq_false_iff];refine .inr (Bool.eq_false_iff.2 λe=>?_)
 have:=List.all_eq_true.1 e k (List.mem_range.2 hk)
 rw [YQ h] at this;cases this
theorem safe_all{k:Nat}(h:¬¬(C8 kinds js l).sum<=bag)(hs:∀j,j<k->Oz np ws js pq l j=true)(hk:l.length<=k):CG np ws js pq l bag kinds=true:=by
 unfold CG;rw [decide_eq_true (Decidable.not_not.1 h),Bool.true_and];exact List.all_eq_true.2 λj hj=>hs j (by have:=List.mem_range.1 hj;omega)
end
def Dl:Nat->List Int
 | 0=>[]
 | k+1=>Dl k++[(k:Int)]
theorem D0:∀n,(Dl n).length=n
 | 0=>rfl
 | n+1=>by rw [Dl,List.length_append,D0 n];rfl
def Es(nj:Nat)(l:List Int)(i:Int):Int:=if¬Ag nj l=0 then Ag nj l else if¬(0<=i/\i<=(l.length:Int)-1) then 1 else 0
theorem Tt{nj:Nat}{l:List Int}{i:Int}(h:Es nj l i=0):Ag nj l=0/\0<=i/\i<l.length:=by
 unfold Es at h;split at h
 ·rename_i a;exact absurd h a
 ·rename_i a
  split at h
  ·cases h
  ·exact ⟨Decidable.not_not.1 a,aA⟩
section
variable (bag kinds:Int) (ps:List ByteArray) (ws:List AD) (js:List AM) (ns:List AI) (l:List Int)
def Q7:List (Int×Int):=if¬AY bag kinds ps ws js ns (Ag js.length l)=0 then [] else Ix ps.length ws js (AB ws js ns) l l.length
def XX:Bool:=if¬AY bag kinds ps ws js ns (Ag js.length l)=0 then false else CG ps.length ws js (AB ws js ns) l bag kinds
def KN(i:Int):Int:=
 if¬AY bag kinds ps ws js ns (Es js.length l i)=0 then 0 else if (js.getD (l.getD i.toNat 0).toNat AM.z).due<endLo ps.length ws js (AB ws js ns) l i.toNat then 1
 else if endHi ps.length ws js (AB ws js ns) l i.toNat<=(js.getD (l.getD i.toNat 0).toNat AM.z).due then 2 else 0
variable {bag kinds ps ws js ns l} {i:Int}
theorem late_yes(h0:AY bag kinds ps ws js ns (Es js.length l i)=0)(h:(js.getD (l.getD i.toNat 0).toNat AM.z).due<D3 (λx=>B9 ps.length ws js x l (i.toNat+1)) (AB ws js ns)):(1:Int)=KN bag kinds ps ws js ns l i:=by
 unfold KN;rw [if_neg (λx=>x h0)];exact (if_pos h).symm
theorem late_no(h0:AY bag kinds ps ws js ns (Es js.length l i)=0)(h:¬(js.getD (l.getD i.toNat 0).toNat AM.z).due<D3 (λx=>B9 ps.length ws js x l (i.toNat+1)) (AB ws js ns))
  (h2:CR (λx=>B9 ps.length ws js x l (i.toNat+1)) (AB ws js ns)<=(js.getD (l.getD i.toNat 0).toNat AM.z).due):(2:Int)=KN bag kinds ps ws js ns l i:=by
 unfold KN;rw [if_neg (λx=>x h0)];exact ((if_neg h).trans (if_pos h2)).symm
theorem YS(h0:AY bag kinds ps ws js ns (Es js.length l i)=0)(h:¬(js.getD (l.getD i.toNat 0).toNat AM.z).due<D3 (λx=>B9 ps.length ws js x l (i.toNat+1)) (AB ws js ns))
  (h2:¬CR (λx=>B9 ps.length ws js x l (i.toNat+1)) (AB ws js ns)<=(js.getD (l.getD i.toNat 0).toNat AM.z).due):(0:Int)=KN bag kinds ps ws js ns l i:=by
 unfold KN;rw [if_neg (λx=>x h0)];exact ((if_neg h).trans (if_neg h2)).symm
theorem late_bad(h0:¬AY bag kinds ps ws js ns (Es js.length l i)=0):(0:Int)=KN bag kinds ps ws js ns l i:=by unfold KN;rw [if_pos h0]
end
end Go.Ns
namespace Go.Ns
open Go.Conc
def Gh(i:Nat)(pq:List AG):Nat->List Int
 | 0=>[]
 | k+1=>Gh i pq k++[(pq.getD k AG.zero).works i]
theorem Gu(i:Nat)(pq:List AG):∀k,(Gh i pq k).length=k
 | 0=>rfl
 | k+1=>by rw [Gh,List.length_append,Gu i pq k];rfl
theorem O0{i:Nat}{pq:List AG}{k:Nat}(h:0<k):Gh i pq k≠[]:=λe=>by
 have:=Gu i pq k
 rw [e] at this;simp at this;omega
def MF(bag kinds:Int)(ps:List ByteArray)(ws:List AD)(js:List AM)(ns:List AI)(i:Int):List Int:=
 if¬AY bag kinds ps ws js ns (F7 js.length i)=0 then [] else Dd (Ef (Gh i.toNat (AB ws js ns) (AB ws js ns).length))
end Go.Ns
namespace Go.Ns
open Go.Conc
theorem Tu{h:GH}{r:Nat}{M:Int->Option Int}(x:Cn h r Di Di M):∃y,h r=some y:=by
 obtain ⟨es,clk,hb,_⟩:=x;exact ⟨_,hb⟩
def Dk(ns:List AI)(mask:Int)(k:Nat):List AI:=((List.range k).filter (Mu mask)).map λ(i:Nat)=>ns.getD i AI.z
section
variable {ns:List AI} {mask:Int} {k:Nat} {h:GH}
theorem pickN_t(hb:mask.fdiv (2 ^ k)%2=1):Dk ns mask (k+1)=Dk ns mask k++[ns.getD k AI.z]:=by
 unfold Dk;rw [JR (by unfold Mu;rw [decide_eq_true hb]),List.map_append];rfl
theorem pickN_f(hb:¬mask.fdiv (2 ^ k)%2=1):Dk ns mask (k+1)=Dk ns mask k:=by
 unfold Dk;rw [JS (by unfold Mu;rw [decide_eq_false hb])]
theorem Q8(ns:List AI)(mask:Int)(k:Nat):(Dk ns mask k).length<=k:=by
 unfold Dk;rw [List.length_map]
 have:=List.length_filter_le (Mu mask) (List.range k)
 rwa [List.length_range] at this
theorem Tv(ns:List AI)(mask:Int)(k q:Nat)(hq:q<(Dk ns mask k).length):∃i,i<k/\(Dk ns mask k).getD q AI.z=ns.getD i AI.z:=by
 have hm:(Dk ns mask k).getD q AI.z ∈ Dk ns mask k:=B0 hq;unfold Dk at hm ⊢;obtain ⟨i,hi,e⟩:=List.mem_map.1 hm;exact ⟨i,List.mem_range.1 (List.mem_filter.1 hi).1,e.symm⟩
theorem AU.pick(x:AU h ns)(mask:Int)(k:Nat):AU h (Dk ns mask k):=λq=>by
 by_cases hq:q<(Dk ns mask k).length
 ·obtain ⟨i,_,e⟩:=Tv ns mask k q hq;rw [e];exact x i
 ·rw [List.getD_eq_getElem?_getD,List.getElem?_eq_none aA];exact AU.nil h 0
theorem AU.fine1(x:AU h ns)(k:Nat):(Aq (ns.getD k AI.z)).toList.all (·.oneCell')=true:=by
 show (((ns.getD k AI.z).wv.oneCell') && (true && (true && true)))=true;rw [(AE.one (x k)).2];rfl
theorem AU.fine(x:AU h ns):∀y ∈ ns,(Aq y).toList.all (·.oneCell')=true:=λy hy=>by
 obtain ⟨i,hi,e⟩:=List.mem_iff_getElem.1 hy
 have:=x.fine1 i
 rw [List.getD_eq_getElem?_getD,List.getElem?_eq_getElem hi] at this;rw [<-e];exact this
theorem Sd{nw:Nat}{ns ns':List AI}{k i:Nat}(e:ns'.getD k AI.z=ns.getD i AI.z):Dz nw ns' k=Dz nw ns i:=by unfold Dz;rw [e]
theorem Bc.pick{bag kinds:Int}{ps:List ByteArray}{ws:List AD}{js:List AM}(b:Bc bag kinds ps ws js ns)(mask:Int):Bc bag kinds ps ws js (Dk ns mask ns.length):=
 { b with
  nlen:=Nat.le_trans (Q8 ns mask ns.length) b.nlen
  note:=λk hk=>by
   obtain ⟨i,hi,e⟩:=Tv ns mask ns.length k hk;rw [Sd e];exact b.note i hi }
end
section
variable (ws:List AD) (js:List AM) (ns:List AI)
def Ff(x:Bool×List Int)(l:List Int):Bool:=x.1 && (decide ((x.2.length:Int)<l.length) || (decide ((l.length:Int)=x.2.length) && decide (0<TX l x.2)))
def B8:Nat->Bool×List Int
 | 0=>(false,[])
 | q+1=>if Ff (B8 q) (Dj (q:Int) ns.length)=true then B8 q else if (AB ws js (Dk ns (q:Int) ns.length)).length=0 then (true,Dj (q:Int) ns.length) else B8 q
variable {ws js ns} {q:Nat}
theorem Hx(h:Ff (B8 ws js ns q) (Dj (q:Int) ns.length)=true):B8 ws js ns (q+1)=B8 ws js ns q:=if_pos h
theorem ND(h:Ff (B8 ws js ns q) (Dj (q:Int) ns.length)=false)(h2:((AB ws js (Dk ns (q:Int) ns.length)).length:Int)=0):B8 ws js ns (q+1)=(true,Dj (q:Int) ns.length):=by
 rw [B8,if_neg (by rw [h];simp),if_pos aA]
theorem NE(h:Ff (B8 ws js ns q) (Dj (q:Int) ns.length)=false)(h2:¬((AB ws js (Dk ns (q:Int) ns.length)).length:Int)=0):B8 ws js ns (q+1)=B8 ws js ns q:=by
 rw [B8,if_neg (by rw [h];simp),if_neg aA]
theorem YT{x:Bool×List Int}{l:List Int}(h:x.1=false):Ff x l=false:=by unfold Ff;rw [h];rfl
theorem YU{x:Bool×List Int}{l:List Int}(h:¬(x.2.length:Int)<l.length)(h2:¬(l.length:Int)=x.2.length):Ff x l=false:=by
 unfold Ff;rw [decide_eq_false h,decide_eq_false h2];simp
theorem YV{x:Bool×List Int}{l:List Int}(h:¬(x.2.length:Int)<l.length)(h2:¬0<TX l x.2):Ff x l=false:=by
 unfold Ff;rw [decide_eq_false h,decide_eq_false h2];simp
theorem Q9{x:Bool×List Int}{l:List Int}(h:x.1=true)(h1:(x.2.length:Int)<l.length):Ff x l=true:=by
 unfold Ff;rw [h,decide_eq_true h1];simp
theorem RA{x:Bool×List Int}{l:List Int}(h:x.1=true)(h1:(l.length:Int)=x.2.length)(h2:0<TX l x.2):Ff x l=true:=by
 unfold Ff;rw [h,decide_eq_true h1,decide_eq_true h2];simp
theorem pow_16:∀{n:Nat},n<=4->(1:Int)<=(2:Int) ^ n/\(2:Int) ^ n<=16
 | 0,_=>aC
 | 1,_=>aC
 | 2,_=>aC
 | 3,_=>aC
 | 4,_=>aC
theorem O1:∀q,(B8 ws js ns q).2.length<=ns.length
 | 0=>Nat.zero_le _
 | q+1=>by
  have e:=O1 q;unfold B8;split
  ·exact e
  ·split
   ·exact QW _ _
   ·exact e
def Gi(bag kinds:Int)(ps:List ByteArray)(ws:List AD)(js:List AM)(ns:List AI):List Int:=
 if¬BP bag kinds ps ws js ns=0 then [] else if (0:Int)<(AB ws js ns).length then [] else (B8 ws js ns (2 ^ ns.length)).2
end
section
variable {bag kinds:Int} {ps:List ByteArray} {ws:List AD} {js:List AM} {ns:List AI} {q:Nat}
theorem Tw(h:¬BP bag kinds ps ws js ns=0):Gi bag kinds ps ws js ns=[]:=if_pos h
theorem Se(h:(0:Int)<(AB ws js ns).length):Gi bag kinds ps ws js ns=[]:=by
 unfold Gi;rw [if_pos h];exact ite_self _
theorem Tx(h:BP bag kinds ps ws js ns=0)(h1:¬(0:Int)<(AB ws js ns).length)(hq:¬(q:Int)<(2:Int) ^ ((ns.length:Int)).toNat)(hq2:(q:Int)<=(2:Int) ^ ((ns.length:Int)).toNat):Gi bag kinds ps ws js ns=(B8 ws js ns q).2:=by
 have e:((2 ^ ns.length:Nat):Int)=(2:Int) ^ ((ns.length:Int)).toNat:=by rw [Int.toNat_natCast,Int.natCast_pow];rfl
 rw [<-e] at hq hq2
 have:2 ^ ns.length=q:=aA
 unfold Gi;rw [if_neg (λx=>x h),if_neg h1,this]
end
section
variable (ws:List AD) (js:List AM) (ns:List AI)
abbrev IW(pq:List AG)(i:Nat):Nat->Int:=λk=>(pq.getD k AG.zero).ways i
def C5(pq:List AG)(i:Nat):Int:=Fj (IW pq i) pq.length
def HM(pq:List AG)(k:Nat):Int×Int:=LJ (C5 pq) (pq.length:Int) k
theorem Jb(f:Nat->Int):∀k,0<=Fj f k/\Fj f k<=(k:Int)
 | 0=>by simp [Fj]
 | k+1=>by
  have h1:=Jb f k;have h2:=Gq f (k+1) (f k);unfold Fj;omega
theorem RB{pq:List AG}{k:Nat}(h:C5 pq k<(HM pq k).2):HM pq (k+1)=((k:Int),C5 pq k):=if_pos h
theorem RC{pq:List AG}{k:Nat}(h:¬C5 pq k<(HM pq k).2):HM pq (k+1)=HM pq k:=if_neg h
def Ak(bag kinds:Int)(ps:List ByteArray)(ws:List AD)(js:List AM)(ns:List AI):Int:=if¬AY bag kinds ps ws js ns 0=0 then 0 else (HM (AB ws js ns) ws.length).1
def Av(bag kinds:Int)(ps:List ByteArray)(ws:List AD)(js:List AM)(ns:List AI):Int:=if¬AY bag kinds ps ws js ns 0=0 then 0 else (HM (AB ws js ns) ws.length).2
end
end Go.Ns
namespace Go.Ns
open Go.Conc
def P5(hs:GH)(k0 ln:Nat)(c:Array Value)(t:TypeId)(k:Nat)(v:Value)(h:GH):Prop:=k=k0->∃r,v=.slice (some ⟨r,0,none⟩) ln ln/\hs r=none/\h r=some (true,.cells c t (0,0))
theorem P5.mono(hs:GH)(k0 ln:Nat)(c:Array Value)(t:TypeId):∀k v h1 h2,GH.Le h1 h2->P5 hs k0 ln c t k v h1->P5 hs k0 ln c t k v h2:=λ_ _ _ _ l x e=>by
 obtain ⟨r,q1,q2,q3⟩:=x e;exact ⟨r,q1,q2,l.keep q3 rfl⟩
theorem RD{P:Program}{E:GJ P}{O:Nat->Value}{ds:List Deferred}{hs hx:GH}{dst:Option Nat}{ty:TypeId}{pos:String}{af:Array Edge}{gd:Option (Nat×Bool)}{t:TypeId}{len n k0 k:Nat}{z cells:Array Value}{e:TypeId}{parts:Array (Nat×Operand)}
  (h0:DJ P t=some (n,z,e)) (hl:len*n<=2 ^ 24) (hn:(len*n=0)=False) (hf:Instr.fill (λi=>some (i*n,n)) ((Array.range (len*n)).map (z[·%z.size]!)) (parts.map λ(i,x)=>(i,AN O x)).toList=some cells) (l:hs.Le hx) :
  BT E ⟨dst,.buildSlice t len parts,ty,pos,af,gd⟩ O ds hx λσ' ds' h'=>ds'=ds/\∃v,σ'=putS O dst v/\hx.Le h'/\P5 hs k0 len cells e k v h':=
 AX h0 hl hn hf λr h' hr le bx _=>⟨rfl,_,rfl,le,λ_=>⟨r,rfl,GH.Le.nothing l hr,bx⟩⟩
def LfW(hs:GH)(k0 ln:Nat)(c:Array Value)(t:TypeId)(n:Nat)(Fr:GH->Prop)(k:Nat)(v:Value)(h:GH):Prop:=P5 hs k0 ln c t k v h/\(k=n->Fr h)
theorem LfW.mono(hs:GH)(k0 ln:Nat)(c:Array Value)(t:TypeId)(n:Nat){Fr:GH->Prop}(m:∀h1 h2,GH.Le h1 h2->Fr h1->Fr h2):∀k v h1 h2,GH.Le h1 h2->LfW hs k0 ln c t n Fr k v h1->LfW hs k0 ln c t n Fr k v h2:=λ_ _ _ _ l x=>⟨P5.mono _ _ _ _ _ _ _ _ _ l x.1,λe=>m _ _ l (x.2 e)⟩
theorem Ve{P:Program}{E:GJ P}{O:Nat->Value}{ds:List Deferred}{hs hx:GH}{dst:Option Nat}{ty:TypeId}{pos:String}{af:Array Edge}{gd:Option (Nat×Bool)}{t:TypeId}{len n k0 N:Nat}{z cells:Array Value}{e:TypeId}{parts:Array (Nat×Operand)}{Fr:GH->Prop}(hk:k0≠N)
  (h0:DJ P t=some (n,z,e)) (hl:len*n<=2 ^ 24) (hn:(len*n=0)=False) (hf:Instr.fill (λi=>some (i*n,n)) ((Array.range (len*n)).map (z[·%z.size]!)) (parts.map λ(i,x)=>(i,AN O x)).toList=some cells) (l:hs.Le hx) :
  BT E ⟨dst,.buildSlice t len parts,ty,pos,af,gd⟩ O ds hx λσ' ds' h'=>ds'=ds/\∃v,σ'=putS O dst v/\hx.Le h'/\LfW hs k0 len cells e N Fr k0 v h':=
 AX h0 hl hn hf λr h' hr le bx _=>⟨rfl,_,rfl,le,λ_=>⟨r,rfl,GH.Le.nothing l hr,bx⟩,λe=>absurd e hk⟩
theorem tFg{P:Program}{E:GJ P}{l:List Oper}{n:Nat}{fl:Bool}{hs:GH}{ds:List Deferred}{Lw:Nat->Value->GH->Prop}{F:(Nat->Value)->GH->Prop}{π:List Nat}{O:Nat->Value}{h:GH}{m k g d:Nat}{dst:Option Nat}{op:Op}{ty:TypeId}{pos:String}{af:Array Edge}{v:Value}{w:Bool}{og:Oper}
  (hk:KK m=(.p,k)) (ho:l[k]? =some ⟨dst,op,ty,pos,af,some (g,w)⟩) (h1:l[g]? =some og) (h2:og.dst=some d) (h3:O d=.bool w) (x:∀hx,Lw n undef hx->SD E ⟨dst,op,ty,pos,af,some (g,w)⟩ O ds hx v)
  (y:TD E l n fl hs ds Lw F (dK π) (putS O dst v) h):TD E l n fl hs ds Lw F (dK (m ::π)) O h:=by
 unfold dK;rw [hk];exact ⟨_,true,ho,HK h1 h2 h3,λe=>(by cases e),λ_=>⟨v,x,y⟩⟩
theorem tWLg{P:Program}{E:GJ P}{l:List Oper}{n:Nat}{hs:GH}{ds:List Deferred}{Lw:Nat->Value->GH->Prop}{F:(Nat->Value)->GH->Prop}{π:List Nat}{O:Nat->Value}{h:GH}{m k g d:Nat}{dst:Option Nat}{op:Op}{ty:TypeId}{pos:String}{af:Array Edge}{w:Bool}{og:Oper}(hk:KK m=(.w,k))(ho:l[k]? =some ⟨dst,op,ty,pos,af,some (g,w)⟩)(h1:l[g]? =some og)(h2:og.dst=some d)(h3:O d=.bool w)
  (x:BT E ⟨dst,op,ty,pos,af,some (g,w)⟩ O ds h λσ' ds' h'=>ds'=ds/\∃v,σ'=putS O dst v/\Lw n undef h'/\TD E l n false hs ds Lw F (dK π) (putS O dst v) h'):TD E l n false hs ds Lw F (dK (m ::π)) O h:=by
 unfold dK;rw [hk];exact ⟨_,true,ho,HK h1 h2 h3,λe=>(by cases e),λ_ hx hg=>by rw [hg.2 rfl];exact x⟩
def Ty(h:GH)(t:TypeId)(v:Value):Prop:=∀b,CX v=some b->∃p c f,h b=some (p,.cells c t f)
def D5(h:GH)(t:TypeId)(v:Value)(xs:List Int):Prop:=AE h v 1 eI xs/\Ty h t v
theorem D5.le{h h':GH}{t:TypeId}{v:Value}{xs:List Int}(x:D5 h t v xs)(l:h.Le h'):D5 h' t v xs:=⟨x.1.le l,λb hb=>by
 obtain ⟨p,c,f,q⟩:=x.2 b hb;exact ⟨p,c,f,l.keep q rfl⟩⟩
theorem D5.nil(h:GH)(t:TypeId):D5 h t (.slice none 0 0) []:=⟨AE.nil _ _ _,λb hb=>by cases hb⟩
theorem D5.own{h0 h:GH}{t:TypeId}{v:Value}{xs:List Int}(o:AR h0 h v t 1 eI xs):D5 h t v xs:=⟨o.sl,λb hb=>by
 rcases o with ⟨rfl,_⟩ | ⟨b1,cap,c,rfl,_,h2,_⟩
 ·cases hb
 ·simp only [CX,Option.some.injEq] at hb;subst hb;exact ⟨_,_,_,h2⟩⟩
theorem D5.same{h h':GH}{t:TypeId}{w:Value}{xs:List Int}(x:D5 h t w xs)(key:∀b,CX w=some b->h' b=h b):D5 h' t w xs:=by
 refine ⟨?_,λb hb=>by rw [key b hb];exact x.2 b hb⟩;obtain ⟨a,cap,hv,hc,hm,he⟩:=x.1;refine ⟨a,cap,hv,hc,hm,λi hi=>?_⟩;obtain ⟨b,off,h1,h2⟩:=he i hi;exact ⟨b,off,h1,h2.same (key b (by rw [hv,h1];rfl))⟩
theorem D5.keepX{X:Nat->Prop}{h h':GH}{t:TypeId}{w:Value}{xs:List Int}(x:D5 h t w xs)(k:BZ X h h')(n:∀b,CX w=some b->¬X b):D5 h' t w xs:=
 x.same λb hb=>by
  obtain ⟨p,c,f,q⟩:=x.2 b hb;rw [q];exact k.box q (n b hb) rfl
theorem D5.store{h h':GH}{t t':TypeId}{w:Value}{xs:List Int}{r:Nat}{p:Bool}{c:Array Value}{f:Nat×Nat}(x:D5 h t w xs)(hr:h r=some (p,.cells c t' f))(ne:t'≠t)(ho:∀b,b≠r->h' b=h b):D5 h' t w xs:=
 x.same λb hb=>ho b λe=>by
  obtain ⟨p2,c2,f2,q⟩:=x.2 b hb;rw [e,hr] at q;cases q;exact ne rfl
def CV(h:GH)(t:TypeId)(l:List Sl):Prop:=∀k,D5 h t (l.getD k Sl.z).1 (l.getD k Sl.z).2
theorem CV.le{h h':GH}{t:TypeId}{l:List Sl}(x:CV h t l)(e:h.Le h'):CV h' t l:=λk=>(x k).le e
theorem CV.nil(h:GH)(t:TypeId):CV h t []:=λk=>by
 rw [CJ aD];exact D5.nil _ _
theorem O2{V:Type}(z:V)(a b:List V)(k:Nat):(a++b).getD k z=if k<a.length then a.getD k z else b.getD (k-a.length) z:=by
 simp only [List.getD_eq_getElem?_getD,List.getElem?_append];split <;> rfl
theorem CV.app{h:GH}{t:TypeId}{l l':List Sl}(a:CV h t l)(b:CV h t l'):CV h t (l++l'):=λk=>by
 rw [O2];split
 ·exact a k
 ·exact b _
theorem CV.one{h:GH}{t:TypeId}{x:Sl}(a:D5 h t x.1 x.2):CV h t [x]:=λk=>by
 cases k with
 | zero=>exact a
 | succ k=>rw [CJ aD];exact D5.nil _ _
theorem MG(a b:List Sl):A3 (a++b)=A3 a++A3 b:=by simp [A3]
section
variable {V:Type} {hB:GH} {I:List V->(Nat->Prop)->GH->Prop} {S:GH->Prop} {X0 X X1:Nat->Prop} {h hc h':GH} {pre l:List V} {v v':Value}
def Iy(hB:GH)(X0 X:Nat->Prop)(h:GH)(v:Value):Prop:=∀b,CX v=some b->¬X b/\(X0 b\/h b=none)/\hB b=none
theorem EP.old(y:EP hB I X0 h pre X hc){b:Nat}(e:hc b=none):X0 b\/h b=none:=by
 by_cases q:X0 b
 ·exact .inl q
 ·refine .inr ?_;cases hb:h b with
  | none=>rfl
  | some x=>
   obtain ⟨o',h1,_⟩:=y.keep b x.1 x.2 hb q;rw [e] at h1;cases h1
theorem EP.fresh(P:GG hB I)(y:EP hB I X0 h pre X hc)(o:∀b,CX v=some b->hc b=none):Iy hB X0 X h v:=λb hb=>⟨P.off y.inv (o b hb),y.old (o b hb),y.base.nothing (o b hb)⟩
theorem Iy.grown(f:Iy hB X0 X h v)(P:GG hB I)(y:EP hB I X0 h pre X hc)(g:HA hc h' v v'):Iy hB X0 X h v':=λb hb=>by
 rcases g.2 with e | ⟨⟨r,e1,e2⟩,_⟩
 ·exact f b (e▸hb)
 ·rw [e1] at hb;cases hb;exact ⟨P.off y.inv e2,y.old e2,y.base.nothing e2⟩
theorem EP.app(P:GG hB I)(y:EP hB I X0 h pre X hc)(g:HA hc h' v v')(f:Iy hB X0 X h v):EP hB I X0 h pre X h':=by
 have lB:hB.Le h':=λb p o hb=>by
  obtain ⟨o1,h1,h2⟩:=y.base b p o hb;exact ⟨o1,g.1 b _ h1 λe=>(by rw [(f b e).2.2] at hb;cases hb),h2⟩
 refine ⟨P.stable _ _ hc h' y.inv (λb hb=>?_) lB,y.sub,λb p o hb hn=>?_,lB⟩
 ·obtain ⟨p,o,h1,_⟩:=P.dom _ _ _ b y.inv hb;rw [h1];exact g.1 b _ h1 λe=>(f b e).1 hb
 ·obtain ⟨o1,h1,h2⟩:=y.keep b p o hb hn;exact ⟨o1,g.1 b _ h1 λe=>(f b e).2.1.elim hn λq=>(by rw [q] at hb;cases hb),h2⟩
theorem EP.callL(y:EP hB I X0 h pre X hc)(f:Iy hB X0 X h v){u:Value}(r:Eb hB I S pre (λb=>X b\/CX v=some b) hc l u h') :
  ∃ok X',u=.bool ok/\(∀b,X' b->(X b\/CX v=some b)\/hc b=none)/\BZ (λb=>X b\/CX v=some b) hc h'/\(ok=true->EP hB I X0 h (pre++l) X' h')/\(ok=false->∀l',Eb hB I S pre X0 h l' (.bool false) h'):=by
 obtain ⟨ok,X',hv,hs,hk,hl,h1,h2⟩:=r;have s:∀b,(X b\/CX v=some b)->X0 b\/h b=none:=λb q=>q.elim (y.sub b) λe=>(f b e).2.1;have kk:BZ X0 h h':=y.keep.trans s hk;have ss:=subX s y.keep hs;exact ⟨ok,X',hv,hs,hk,λe=>⟨h1 e,ss,kk,hl⟩,λe l'=>⟨false,X',rfl,ss,kk,hl,(λx=>by cases x),λ_=>h2 e⟩⟩
end
structure O3{P:Program}(W:Wk P)(hB:GH)(yv:Value)(t:TypeId)(I:List (List Int)->(Nat->Prop)->GH->Prop)(S:GH->Prop)(all:List (List Int)):Prop where
 prom:GG hB I
 one:yv.cells=#[yv]
 call:∀pre p post X h v,all=pre++p ::post->I pre X h->hB.Le h->D5 h t v p->(∀b,CX v=some b->¬X b/\hB b=none)->Bw W yv #[v] h (Eb hB I S pre (λb=>X b\/CX v=some b) h [p])
section
variable {P:Program} {E:GJ P} {O:Nat->Value} {ds:List Deferred}
theorem RE{t0:TypeId}{all:List (List Int)}{hB hc:GH}{J:List (List Int)->(Nat->Prop)->GH->Prop}{Stop:Code->GH->Prop}{Y0:Nat->Prop}{par:Tmp}{f:Operand}{assign body:Code}{Q:Post}
  (hrd:E.rd=none) (hpar:Nat.blt par E.N=true) (hJ:GG hB J) (hB0:hB.Le hc) (j0:J [] Y0 hc)
  (hS:∀c (h h':GH) l lo,Stop c h->h l=some (true,.loop lo)->(∀b,b≠l->h' b=h b)->Stop c h')
  (src:∀(yv:Value)(I:List (List Int)->(Nat->Prop)->GH->Prop)(Sp:GH->Prop)(X:Nat->Prop)(h:GH),O3 E.wk hB yv t0 I Sp all->hB.Le h->I [] X h->Bw E.wk (AN O f) #[yv] h λ_ h'=>YEnd hB I Sp all X h h')
  (round:∀(l d:Nat)(lo:Loop)(pre:List (List Int))(p:List Int)(post:List (List Int))(Y:Nat->Prop)(h:GH)(v:Value),all=pre++p ::post->J pre Y h->hB.Le h->hB l=none->¬Y l->h l=some (true,.loop lo)->D5 h t0 v p->(∀b,CX v=some b->¬Y b/\hB b=none)->
   Tr ⟨E.wk,E.fn,some l,E.N⟩ assign (upd O par v) [] h λe σ' ds' h1=>e=.normal/\h1 l=some (true,.loop lo)/\∀h2,h2 l=some (true,.loop { lo with state:=.busy })->(∀b,b≠l->h2 b=h1 b)->
    Tr ⟨E.wk,E.fn,some l,E.N⟩ body σ' ds' h2 (TW hB J Stop (pre++[p]) (λb=>Y b\/CX v=some b) h l lo))
  (fin:∀(d l:Nat)(h':GH),hB.Le h'->hB d=none->hB l=none->hc d=none->h' d=some (true,.deferred (some []))->
   (∀Y,J all Y h'->(∀b,Y b->b≠d)->Q .normal O ({ target:=.collected d,args:=#[] } ::ds) h')/\
   (∀c,Stop c h'->match c with
    | .exit id=>Q (.exit id) O ({ target:=.collected d,args:=#[] } ::ds) h'
    | .ret=>Q .ret O ({ target:=.collected d,args:=#[] } ::ds) h'
    | _=>False)):Tr E (.rangeFunc f #[par] assign body) O ds hc Q:=by
 refine LC hrd λt d l hs hd hl hne=>?_;have hl':hB l=none:=hB0.nothing hl;have hd':hB d=none:=hB0.nothing hd;let lo:Loop:={ state:=.ready,pending:=none,fn:=E.fn,tmps:=t,params:=#[par],assign,body,defers:=d };have nYl:¬Y0 l:=hJ.off j0 hl;have nYd:¬Y0 d:=hJ.off j0 hd;have hL1:((hc.set d true (.deferred (some []))).set l true (.loop lo)) l=some (true,.loop lo):=GH.set_same _ _ _ _;have hL2:((hc.set d true (.deferred (some []))).set l true (.loop lo)) d=some (true,.deferred (some [])):=by rw [GH.set_ne _ _ _ (Ne.symm hne)];exact GH.set_same _ _ _ _
 have hL3:∀b,b≠l->b≠d->((hc.set d true (.deferred (some []))).set l true (.loop lo)) b=hc b:=λb h1 h2=>by rw [GH.set_ne _ _ _ h1,GH.set_ne _ _ _ h2]
 have hLB:hB.Le ((hc.set d true (.deferred (some []))).set l true (.loop lo)):=(hB0.trans (GH.Le.new hd _ _)).trans (GH.Le.new (by rw [GH.set_ne _ _ _ hne];exact hl) _ _);have hI0:Mt J l d lo [] (λb=>Y0 b\/b=l\/b=d) ((hc.set d true (.deferred (some []))).set l true (.loop lo)):=by
  refine ⟨Y0,hJ.stable _ _ hc _ j0 (λb hb=>hL3 b (λe=>nYl (e▸hb)) (λe=>nYd (e▸hb))) hLB,λb=>Iff.rfl,nYl,nYd,hL1,hL2⟩
 have prom:GG hB (Mt J l d lo):=by
  refine ⟨?_,?_⟩
  ·rintro pre X h b ⟨Y,j,hX,_,_,h1,h2⟩ hb;rcases (hX b).1 hb with h3 | rfl | rfl
   ·exact hJ.dom _ _ _ _ j h3
   ·exact ⟨_,_,h1,rfl⟩
   ·exact ⟨_,_,h2,rfl⟩
  ·rintro pre X h h' ⟨Y,j,hX,n1,n2,h1,h2⟩ same lB;refine ⟨Y,hJ.stable _ _ h h' j (λb hb=>same b ((hX b).2 (.inl hb))) lB,hX,n1,n2,?_,?_⟩
   ·rw [same l ((hX l).2 (.inr (.inl rfl)))];exact h1
   ·rw [same d ((hX d).2 (.inr (.inr rfl)))];exact h2
 have yk:O3 E.wk hB (.func (.yield l) #[] #[]) t0 (Mt J l d lo) (QU Stop l d lo) all:=by
  refine ⟨prom,rfl,?_⟩;rintro pre p post X h v hall ⟨Y,j,hX,n1,n2,h1,h2⟩ lB hsv hvX;have nvl:CX v≠some l:=λe=>by obtain ⟨_,_,_,q⟩:=hsv.2 l e;rw [h1] at q;cases q
  have nvd:CX v≠some d:=λe=>by obtain ⟨_,_,_,q⟩:=hsv.2 d e;rw [h2] at q;cases q
  refine OF h1 rfl ?_;have ef:(lo.params.zip #[v]).foldl (λtmps x=>tmps.setIfInBounds x.1 x.2) lo.tmps=t.setIfInBounds par v:=by simp [lo]
  rw [ef];show Ba E.wk l E.fn (t.setIfInBounds par v) assign body h _;have hs':=hs.put hpar v;refine Mn (N:=E.N) hs'.1 ?_;have e0:(λi=>(t.setIfInBounds par v).getD i undef)=upd O par v:=funext hs'.2;rw [e0];refine Jt ?_ (round l d lo pre p post Y h v hall j lB hl' n1 h1 hsv λb hb=>⟨λq=>(hvX b hb).1 ((hX b).2 (.inl q)),(hvX b hb).2⟩);rintro e σ' ds' ha ⟨rfl,ha1,hb⟩;refine ⟨rfl,lo,ha1,rfl,?_⟩;refine Jt ?_ (hb _ (GH.set_same _ _ _ _) λb hb=>GH.set_ne _ _ _ hb);rintro e σ2 ds2 h3 ⟨g1,Y',g2,g3,g4,g5⟩;have hd3:h3 d=some (true,.deferred (some [])):=g3.box h2 (λq=>q.elim (λq=>q.elim n2 nvd) (λe=>hne e.symm)) rfl;have nl:¬Y' l:=λq=>(g2 l q).elim (λq=>q.elim n1 nvl) λe=>by rw [h1] at e;cases e
  have nd:¬Y' d:=λq=>(g2 d q).elim (λq=>q.elim n2 nvd) λe=>by rw [h2] at e;cases e
  have key:∀(lo2:Loop)(ok:Bool),(if ok then J (pre++[p]) Y' (h3.set l true (.loop lo2))/\lo2=lo else QU Stop l d lo (h3.set l true (.loop lo2)))->Eb hB (Mt J l d lo) (QU Stop l d lo) pre (λb=>X b\/CX v=some b) h [p] (.bool ok) (h3.set l true (.loop lo2)):=by
   intro lo2 ok hok;refine ⟨ok,λb=>Y' b\/b=l\/b=d,rfl,?_,?_,?_,?_,?_⟩
   ·rintro b (hb | rfl | rfl)
    ·exact (g2 b hb).imp (λq=>q.imp (λq=>(hX b).2 (.inl q)) id) id
    ·exact .inl (.inl ((hX _).2 (.inr (.inl rfl))))
    ·exact .inl (.inl ((hX _).2 (.inr (.inr rfl))))
   ·intro b q o hb hn;have nb:b≠l:=λe=>hn (.inl ((hX b).2 (.inr (.inl e))));rw [GH.set_ne _ _ _ nb];exact g3 b q o hb λq=>q.elim (λz=>z.elim (λz=>hn (.inl ((hX b).2 (.inl z)))) λz=>hn (.inr z)) nb
   ·exact g4.upd hl' λb hb=>GH.set_ne _ _ _ hb
   ·rintro rfl;simp only [if_true] at hok;obtain ⟨hj,rfl⟩:=hok;exact ⟨Y',hj,λb=>Iff.rfl,nl,nd,GH.set_same _ _ _ _,by rw [GH.set_ne _ _ _ (Ne.symm hne)];exact hd3⟩
   ·rintro rfl;simpa using hok
  have js:∀(lo2:Loop),J (pre++[p]) Y' h3->J (pre++[p]) Y' (h3.set l true (.loop lo2)):=λlo2 hj=>hJ.store hj nl (λb hb=>GH.set_ne _ _ _ hb) (g4.upd hl' λb hb=>GH.set_ne _ _ _ hb);have ss:∀c (lo2:Loop),Stop c h3->Stop c (h3.set l true (.loop lo2)):=λc lo2 hc=>hS c h3 _ l _ hc g1 λb hb=>GH.set_ne _ _ _ hb;refine ⟨_,g1,?_⟩;cases e with
  | normal=>exact key _ true (by simp only [if_true];exact ⟨js _ g5,rfl⟩)
  | exit id=>exact key _ false (by simp only [Bool.false_eq_true,if_false];exact ⟨_,ss _ _ g5,GH.set_same _ _ _ _,by rw [GH.set_ne _ _ _ (Ne.symm hne)];exact hd3⟩)
  | ret=>exact key _ false (by simp only [Bool.false_eq_true,if_false];exact ⟨_,ss _ _ g5,GH.set_same _ _ _ _,by rw [GH.set_ne _ _ _ (Ne.symm hne)];exact hd3⟩)
  | goto _=>exact g5.elim
  | panic _=>exact g5.elim
  | outgrown=>exact g5.elim
 refine (src _ _ _ _ _ yk hLB hI0).mono ?_;rintro v h' ⟨X',hs',hk,hl2,hor⟩;rcases hor with ⟨Y,j,hX,n1,n2,h1,h2⟩ | ⟨c,hst,h1,h2⟩
 ·refine ⟨lo,h1,rfl,?_⟩;show Q .normal O _ _;have hB':=hl2.upd hl' (λb hb=>GH.set_ne h' true (.loop { lo with state:=.exhausted }) hb);refine (fin d l _ hB' hd' hl' hd (by rw [GH.set_ne _ _ _ (Ne.symm hne)];exact h2)).1 Y (hJ.store j n1 (λb hb=>GH.set_ne _ _ _ hb) hB') λb hb e=>n2 (e▸hb)
 ·refine ⟨_,h1,rfl,?_⟩;have hB':=hl2.upd hl' (λb hb=>GH.set_ne h' true (.loop { { lo with state:=.done,pending:=some c } with state:=.exhausted }) hb)
  have:=(fin d l _ hB' hd' hl' hd (by rw [GH.set_ne _ _ _ (Ne.symm hne)];exact h2)).2 c (hS c h' _ l _ hst h1 λb hb=>GH.set_ne _ _ _ hb)
  cases c with
  | exit id=>exact this
  | ret=>exact this
  | _=>exact this.elim
end
def II(l:List Int)(k:Int):Bool:=l.any (λx=>decide (k=x))
def BS(jobs:List Int):Nat->List Int->List (List Int)
 | 0,l=>[l]
 | f+1,l=>l ::jobs.flatMap λk=>if II l k=true then [] else BS jobs f (l++[k])
def CL(jobs:List Int):Nat->List Int->Int->List (List Int)
 | 0,_,_=>[]
 | f+1,l,k=>if II l k=true then [] else BS jobs f (l++[k])
theorem Gj(jobs:List Int)(f:Nat)(l:List Int):BS jobs f l=l ::jobs.flatMap (CL jobs f l):=by
 cases f with
 | zero=>simp [BS,CL]
 | succ f=>rfl
def DG(jobs:List Int):List (List Int):=BS jobs jobs.length []
def Ki(jobs l:List Int):Nat:=(jobs.filter λk=> !II l k).length
theorem hasI_app(l:List Int)(k j:Int):II (l++[k]) j=(II l j || decide (j=k)):=by simp [II]
theorem NF{jobs l:List Int}{k:Int}(hk:k ∈ jobs)(h:II l k=false):Ki jobs (l++[k])<Ki jobs l:=by
 unfold Ki;have key:∀js:List Int,(js.filter λj=> !II (l++[k]) j).length<=(js.filter λj=> !II l j).length/\(k ∈ js->(js.filter λj=> !II (l++[k]) j).length<(js.filter λj=> !II l j).length):=by
  intro js
  induction js with
  | nil=>exact ⟨Nat.le_refl _,λe=>by cases e⟩
  | cons j js ih=>
   obtain ⟨ih1,ih2⟩:=ih;rw [List.filter_cons,List.filter_cons,hasI_app];by_cases e:j=k
   ·subst e;simp only [h,Bool.false_or,decide_true,Bool.not_true,Bool.false_eq_true,if_false,Bool.not_false,if_true,List.length_cons];exact ⟨aA,λ_=>aA⟩
   ·rw [decide_eq_false e,Bool.or_false];split
    ·simp only [List.length_cons];exact ⟨aA,λq=>by have:=ih2 ((List.mem_cons.1 q).resolve_left λz=>e z.symm);omega⟩
    ·exact ⟨ih1,λq=>ih2 ((List.mem_cons.1 q).resolve_left λz=>e z.symm)⟩
 exact (key jobs).2 hk
theorem Vf{jobs:List Int}{i:Nat}{F:Int->List (List Int)}(hi:i<jobs.length):(jobs.take (i+1)).flatMap F=(jobs.take i).flatMap F++F (jobs.getD i 0):=by
 rw [ET 0 hi,List.flatMap_append];simp
theorem CU.job{all pre:List (List Int)}{jobs:List Int}{f i:Nat}{l:List Int}(w:CU all pre (BS jobs f l))(hi:i<jobs.length):CU all (pre++[l]++(jobs.take i).flatMap (CL jobs f l)) (CL jobs f l (jobs.getD i 0)):=by
 rw [Gj] at w;have w2:CU all pre ([l]++((jobs.take i).flatMap (CL jobs f l)++(CL jobs f l (jobs.getD i 0)++(jobs.drop (i+1)).flatMap (CL jobs f l)))):=by
  rw [<-List.append_assoc (List.flatMap _ _),<-Vf hi,<-List.flatMap_append,List.take_append_drop];exact w
 exact (w2.right.right).left
theorem CU.head{all pre:List (List Int)}{jobs:List Int}{f:Nat}{l:List Int}(w:CU all pre (BS jobs f l)):CU all pre [l]:=by
 rw [Gj] at w;exact CU.left (a:=[l]) w
section
variable {jobs l:List Int} {f f' i:Nat} {k:Int} {all pre:List (List Int)}
theorem Vg(hk:k ∈ jobs)(h:II l k=false)(hu:Ki jobs l<=f):∃f',f=f'+1:=⟨f-1,by have:=NF hk h;omega⟩
theorem LV(hf:f=f'+1)(h:II l k=false):CL jobs f l k=BS jobs f' (l++[k]):=by
 subst hf;exact if_neg (by rw [h];simp)
theorem P6(h:II l k=true):CL jobs f l k=[]:=by
 cases f with
 | zero=>rfl
 | succ f=>exact if_pos h
theorem P7(hi:i<jobs.length)(h:II l (jobs.getD i 0)=true):pre++[l]++(jobs.take (i+1)).flatMap (CL jobs f l)=pre++[l]++(jobs.take i).flatMap (CL jobs f l):=by
 rw [Vf hi,P6 h,List.append_nil]
theorem Sf(hi:i<jobs.length)(hf:f=f'+1)(h:II l (jobs.getD i 0)=false):pre++[l]++(jobs.take (i+1)).flatMap (CL jobs f l)=(pre++[l]++(jobs.take i).flatMap (CL jobs f l))++BS jobs f' (l++[jobs.getD i 0]):=by
 rw [Vf hi,LV hf h,<-List.append_assoc]
theorem YW(hi:jobs.length<=i):pre++BS jobs f l=pre++[l]++(jobs.take i).flatMap (CL jobs f l):=by
 rw [List.take_of_length_le hi,Gj];simp
theorem CU.go(w:CU all pre (BS jobs f l))(hi:i<jobs.length)(hf:f=f'+1)(h:II l (jobs.getD i 0)=false):CU all (pre++[l]++(jobs.take i).flatMap (CL jobs f l)) (BS jobs f' (l++[jobs.getD i 0])):=by
 have z:=w.job hi
 rwa [LV hf h] at z
end
end Go.Ns
namespace Go.Ns
open Go.Conc
theorem HB.mem{h:GH}{l:List Sl}(a:HB h l){x:Sl}(hx:x ∈ l):AE h x.1 1 eI x.2:=by
 obtain ⟨i,hi,e⟩:=List.mem_iff_getElem.1 hx;have z:=a i;rw [List.getD_eq_getElem?_getD,List.getElem?_eq_getElem hi] at z;have z2:AE h l[i].1 1 eI l[i].2:=z;rw [<-e];exact z2
theorem CV.all{h:GH}{t:TypeId}{l:List Sl}(a:CV h t l):HB h l:=λk=>(a k).1
theorem CV.drop1{h:GH}{t:TypeId}{l:List Sl}(a:CV h t l):CV h t (l.drop 1):=λk=>by
 rw [List.getD_eq_getElem?_getD,List.getElem?_drop,<-List.getD_eq_getElem?_getD];exact a (1+k)
theorem Vh{l:List Sl}{k:Nat}(h:k<l.length-1):(l.drop 1).getD k Sl.z ∈ l:=List.mem_of_mem_drop (B0 (by rw [List.length_drop];exact h))
section
variable (G:List Int->Int) (l:List (List Int))
def Dt:Nat->List Int×Int
 | 0=>(l.getD 0 [],G (l.getD 0 []))
 | k+1=>if G ((l.drop 1).getD k [])<(Dt k).2 then ((l.drop 1).getD k [],G ((l.drop 1).getD k [])) else Dt k
def DH:List Int:=(Dt G l (l.length-1)).1
end
section
variable {G:List Int->Int} {l:List Sl} {k:Nat}
theorem Vi(l:List Sl):(A3 l).length=l.length:=List.length_map _
theorem NG(hk:k<l.length-1):((A3 l).drop 1).getD k []=((l.drop 1).getD k Sl.z).2:=by
 have e:(A3 l).drop 1=A3 (l.drop 1):=by unfold A3;rw [List.map_drop]
 rw [e,Fd (by rw [List.length_drop];exact hk)]
theorem LW(hk:k<l.length-1)(h:G ((l.drop 1).getD k Sl.z).2<(Dt G (A3 l) k).2):Dt G (A3 l) (k+1)=(((l.drop 1).getD k Sl.z).2,G ((l.drop 1).getD k Sl.z).2):=by
 rw [Dt,NG hk,if_pos h]
theorem LX(hk:k<l.length-1)(h:¬G ((l.drop 1).getD k Sl.z).2<(Dt G (A3 l) k).2):Dt G (A3 l) (k+1)=Dt G (A3 l) k:=by
 rw [Dt,NG hk,if_neg h]
theorem Tz(hk:k=l.length-1):DH G (A3 l)=(Dt G (A3 l) k).1:=by unfold DH;rw [Vi,hk]
end
theorem O4:∀(n k:Nat),k<n->(Dl n).getD k 0=(k:Int)
 | 0,k,h=>absurd h (Nat.not_lt_zero _)
 | n+1,k,h=>by
  have hl:=D0 n;rw [Dl,List.getD_eq_getElem?_getD];by_cases e:k<n
  ·rw [List.getElem?_append_left aA,<-List.getD_eq_getElem?_getD];exact O4 n k e
  ·have e2:k=n:=aA
   subst e2;rw [List.getElem?_append_right aA,hl,Nat.sub_self];rfl
theorem O5{n:Nat}{x:Int}(h:x ∈ Dl n):0<=x/\x<n:=by
 obtain ⟨i,hi,e⟩:=List.mem_iff_getElem.1 h;have hl:=D0 n
 have:=O4 n i aA
 rw [List.getD_eq_getElem?_getD,List.getElem?_eq_getElem hi,Option.getD_some,e] at this;omega
theorem Jc{jobs:List Int}:∀(f:Nat)(l:List Int),(∀x ∈ l,x ∈ jobs)->∀r ∈ BS jobs f l,(∀x ∈ r,x ∈ jobs)/\r.length<=l.length+f
 | 0,l,h,r,hr=>by
  rw [BS,List.mem_singleton] at hr;subst hr;exact ⟨h,Nat.le_refl _⟩
 | f+1,l,h,r,hr=>by
  rw [BS,List.mem_cons] at hr;rcases hr with rfl | hr
  ·exact ⟨h,aA⟩
  ·obtain ⟨k,hk,hr⟩:=List.mem_flatMap.1 hr;split at hr
   ·cases hr
   ·have:=Jc f (l++[k]) (λx hx=>by
     rcases List.mem_append.1 hx with hx | hx
     ·exact h x hx
     ·rw [List.mem_singleton.1 hx];exact hk) r hr
    refine ⟨this.1,?_⟩;have e:=this.2;rw [List.length_append,List.length_singleton] at e;omega
theorem Sg{jobs r:List Int}(h:r ∈ DG jobs):(∀x ∈ r,x ∈ jobs)/\r.length<=jobs.length:=by
 have:=Jc jobs.length [] (λx hx=>by cases hx) r h
 simpa using this
def Sh(nj:Nat)(l:List Int):Prop:=(∀k,k<l.length->0<=l.getD k 0/\l.getD k 0<nj)/\l.length<=4
theorem Jd{n:Nat}{jobs r:List Int}(hj:∀x ∈ jobs,0<=x/\x<(n:Int))(hl:jobs.length<=4)(h:r ∈ DG jobs):Sh n r:=by
 obtain ⟨h1,h2⟩:=Sg h;exact ⟨λk hk=>hj _ (h1 _ (B0 hk)),aA⟩
theorem Je{jobs:List Int}(hj:jobs.length<=4):∀(f:Nat)(l:List Int),f<=4->(BS jobs f l).length<=5 ^ f*1
 | 0,l,_=>Nat.le_refl _
 | f+1,l,hf=>by
  have key:∀js:List Int,(js.flatMap λk=>if II l k=true then [] else BS jobs f (l++[k])).length<=js.length*5 ^ f:=by
   intro js
   induction js with
   | nil=>simp
   | cons j js ih=>
    rw [List.flatMap_cons,List.length_append,List.length_cons,Nat.add_mul,Nat.one_mul,Nat.add_comm];refine Nat.add_le_add ih ?_;split
    ·exact Nat.zero_le _
    ·have:=Je hj f (l++[j]) aA;omega
  rw [BS,List.length_cons];have h1:=key jobs;have h2:jobs.length*5 ^ f<=4*5 ^ f:=Nat.mul_le_mul_right _ hj;have h3:1<=5 ^ f:=Nat.one_le_pow _ _ aC;rw [Nat.pow_succ];omega
theorem HN{jobs:List Int}(hj:jobs.length<=4):(DG jobs).length<=625:=by
 have h:=Je hj jobs.length [] hj;have h2:5 ^ jobs.length<=5 ^ 4:=Nat.pow_le_pow_right aC hj;unfold DG;omega
end Go.Ns
namespace Go.Ns
open Go.Conc
section
variable {P:Program} {M:Type} {F:MB P M} {i:Option (Cm M)} {O:Nat->Value} {ds:List Deferred} {h:GH} {Q:OZ M}
theorem trI_td{id:Nat}{l:List Oper}(n:Nat)(fl:Bool)(π:List Nat)(hm:P.follows .mixedOrders=true)
  (ok:OL l (l.take n) 0 [] (λcls=>OM P F.N l n cls fl (dK π))=true) (x:TD (F.env i) l n fl h ds (λ_ _ _=>True) (λσ' h'=>GI F l.toArray (l.drop n) i σ' ds h' Q) (dK π) O h):Nc F (.region id l.toArray true) i O ds h Q:=by
 obtain ⟨cls,h1⟩:=He ok;intro b k cs L t hb hr hl hs hq;exact XJ (E:=F.env i) n cls fl (dK π) hm (λ_ _ _ _ _ y=>y) trivial h1 x hb hr hs λσ' h' f t' ht'=>f n b k cs L t' (λj=>aD) hb hr hl ht' hq
def Iz(P:Program):Frame:={ (default:Frame) with fn:=P.funcs.size,defers:=[],mode:=.panicking [goexitEntry] }
theorem quit_bot:QuitsIn P 1 (G (Iz P) []):=.inr ⟨rfl,{ G (Iz P) [] with status:=.finished },λw=>by
 show unwind P false (Iz P) [] none w=_;have hcat:(Iz P).catches P=false:=by
  unfold Frame.catches
  have:P.funcs[(Iz P).fn]? =none:=Array.getElem?_eq_none (Nat.le_refl _)
  rw [this];rfl
 have hd:(Iz P).defers=[]:=rfl;have hmd:(Iz P).mode=.panicking [goexitEntry]:=rfl;unfold unwind;simp only [hd,hmd,hcat]
 rfl,rfl⟩
theorem T0{fn:Func}{f:FuncId}{args:Array Value}{t:Array Value}{ops:Array Oper}(hf:P.funcs[f]? =some fn)(hres:fn.results=#[]):QuitsIn P 4 (G (Cf (Frame.enter P f args .deferred) t [] [.inRegion ops []]) [Iz P]):=by
 refine .inr ⟨rfl,G (Cf (Frame.enter P f args .deferred) t [] []) [Iz P],λw=>by rw [A5];simp [stepG.exec,Cf,G],?_⟩;refine .inr ⟨rfl,G (EZ (Frame.enter P f args .deferred) t [] []) [Iz P],λw=>by rw [A5];simp [stepG.exec,Cf,EZ,G,Frame.enter],?_⟩;refine .inr ⟨rfl,G (Iz P) [],λw=>?_,quit_bot⟩;show unwind P false (EZ (Frame.enter P f args .deferred) t [] []) [Iz P] none w=_;have hfn:(EZ (Frame.enter P f args .deferred) t [] []).fn=f:=rfl;have hk:(EZ (Frame.enter P f args .deferred) t [] []).kind=.deferred:=rfl;have hmd:(EZ (Frame.enter P f args .deferred) t [] []).mode=.returning:=rfl;have hd:(EZ (Frame.enter P f args .deferred) t [] []).defers=[]:=rfl;have r1:∀t,(results fn t).runT P w #[]=(.ok (.tuple #[]) w,#[]):=λt=>by
  unfold results;rw [hres];simp only [Array.mapM_empty];rfl
 unfold unwind;simp only [hd,hmd,hfn,hf,r1,GStep.after,doReturn,hk,seen_none];rfl
def I0(F:MB P M)(R:Code)(args:Array Value)(i:Option (Cm M))(O:Nat->Value)(h:GH):Prop:=∀t,BX t F.N O->(F.wk i).K (G (Cf (Frame.enter P F.fn args .deferred) t [] [.code R]) [Iz P]) h
theorem MH{fn:Func}{c R:Code}{s:Cm M}{ars cap args:Array Value}(hm:F.main=false)(hrd:F.rd=none)(ha:ars++cap=args)(hf:P.funcs[F.fn]? =some fn)(hc:AL fn=true)(hb:fn.body=some (.seq c R))(hN:F.N=fn.ntmps)(hsz:args.size<=fn.ntmps)(hs:¬s.isDone)
  (x:Nc F c (some s) (λi=>args.getD i undef) [] h λi e O ds h=>e=.normal/\ds=[]/\I0 F R args i O h):FD P F.Rep F.W.K s false (born P { target:=.fn (.func F.fn) cap,args:=ars }) h:=by
 have hwk:∀s,(F.wk (some s)).K=EG P false (H7 P F.Rep F.W.K s false):=λs=>by show EG P F.main (H7 P F.Rep F.W.K s F.main)=_;rw [hm]
 rw [Gk hs];refine K3 _ _ _ _ rfl λw f=>⟨G (Frame.enter P F.fn args .deferred) [Iz P],w,#[],h,?_,Bh.refl f,?_⟩
 ·subst ha;have hi:(invoke (.fn (.func F.fn) cap) ars).runT P w #[]=(.ok (.enter F.fn (ars++cap)) w,#[]):=SW hf hc w;show callDeferred P (Iz P) [] none { target:=.fn (.func F.fn) cap,args:=ars } w=_;unfold callDeferred;rw [if_neg aD];simp only [hi,seen_none];rfl
 have e0:Frame.enter P F.fn args .deferred=Cf (Frame.enter P F.fn args .deferred) (args++Array.replicate (fn.ntmps-args.size) undef) [] [.code (.seq c R)]:=by simp [Frame.enter,Cf,hf,hb]
 rw [e0,<-hwk s];refine Wk.go (Cf (Frame.enter P F.fn args .deferred) (args++Array.replicate (fn.ntmps-args.size) undef) [] (.code c ::.code R ::[])) (λw=>by rw [A5];simp [stepG.exec,Cf,G]) ?_;refine x (Frame.enter P F.fn args .deferred) [.code R] [Iz P] (λ_ _ _ _ _=>False) _ rfl hrd.symm (λi=>⟨λ_ _ _ q=>q.elim,λ_ _ _ _ q=>q.elim,λ_ _ _ _ _ _ q=>q.elim⟩) ⟨by rw [hN];simp;omega,λi=>?_⟩ ?_
 ·by_cases hi:i<args.size
  ·simp [Array.getD_eq_getD_getElem?,Array.getElem?_append_left hi]
  ·simp only [Array.getD_eq_getD_getElem?];rw [Array.getElem?_append_right aA,Array.getElem?_eq_none (show args.size<=i by omega),Array.getElem?_replicate];split <;> rfl
 ·rintro i e O ds h' ⟨rfl,rfl,z⟩ t' ht';exact z t' ht'
theorem YX{fn:Func}{id:Nat}{o1 o2:Oper}{args:Array Value}{c:Nat}{m:M}{v z:Value}{hm:GH}{h1:GH}(hmn:F.main=false)(hrd:F.rd=none)(hf:P.funcs[F.fn]? =some fn)(hres:fn.results=#[])
  (hg1:o1.guard=none) (hd1:Cs o1.dst F.N=true) (hg2:o2.guard=none) (hdf1:Cv o1.op=false) (hdf:Cv o2.op=false) (hd2:Cs o2.dst F.N=true)
  (x:BT (F.env (some (.send c m .done))) o1 O [] h λσ' ds' h'=>ds'=[]/\(∀w,(execOp (AN σ') o2).runT P w #[]=(.ok (.comm #[scase c v z] true .send) w,#[]))/\GH.Split h' h1 hm/\F.Rep c m v hm) :
  I0 F (.region id [o1,o2].toArray false) args (some (.send c m .done)) O h:=by
 intro t hs;refine Wk.go (Cf (Frame.enter P F.fn args .deferred) t [] (.inRegion [o1,o2].toArray [0,1] ::[])) (λw=>by rw [A5];simp [stepG.exec,Cf,G,List.range_eq_range',Array.range];rfl) ?_;refine Ju (E:=F.env (some (.send c m .done))) (o:=o1) (rest:=[1]) rfl (by simp [Region.wanted,hg1]) (.inr hdf1) hd1 hs x ?_;rintro σ' ds' h' ⟨rfl,hr,hsp,hrep⟩ t' ht';refine EG.stop ⟨_,[Iz P],v,z,hm,h1,rfl,⟨λw fw=>?_,hsp,hrep,4,?_⟩⟩
 ·rw [hmn];exact SU ht' rfl (by simp [Region.wanted,hg2]) (.inr hdf) (hr w)
 ·rw [Cw (ops:=[o1,o2].toArray) (i:=1) (o:=o2) rfl];exact T0 hf hres
theorem YY{dst:Option Nat}{x:Operand}{tys:Array TypeId}{ty:TypeId}{pos:String}{af:Array Edge}{gd:Option (Nat×Bool)}{ch s r:Nat}{w:World}(hx:AN O x=.chan (some ch))(hw:w.heap[ch]? =some (.chan 0 #[] false s r false)) :
  (execOp (AN O) ⟨dst,.call ⟨.builtin .close,#[x],tys⟩,ty,pos,af,gd⟩).runT P w #[]=(.ok (.value (.tuple #[])) { w with heap:=w.heap.setIfInBounds ch (.chan 0 #[] true s r false) },#[⟨.obj ch,false,true⟩,⟨.obj ch,true,true⟩]):=by
 have q:execOp (AN O) ⟨dst,.call ⟨.builtin .close,#[x],tys⟩,ty,pos,af,gd⟩=builtin .close tys ty (#[x].map fun | .const _=>true | _=>false) (#[x].map (AN O)):=by
  show (resolve (AN O) _ ty).bind _=_;unfold resolve;rfl
 have e:(#[x].map (AN O))=#[Value.chan (some ch)]:=by simp [hx]
 rw [q,e];show Sem.runT P (.getObj ch λo=>_) w #[]=_;unfold Sem.runT;rw [hw];show Sem.runT P (.setObj ch (.chan 0 #[] true s r false) _) w _=_;unfold Sem.runT;rw [hw];rfl
theorem O6{fn:Func}{id:Nat}{o1:Oper}{dst:Option Nat}{xo:Operand}{tys:Array TypeId}{ty:TypeId}{pos:String}{af:Array Edge}{args:Array Value}{c:Nat}(hmn:F.main=false)(hf:P.funcs[F.fn]? =some fn)(hres:fn.results=#[])
  (hg1:o1.guard=none) (hd1:Cs o1.dst F.N=true) (hdf1:Cv o1.op=false)
  (x:BT (F.env (some (.close c .done))) o1 O [] h λσ' ds' _=>ds'=[]/\AN σ' xo=.chan (some c)) :
  I0 F (.region id [o1,⟨dst,.call ⟨.builtin .close,#[xo],tys⟩,ty,pos,af,none⟩].toArray false) args (some (.close c .done)) O h:=by
 intro t hs;refine Wk.go (Cf (Frame.enter P F.fn args .deferred) t [] (.inRegion [o1,⟨dst,.call ⟨.builtin .close,#[xo],tys⟩,ty,pos,af,none⟩].toArray [0,1] ::[])) (λw=>by rw [A5];simp [stepG.exec,Cf,G,List.range_eq_range',Array.range];rfl) ?_;refine Ju (E:=F.env (some (.close c .done))) (o:=o1) (rest:=[1]) rfl (by simp [Region.wanted,hg1]) (.inr hdf1) hd1 hs x ?_;rintro σ' ds' h' ⟨rfl,hx⟩ t' ht';refine EG.stop ⟨_,[Iz P],Cf (Frame.enter P F.fn args .deferred) (Uu t' dst (.tuple #[])) [] [.inRegion [o1,⟨dst,.call ⟨.builtin .close,#[xo],tys⟩,ty,pos,af,none⟩].toArray []],[Iz P],rfl,⟨λw s r fw hw=>?_,rfl,4,T0 hf hres⟩⟩;rw [hmn,Oa ht' (ops:=[o1,⟨dst,.call ⟨.builtin .close,#[xo],tys⟩,ty,pos,af,none⟩].toArray) (n:=1) (o:=⟨dst,.call ⟨.builtin .close,#[xo],tys⟩,ty,pos,af,none⟩) rfl (by simp [Region.wanted]) (.inr rfl)];simp only [stepG.apply,YY hx hw,if_true];have hk:((Cf (Frame.enter P F.fn args .deferred) t' [] [.inRegion [o1,⟨dst,.call ⟨.builtin .close,#[xo],tys⟩,ty,pos,af,none⟩].toArray [1]]).kind==CallKind.early)=false:=rfl;rw [Cw (ops:=[o1,⟨dst,.call ⟨.builtin .close,#[xo],tys⟩,ty,pos,af,none⟩].toArray) (i:=1) rfl];simp only [hk,Bool.false_eq_true,if_false];show GStep.go _ _ (seen P _ _++ #[])=_;rw [VL];rfl
end
end Go.Ns
namespace Go.Ns
open Go.Conc
theorem CV.at{h:GH}{t:TypeId}{l:List Sl}(a:CV h t l){x:Sl}(hx:x ∈ l):D5 h t x.1 x.2:=by
 obtain ⟨i,hi,e⟩:=List.mem_iff_getElem.1 hx;have z:=a i;rw [List.getD_eq_getElem?_getD,List.getElem?_eq_getElem hi] at z;have z2:D5 h t l[i].1 l[i].2:=z;rw [<-e];exact z2
theorem CV.of{h:GH}{t:TypeId}{l:List Sl}(a:∀x ∈ l,D5 h t x.1 x.2):CV h t l:=λk=>by
 by_cases hk:k<l.length
 ·exact a _ (B0 hk)
 ·rw [CJ aA];exact D5.nil _ _
theorem CV.store{h h':GH}{t t':TypeId}{l:List Sl}{r:Nat}{p:Bool}{c:Array Value}{f:Nat×Nat}(x:CV h t l)(hr:h r=some (p,.cells c t' f))(ne:t'≠t)(ho:∀b,b≠r->h' b=h b):CV h' t l:=λk=>(x k).store hr ne ho
theorem D5.storeL{h h':GH}{t:TypeId}{w:Value}{xs:List Int}{r:Nat}{p:Bool}{lo:Loop}(x:D5 h t w xs)(hr:h r=some (p,.loop lo))(ho:∀b,b≠r->h' b=h b):D5 h' t w xs:=
 x.same λb hb=>ho b λe=>by
  obtain ⟨p2,c2,f2,q⟩:=x.2 b hb;rw [e,hr] at q;cases q
def RF(hB:GH)(r:Nat)(T t t0:TypeId)(F:List Int->Bool)(pre:List (List Int))(Y:Nat->Prop)(h:GH):Prop:=
 ∃w l',h r=some (true,.cells #[w] T (0,0))/\AR hB h w t 1 Kx l'/\BD w r/\hB r=none/\A3 l'=pre.filter F/\CV h t0 l'/\∀b,Y b↔b=r\/CX w=some b\/∃x ∈ l',CX x.1=some b
section
variable {hB h h' ha hb:GH} {r:Nat} {T t t0:TypeId} {F:List Int->Bool} {pre:List (List Int)} {p:List Int} {w w' v:Value} {Y:Nat->Prop} {l':List Sl}
theorem O7(hB:GH)(r:Nat)(T t t0:TypeId)(F:List Int->Bool):GG hB (RF hB r T t t0 F):=by
 refine ⟨?_,?_⟩
 ·rintro pre Y h b ⟨w,l',h1,h2,h3,h0,h5,h6,h4⟩ hb;rcases (h4 b).1 hb with rfl | h7 | ⟨x,hx,h7⟩
  ·exact ⟨_,_,h1,rfl⟩
  ·obtain ⟨c,hc⟩:=h2.cellsAt b h7;exact ⟨_,_,hc,rfl⟩
  ·obtain ⟨q,c,f,hc⟩:=(h6.at hx).2 b h7;exact ⟨_,_,hc,rfl⟩
 ·rintro pre Y h h' ⟨w,l',h1,h2,h3,h0,h5,h6,h4⟩ same lB;refine ⟨w,l',by rw [same r ((h4 r).2 (.inl rfl))];exact h1,h2.keep λb o hb ho=>by rw [same b ((h4 b).2 (.inr (.inl hb)))];exact ho,h3,h0,h5,.of λx hx=>(h6.at hx).same λb hb=>same b ((h4 b).2 (.inr (.inr ⟨x,hx,hb⟩))),h4⟩
theorem NH(x:h r=some (true,.cells #[.slice none 0 0] T (0,0)))(h0:hB r=none):RF hB r T t t0 F [] (λb=>b=r) h:=
 ⟨_,[],x,AR.nil _ _ _ _ _,BD.nil,h0,rfl,CV.nil _ _,λ_=>⟨.inl,λq=>q.elim id λe=>e.elim (λe=>by cases e) λ⟨_,e,_⟩=>by cases e⟩⟩
theorem RG(hY:∀b,Y b↔b=r\/CX w=some b\/∃x ∈ l',CX x.1=some b)(g:HA ha hb w w')(hn:∀q,ha q=none->h q=none)(x:h' r=some (true,.cells #[w'] T (0,0)))(o:AR hB h' w' t 1 Kx (l'++[(v,p)]))(f:BD w' r)(h0:hB r=none)
  (hl:A3 l'=pre.filter F) (hp:F p=true) (ta:CV h' t0 (l'++[(v,p)])):∃Y',(∀b,Y' b->(Y b\/CX v=some b)\/h b=none)/\RF hB r T t t0 F (pre++[p]) Y' h':=by
 refine ⟨λb=>b=r\/CX w'=some b\/∃x ∈ l'++[(v,p)],CX x.1=some b,?_,w',_,x,o,f,h0,?_,ta,λ_=>Iff.rfl⟩
 ·rintro b (rfl | hb | ⟨y,hy,hb⟩)
  ·exact .inl (.inl ((hY _).2 (.inl rfl)))
  ·rcases g.2 with e | ⟨⟨q,e1,e2⟩,_⟩
   ·exact .inl (.inl ((hY _).2 (.inr (.inl (by rw [<-e];exact hb)))))
   ·rw [e1] at hb;cases hb;exact .inr (hn _ e2)
  ·rcases List.mem_append.1 hy with hy | hy
   ·exact .inl (.inl ((hY _).2 (.inr (.inr ⟨y,hy,hb⟩))))
   ·rw [List.mem_singleton.1 hy] at hb;exact .inl (.inr hb)
 ·rw [MG,hl,List.filter_append];simp [A3,hp]
theorem Vj(hY:∀b,Y b↔b=r\/CX w=some b\/∃x ∈ l',CX x.1=some b)(x:h' r=some (true,.cells #[w] T (0,0)))(o:AR hB h' w t 1 Kx l')(f:BD w r)(h0:hB r=none)(hl:A3 l'=pre.filter F)(hp:F p=false)(ta:CV h' t0 l') :
  ∃Y',(∀b,Y' b->(Y b\/CX v=some b)\/h b=none)/\RF hB r T t t0 F (pre++[p]) Y' h':=
 ⟨Y,λ_ q=>.inl (.inl q),w,l',x,o,f,h0,by rw [hl,List.filter_append];simp [hp],ta,hY⟩
end
def tVal:Df->Value
 | .job i=>.int .i64 i
 | .res i b=>.agg #[.int .i64 i,.bool b]
 | .tick=>.bool true
def tOK(n:Nat):Df->Prop
 | .job i=>i<n
 | .res i _=>i<n
 | .tick=>True
def Nd(n:Nat):Nat->Df->Value->GH->Prop:=λ_ m v hm=>v=tVal m/\tOK n m/\hm=λ_=>none
theorem GH.split_none(h:GH):GH.Split h h (λ_=>none) where
 left:=λb p o hb=>⟨p,hb,id⟩
 right:=λb p o hb=>by cases hb
 one:=λ_ _ _ _ hb=>by cases hb
 two:=λ_ _ _ hb _=>by cases hb
section
variable {cj co cd n k:Nat} {ok:Nat->Bool}
theorem YZ(h:k<n):some (HC cj (n-k) k)=some (.send cj (.job k) (HC cj (n-(k+1)) (k+1))):=by
 rw [show n-k=(n-(k+1))+1 by omega];rfl
theorem feed_end(h:n<=k):some (HC cj (n-k) k)=some (.close cj .done):=by rw [show n-k=0 by omega];rfl
theorem T1:∀m k,¬(HC cj m k).isDone
 | 0,_=>id
 | _+1,_=>id
theorem T3:∀m,¬(FK cj co cd ok m).isDone
 | 0=>id
 | _+1=>id
theorem Ya{m:Nat}:∀o,¬(Tk co cd ok (FK cj co cd ok m) o).isDone
 | none=>id
 | some (.job _)=>id
 | some (.res _ _)=>id
 | some .tick=>id
theorem RH:∀t,¬(D9 co cd t).isDone
 | 0=>id
 | _+1=>id
theorem Vk{t:Nat}:∀o,¬(MC (D9 co cd t) o).isDone
 | none=>id
 | some (.job _)=>id
 | some (.res _ _)=>id
 | some .tick=>RH t
theorem T4:∀m R,¬(FL co ok m R).isDone
 | 0,_=>id
 | _+1,_=>id
theorem XY{c:Prop}[Decidable c]{a b:Cm Df}(ha:¬a.isDone)(hb:¬b.isDone):¬(if c then a else b).isDone:=by split <;> assumption
theorem Yb{m:Nat}{R:List Nat}:∀o,¬(Hv ok R (FL co ok m) o).isDone
 | none=>XY id id
 | some (.job _)=>id
 | some .tick=>id
 | some (.res _ _)=>XY (T4 _ _) id
theorem T5:∀m,¬(Hi cj co cd n ok m).isDone
 | 0=>id
 | _+1=>id
theorem Vl(h:k<3):some (D9 co cd (3-k))=some (.recv cd (MC (D9 co cd (3-(k+1))))):=by
 rw [show 3-k=(3-(k+1))+1 by omega];rfl
theorem Yc(h:3<=k):some (D9 co cd (3-k))=some (.close co .done):=by rw [show 3-k=0 by omega];rfl
theorem Ye(h:k<3):some (Hi cj co cd n ok (3-k))=some (.spawn (FK cj co cd ok (n+1)) (Hi cj co cd n ok (3-(k+1)))):=by
 rw [show 3-k=(3-(k+1))+1 by omega];rfl
theorem crew_end(h:3<=k):some (Hi cj co cd n ok (3-k))=some (.spawn (D9 co cd 3) (FL co ok (n+1) (List.range n))):=by rw [show 3-k=0 by omega];rfl
end
def Si(n:Nat)(ok:Nat->Bool)(R:List Nat):List Bool:=(List.range n).map λi=>if i ∈ R then false else ok i
theorem XZ(n:Nat)(ok:Nat->Bool)(R:List Nat):(Si n ok R).length=n:=by unfold Si;rw [List.length_map,List.length_range]
theorem Yf(n:Nat)(ok:Nat->Bool):Si n ok (List.range n)=List.replicate n false:=by
 unfold Si;refine List.ext_getElem aD λi h1 h2=>?_
 have:i<n:=by simpa using h1
 simp [this]
theorem isL_put{n i:Nat}{ok:Nat->Bool}{R:List Nat}(hR:R.Nodup):(Si n ok R).set i (ok i)=Si n ok (R.erase i):=by
 unfold Si;refine List.ext_getElem aD λj h1 h2=>?_;rw [List.getElem_set];simp only [List.getElem_map,List.getElem_range,List.Nodup.mem_erase_iff hR];by_cases e:i=j
 ·subst e;simp
 ·rw [if_neg e]
  have:j≠i:=λq=>e q.symm
  simp [this]
theorem Xa{n:Nat}{ok:Nat->Bool}{k:Nat}(hk:k<n):(Si n ok []).getD k false=ok k:=by
 unfold Si;rw [List.getD_eq_getElem?_getD,List.getElem?_map,List.getElem?_range hk];simp
def I2(fl:List Sl)(ok:Nat->Bool):Nat->List Sl
 | 0=>[]
 | k+1=>if ok k=true then I2 fl ok k++[fl.getD k Sl.z] else I2 fl ok k
theorem selS_t{fl:List Sl}{ok:Nat->Bool}{k:Nat}(h:ok k=true):I2 fl ok (k+1)=I2 fl ok k++[fl.getD k Sl.z]:=if_pos h
theorem selS_f{fl:List Sl}{ok:Nat->Bool}{k:Nat}(h:ok k=false):I2 fl ok (k+1)=I2 fl ok k:=if_neg (by rw [h];simp)
theorem T6(fl:List Sl)(ok:Nat->Bool):∀k,(I2 fl ok k).length<=k
 | 0=>Nat.le_refl _
 | k+1=>by
  have:=T6 fl ok k
  unfold I2;split
  ·rw [List.length_append,List.length_singleton];omega
  ·omega
theorem O8{fl:List Sl}{G:List Int->Bool}:∀k,k<=fl.length->A3 (I2 fl (λi=>G (fl.getD i Sl.z).2) k)=((A3 fl).take k).filter G
 | 0,_=>rfl
 | k+1,h=>by
  have ih:=O8 (fl:=fl) (G:=G) k aA;have e:(A3 fl).take (k+1)=(A3 fl).take k++[(fl.getD k Sl.z).2]:=by rw [ET [] (by rw [CA];omega),Fd (l:=fl) aA]
  unfold I2;rw [e,List.filter_append];by_cases q:G (fl.getD k Sl.z).2=true
  ·rw [if_pos q,MG,ih,List.filter_cons_of_pos q];rfl
  ·rw [if_neg q,ih,List.filter_cons_of_neg q,List.filter_nil,List.append_nil]
end Go.Ns
namespace Go.Ns
open Go.Conc
section
variable {P:Program} {M:Type} {F:MB P M} {i i':Option (Cm M)} {O:Nat->Value} {ds:List Deferred} {h:GH} {Q:OZ M}
theorem trI_ix{c:Code}(e:i=i')(x:Nc F c i' O ds h Q):Nc F c i O ds h Q:=e▸x
theorem I3{ops:Array Oper}{l:List Oper}(e:i=i')(x:GI F ops l i' O ds h Q):GI F ops l i O ds h Q:=e▸x
theorem Yg{c:Code}{Q:Post}(x:Nc F c none O ds h λi e O ds h=>i=none/\Q e O ds h):Tr ⟨F.W,F.fn,F.rd,F.N⟩ c O ds h Q:=by
 intro b k cs L t hb hr hl hs hc;refine x b k cs (λi=>match i with | none=>L | some _=>λ_ _ _ _=>False) t hb hr (λi=>?_) hs λi e σ' ds' h' q t' ht'=>?_
 ·cases i with
  | none=>exact hl
  | some s=>exact ⟨λ_ _ _ x=>x.elim,λ_ _ _ _ x=>x.elim,λ_ _ _ _ _ _ x=>x.elim⟩
 ·obtain ⟨rfl,q⟩:=q;exact hc e σ' ds' h' q t' ht'
theorem trI_end{c:Code}{Q:Post}(x:Tr (F.env none) c O ds h Q):Nc F c none O ds h λi e O ds h=>i=none/\Q e O ds h:=
 IU (Jt (λ_ _ _ _ q=>⟨rfl,q⟩) x)
variable {dst:Option Nat} {ty:TypeId} {pos:String} {af:Array Edge} {gd:Option (Nat×Bool)}
theorem O9{a x:Operand}{c:Nat}{v:Value}(ha:AN O a=.chan (some c))(hx:AN O x=v)(w:World):(execOp (AN O) ⟨dst,.send a x,ty,pos,af,gd⟩).runT P w #[]=(.ok (.comm #[scase c v (.tuple #[])] true .send) w,#[]):=by
 subst hx;show (Result.ok (Next.comm #[{ chan:=AN O a,send:=some (AN O x),zero:=.tuple #[] }] true .send) w,#[])=_;rw [ha];rfl
theorem run_recv{a:Operand}{c:Nat}{t e:TypeId}{d:ChanDir}{ok:Bool}{z:Value}{inf:TypeInfo}(ht:P.underlying t=some (.chan d e))(hi:P.info? e=some inf)(hz:inf.zero=some z)(ha:AN O a=.chan (some c))(w:World) :
  (execOp (AN O) ⟨dst,.recv t a ok,ty,pos,af,gd⟩).runT P w #[]=(.ok (.comm #[rcase c z] true (.recv ok)) w,#[]):=by
 have h1:(zeroValue e).run P w=.ok z w:=by
  unfold zeroValue typeInfo;simp only [Sem.run_bind,program,hi];simp [Sem.run,hi,hz]
 have h2:(underlying t).run P w=.ok (.chan d e) w:=run_underlying ht w;rw [Sem.runT_eq];unfold execOp;simp [h1,h2,ha,rcase]
theorem MI{a:Operand}{c:Nat}{t e:TypeId}{d:ChanDir}{ok:Bool}{z:Value}(ht:P.underlying t=some (.chan d e))(hz:(P.info? e).map (·.zero)=some (some z))(ha:AN O a=.chan (some c))(w:World) :
  (execOp (AN O) ⟨dst,.recv t a ok,ty,pos,af,gd⟩).runT P w #[]=(.ok (.comm #[rcase c z] true (.recv ok)) w,#[]):=by
 obtain ⟨inf,hi,h2⟩:=Option.map_eq_some_iff.1 hz;exact run_recv ht hi h2 ha w
theorem Vm{x:Operand}{f:Fn}{cap:Array Value}{tys:Array TypeId}(hx:AN O x=.func f #[] cap)(w:World):(execOp (AN O) ⟨dst,.go ⟨.value x,#[],tys⟩,ty,pos,af,gd⟩).runT P w #[]=(.ok (.spawn { target:=.fn f cap,args:=#[] }) w,#[]):=by
 have e:resolve (AN O) ⟨.value x,#[],tys⟩ ty=(pure { target:=.fn f cap,args:=#[] }:Sem Deferred):=by
  unfold resolve;simp only [hx,Deferred.ofValue];simp
 unfold execOp;simp only [e];rfl
variable {E:GJ P} {T:(Nat->Value)->List Deferred->GH->Prop}
theorem Jf{t e:TypeId}{d:ChanDir}{n:Operand}(ht:P.underlying t=some (.chan d e))(hi0:(P.info? e).isSome=true)(hn:AN O n=.int .i64 0)
  (k:∀r h',h r=none->h.Le h'->h' r=some (true,.chan 0 #[] false 0 0 false)->(∀b,b≠r->h' b=h b)->T (putS O dst (.chan (some r))) ds h'):BT E ⟨dst,.makeChan t n,ty,pos,af,gd⟩ O ds h T:=by
 unfold BT execOp;refine Fb ?_;unfold Instr.makeChan;rw [hn];refine AF _ _ (Aw ?_);refine AF _ _ (Am ht ?_);simp only [];obtain ⟨inf,hi⟩:=Option.isSome_iff_exists.1 hi0;refine AF _ _ (Cj hi ?_);rw [if_neg (by simp [IntKind.max];decide)];refine AF _ _ ?_;exact λr hr=>k r _ hr (GH.Le.new hr _ _) (GH.set_same _ _ _ _) λb hb=>GH.set_ne _ _ _ hb
end
section
variable {P:Program} {F:MB P Df} {i i':Option (Cm Df)} {O:Nat->Value} {ds:List Deferred} {h:GH} {Q:OZ Df} {ops:Array Oper} {o:Oper} {l:List Oper} {n:Nat} {cj co cd c m k:Nat} {ok:Nat->Bool} {R:List Nat} {z:Value}
theorem I0.ix{X:Code}{args:Array Value}(e:i=i')(x:I0 F X args i' O h):I0 F X args i O h:=e▸x
theorem HO:GI F ops l (some .never) O ds h Q:=λ_ _ _ _ _ _ _ _ _ _ _ _=>EG.stop rfl
theorem GH.join_none(h:GH):h.join (λ_=>none)=h:=by
 funext b;unfold GH.join;cases h b <;> rfl
theorem T7{s:Df}{nx:Cm Df}(hR:F.Rep=Nd n)(hg:o.guard=none)(hdf:Cv o.op=false)(hd:Cs o.dst F.N=true)(hr:∀w,(execOp (AN O) o).runT P w #[]=(.ok (.comm #[scase c (tVal s) z] true .send) w,#[]))(hs:tOK n s)(hnx:¬nx.isDone)
  (x:GI F ops l (some nx) (putS O o.dst undef) ds h Q):GI F ops (o ::l) (some (.send c s nx)) O ds h Q:=
 X9 hg hdf hd hr (GH.split_none h) (by rw [hR];exact ⟨rfl,hs,rfl⟩) hnx x
theorem MJ{f:Option Df->Cm Df}{r:Bool}(hR:F.Rep=Nd n)(hg:o.guard=none)(hdf:Cv o.op=false)(hd:Cs o.dst F.N=true)(hr:∀w,(execOp (AN O) o).runT P w #[]=(.ok (.comm #[rcase c z] true (.recv r)) w,#[]))(hnx:∀o,¬(f o).isDone)
  (x:∀s,tOK n s->GI F ops l (some (f (some s))) (putS O o.dst (recvd r (tVal s) true)) ds h Q) (y:GI F ops l (some (f none)) (putS O o.dst (recvd r z false)) ds h Q):GI F ops (o ::l) (some (.recv c f)) O ds h Q:=
 YA hg hdf hd hr hnx (λs v hm hrep _=>by
  rw [hR] at hrep;obtain ⟨rfl,h2,rfl⟩:=hrep;rw [GH.join_none];exact x s h2) y
theorem T8(hR:F.Rep=Nd n)(hg:o.guard=none)(hdf:Cv o.op=false)(hd:Cs o.dst F.N=true)(hr:∀w,(execOp (AN O) o).runT P w #[]=(.ok (.comm #[rcase cj z] true (.recv true)) w,#[]))
  (x:∀i,i<n->GI F ops l (some (.send co (.res i (ok i)) (FK cj co cd ok m))) (putS O o.dst (.tuple #[.int .i64 i,.bool true])) ds h Q) (y:GI F ops l (some (.send cd .tick .done)) (putS O o.dst (.tuple #[z,.bool false])) ds h Q) :
  GI F ops (o ::l) (some (FK cj co cd ok (m+1))) O ds h Q:=
 MJ (f:=Tk co cd ok (FK cj co cd ok m)) hR hg hdf hd hr Ya (λs hs=>by
  cases s with
  | job i=>exact x i hs
  | res i b=>exact HO
  | tick=>exact HO) y
theorem T9(hR:F.Rep=Nd n)(hg:o.guard=none)(hdf:Cv o.op=false)(hd:Cs o.dst F.N=true)(hr:∀w,(execOp (AN O) o).runT P w #[]=(.ok (.comm #[rcase cd z] true (.recv false)) w,#[]))(hk:k<3)
  (x:GI F ops l (some (D9 co cd (3-(k+1)))) (putS O o.dst (.bool true)) ds h Q):GI F ops (o ::l) (some (D9 co cd (3-k))) O ds h Q:=
 I3 (Vl hk) (MJ (f:=MC (D9 co cd (3-(k+1)))) hR hg hdf hd hr Vk (λs _=>by
  cases s with
  | job i=>exact HO
  | res i b=>exact HO
  | tick=>exact x) HO)
theorem Yh(hR:F.Rep=Nd n)(hg:o.guard=none)(hdf:Cv o.op=false)(hd:Cs o.dst F.N=true)(hr:∀w,(execOp (AN O) o).runT P w #[]=(.ok (.comm #[rcase co z] true (.recv true)) w,#[]))
  (x:∀i,i<n->i ∈ R->GI F ops l (some (FL co ok m (R.erase i))) (putS O o.dst (.tuple #[.agg #[.int .i64 i,.bool (ok i)],.bool true])) ds h Q) (y:R=[]->GI F ops l (some .stop) (putS O o.dst (.tuple #[z,.bool false])) ds h Q) :
  GI F ops (o ::l) (some (FL co ok (m+1) R)) O ds h Q:=
 MJ (f:=Hv ok R (FL co ok m)) hR hg hdf hd hr Yb (λs hs=>by
  cases s with
  | job i=>exact HO
  | tick=>exact HO
  | res i b=>
   by_cases e:i ∈ R/\b=ok i
   ·obtain ⟨e1,rfl⟩:=e;exact I3 (show some (Hv ok R (FL co ok m) (some (.res i (ok i))))=some (FL co ok m (R.erase i)) by unfold Hv;simp [e1]) (x i hs e1)
   ·exact I3 (show some (Hv ok R (FL co ok m) (some (.res i b)))=some .never by show some (if i ∈ R/\b=ok i then _ else _)=_;rw [if_neg e]) HO) (by
  by_cases e:R=[]
  ·exact I3 (show some (Hv ok R (FL co ok m) none)=some .stop by unfold Hv;rw [if_pos e]) (y e)
  ·exact I3 (show some (Hv ok R (FL co ok m) none)=some .never by unfold Hv;rw [if_neg e]) HO)
end
theorem At.flags{h h':GH}{js:List AM}(s:h.Same h')(x:At h js):At h' js:=λk=>(x k).flags s
theorem AU.flags{h h':GH}{ns:List AI}(s:h.Same h')(x:AU h ns):AU h' ns:=λk=>(x k).flags s
theorem HB.flags{h h':GH}{l:List Sl}(s:h.Same h')(a:HB h l):HB h' l:=λk=>(a k).flags s
theorem EA.flags{h h':GH}{r np:Nat}{ws:List AD}{pq:List AG}(s:h.Same h')(x:EA h r np ws pq):EA h' r np ws pq:=by
 obtain ⟨pm,M,⟨es,clk,hb,hl⟩,hM⟩:=x;obtain ⟨p',hb'⟩:=s _ _ _ hb;exact ⟨p',M,⟨es,clk,hb',hl⟩,hM⟩
theorem tr_lays5{P:Program}{E:GJ P}{id:Nat}{a0 a1 a2 a3 a4:Oper}{rest:List Oper}{d0 d1 d2 d3:Nat}{O:Nat->Value}{ds:List Deferred}{h:GH}{Q:Post}(o0 o1 o2 o3:Obj)(o4:Nat->Obj)(v0 v1 v2 v3:Nat->Value)(hm:P.follows .mixedOrders=true)
  (ok:Fx E.N (a0 ::a1 ::a2 ::a3 ::a4 ::rest) 5 [[],[],[],[],[0,2,3]]=true)
  (g0:a0.guard=none) (g1:a1.guard=none) (g2:a2.guard=none) (g3:a3.guard=none) (g4:a4.guard=none) (e0:a0.dst=some d0) (e1:a1.dst=some d1) (e2:a2.dst=some d2) (e3:a3.dst=some d3)
  (l0:∀σ' h',BT E a0 σ' ds h' λσ'' ds'' h''=>ds''=ds/\∃r,σ''=putS σ' a0.dst (v0 r)/\h' r=none/\h'.Le h''/\h'' r=some (true,o0)) (l1:∀σ' h',BT E a1 σ' ds h' λσ'' ds'' h''=>ds''=ds/\∃r,σ''=putS σ' a1.dst (v1 r)/\h' r=none/\h'.Le h''/\h'' r=some (true,o1))
  (l2:∀σ' h',BT E a2 σ' ds h' λσ'' ds'' h''=>ds''=ds/\∃r,σ''=putS σ' a2.dst (v2 r)/\h' r=none/\h'.Le h''/\h'' r=some (true,o2)) (l3:∀σ' h',BT E a3 σ' ds h' λσ'' ds'' h''=>ds''=ds/\∃r,σ''=putS σ' a3.dst (v3 r)/\h' r=none/\h'.Le h''/\h'' r=some (true,o3))
  (l4:∀r0 r2 σ' h',σ' d0=v0 r0->σ' d2=v2 r2->h' r2=some (true,o2)->BT E a4 σ' ds h' λσ'' ds'' h''=>ds''=ds/\σ''=σ'/\h'' r2=some (true,o4 r0)/\∀b,b≠r2->h'' b=h' b)
  (fin:∀(r0 r1 r2 r3:Nat) σ' h',h.Le h'->(h r0=none/\h' r0=some (true,o0)/\σ' d0=v0 r0)->(h r1=none/\h' r1=some (true,o1)/\σ' d1=v1 r1)->(h r2=none/\h' r2=some (true,o4 r0)/\σ' d2=v2 r2)->(h r3=none/\h' r3=some (true,o3)/\σ' d3=v3 r3)->
   (r0≠r1/\r0≠r2/\r0≠r3/\r1≠r2/\r1≠r3/\r2≠r3)->(∀t,(DO (a0 ::a1 ::a2 ::a3 ::a4 ::rest) 5).contains t=false->σ' t=O t)->DE E (a0 ::a1 ::a2 ::a3 ::a4 ::rest).toArray rest σ' ds h' Q):Tr E (.region id (a0 ::a1 ::a2 ::a3 ::a4 ::rest).toArray true) O ds h Q:=by
 let l:=a0 ::a1 ::a2 ::a3 ::a4 ::rest;let obj:Nat->Obj:=λi=>match i with | 0=>o0 | 1=>o1 | 2=>o2 | _=>o3
 let val:Nat->Nat->Value:=λi=>match i with | 0=>v0 | 1=>v1 | 2=>v2 | _=>v3
 have lay:∀i o,i<4->l[i]? =some o->∀σ' h',BT E o σ' ds h' λσ'' ds'' h''=>ds''=ds/\∃r,σ''=putS σ' o.dst (val i r)/\h' r=none/\h'.Le h''/\h'' r=some (true,obj i):=by
  intro i o hi ho σ' h';rcases i with _ | _ | _ | _ | i
  ·cases ho;exact l0 σ' h'
  ·cases ho;exact l1 σ' h'
  ·cases ho;exact l2 σ' h'
  ·cases ho;exact l3 σ' h'
  ·omega
 have nd:(DO l 5).Nodup:=by
  have:=ok
  unfold Fx at this;simp only [Bool.and_eq_true] at this;exact of_decide_eq_true this.1.2
 refine TQ 5 [[],[],[],[],[0,2,3]] (λD σ' h'=>h.Le h'/\(D 4=true->D 0=true/\D 2=true)/\∃rs:Nat->Nat,(∀i,i<4->D i=true->h (rs i)=none/\h' (rs i)=some (true,if i=2/\D 4=true then o4 (rs 0) else obj i)/\∀o d,l[i]? =some o->o.dst=some d->σ' d=val i (rs i))/\
  (∀i j,i<4->j<4->D i=true->D j=true->i≠j->rs i≠rs j)/\∀t,(DO l 5).contains t=false->σ' t=O t) hm ok ⟨GH.Le.refl _,(λe=>by cases e),λ_=>0,(λ_ _ q=>by cases q),(λ_ _ _ _ q=>by cases q),λ_ _=>rfl⟩ ?_ ?_
 ·rintro D σ' h' i o ⟨l1',hD4,rs,h1,h2,h3⟩ hi hD ho hcl _;have hgd:o.guard=none:=by
   rcases i with _ | _ | _ | _ | _ | i
   ·cases ho;exact g0
   ·cases ho;exact g1
   ·cases ho;exact g2
   ·cases ho;exact g3
   ·cases ho;exact g4
   ·omega
  refine ⟨λ_=>?_,λq=>absurd (by unfold DB;rw [hgd];trivial) q⟩;by_cases hi4:i=4
  ·subst hi4;have c0:D 0=true:=hcl 0 aD;have c2:D 2=true:=hcl 2 aD;cases ho;obtain ⟨q1,q2,q3⟩:=h1 0 aC c0;obtain ⟨p1,p2,p3⟩:=h1 2 aC c2;rw [if_neg (λe=>by rw [hD] at e;cases e.2)] at p2;refine (l4 (rs 0) (rs 2) σ' h' (q3 a0 d0 rfl e0) (p3 a2 d2 rfl e2) p2).mono λσ'' ds'' h'' q=>?_;obtain ⟨rfl,rfl,k1,k2⟩:=q;refine ⟨rfl,λb p x hb=>?_,λ_=>⟨by rw [Bf aC];exact c0,by rw [Bf aC];exact c2⟩,rs,λj hj hDj=>?_,λa b ha hb hDa hDb hab=>?_,h3⟩
   ·rw [k2 b λe=>by subst e;rw [p1] at hb;cases hb];exact l1' b p x hb
   ·rw [Bf aA] at hDj;obtain ⟨u1,u2,u3⟩:=h1 j hj hDj;refine ⟨u1,?_,u3⟩;by_cases ej:j=2
    ·subst ej;rw [if_pos ⟨rfl,if_pos rfl⟩];exact k1
    ·rw [if_neg (λe=>ej e.1),k2 _ (h2 j 2 hj aC hDj c2 ej)];rw [if_neg (λe=>ej e.1)] at u2;exact u2
   ·rw [Bf aA] at hDa hDb;exact h2 a b ha hb hDa hDb hab
  ·have hi':i<4:=aA
   refine (lay i o hi' ho σ' h').mono λσ'' ds'' h'' q=>?_;obtain ⟨rfl,r,rfl,hr,l2',hr2⟩:=q;have h4e:G1 D i 4=D 4:=Bf (λe=>hi4 e.symm);have hne:∀j,j<4->D j=true->rs j≠r:=λj hj hDj e=>by
    have:=(h1 j hj hDj).2.1
    rw [e,hr] at this;cases this
   refine ⟨rfl,l1'.trans l2',λe=>?_,λj=>if j=i then r else rs j,λj hj hDj=>?_,λa b ha hb hDa hDb hab=>?_,λt ht=>?_⟩
   ·rw [h4e] at e;obtain ⟨c0,c2⟩:=hD4 e;exact ⟨by rw [Bf (λq=>by subst q;rw [hD] at c0;cases c0)];exact c0,by rw [Bf (λq=>by subst q;rw [hD] at c2;cases c2)];exact c2⟩
   ·by_cases e:j=i
    ·subst e;dsimp only;rw [if_pos rfl];refine ⟨l1'.nothing hr,?_,λo' d ho' hd=>?_⟩
     ·rw [if_neg (λe=>by have e2:=e.2;rw [h4e] at e2;have e3:=(hD4 e2).2;rw [<-e.1,hD] at e3;cases e3)];exact hr2
     ·obtain rfl:o'=o:=Option.some.inj (ho'.symm.trans ho);rw [hd];exact upd_same _ _ _
    ·dsimp only;rw [if_neg e];rw [Bf e] at hDj;obtain ⟨q1,q2,q3⟩:=h1 j hj hDj;refine ⟨q1,?_,λo' d ho' hd=>by rw [Co λd' hd'=>Dv nd hi (aA:j<5) (λq=>e q.symm) ho ho' hd' hd];exact q3 o' d ho' hd⟩;rw [h4e];by_cases hc:j=2/\D 4=true
     ·rw [if_pos hc] at q2 ⊢;rw [if_neg (λq=>by have c0:=(hD4 hc.2).1;rw [q,hD] at c0;cases c0)];exact l2'.keep q2 rfl
     ·rw [if_neg hc] at q2 ⊢;exact l2'.keep q2 rfl
   ·show (if a=i then r else rs a)≠(if b=i then r else rs b);by_cases ea:a=i
    ·by_cases eb:b=i
     ·exact absurd (ea.trans eb.symm) hab
     ·rw [if_pos ea,if_neg eb];rw [Bf eb] at hDb;exact (hne b hb hDb).symm
    ·rw [Bf ea] at hDa;by_cases eb:b=i
     ·rw [if_neg ea,if_pos eb];exact hne a ha hDa
     ·rw [if_neg ea,if_neg eb];rw [Bf eb] at hDb;exact h2 a b ha hb hDa hDb hab
   ·rw [Co (HI hi ho ht)];exact h3 t ht
 ·rintro D σ' h' ⟨l1',hD4,rs,h1,h2,h3⟩ hall;have A:∀i,i<5->D i=true:=hall;have f0:=h1 0 aC (A 0 aC);have f1:=h1 1 aC (A 1 aC);have f2:=h1 2 aC (A 2 aC);have f3:=h1 3 aC (A 3 aC);rw [if_neg (λe=>by have:=e.1;omega)] at f0;rw [if_neg (λe=>by have:=e.1;omega)] at f1;rw [if_pos ⟨rfl,A 4 aC⟩] at f2;rw [if_neg (λe=>by have:=e.1;omega)] at f3;have ne:=λi j (hi:i<4) (hj:j<4)=>h2 i j hi hj (A i aA) (A j aA);exact fin (rs 0) (rs 1) (rs 2) (rs 3) σ' h' l1' ⟨f0.1,f0.2.1,f0.2.2 a0 d0 rfl e0⟩ ⟨f1.1,f1.2.1,f1.2.2 a1 d1 rfl e1⟩ ⟨f2.1,f2.2.1,f2.2.2 a2 d2 rfl e2⟩ ⟨f3.1,f3.2.1,f3.2.2 a3 d3 rfl e3⟩
   ⟨ne 0 1 aC aC aC,ne 0 2 aC aC aC,ne 0 3 aC aC aC,ne 1 2 aC aC aC,ne 1 3 aC aC aC,ne 2 3 aC aC aC⟩ h3
section
variable {h h' h0:GH} {r:Nat}
theorem GH.cut_ne{b:Nat}(e:b≠r):h.cut r b=h b:=if_neg e
theorem GH.Le.cut(l:h0.Le h)(n:h0 r=none):h0.Le (h.cut r):=λb p o hb=>by
 rw [GH.cut_ne λe=>by subst e;rw [n] at hb;cases hb];exact l b p o hb
theorem AR.cut{V:Type}{v:Value}{t:TypeId}{n:Nat}{enc:V->Array Value}{xs:List V}(x:AR h0 h v t n enc xs)(f:BD v r):AR h0 (h.cut r) v t n enc xs:=
 x.keep λb o hb ho=>by rw [GH.cut_ne λe=>by subst e;exact f hb];exact ho
theorem AR.del'{V:Type}{v:Value}{t:TypeId}{n:Nat}{enc:V->Array Value}{xs:List V}(x:AR h0 h v t n enc xs)(f:BD v r):AR h0 (h.del r) v t n enc xs:=
 x.keep λb o hb ho=>by rw [GH.del_ne λe=>by subst e;exact f hb];exact ho
theorem D5.keep3{X:Nat->Prop}{t0 T t:TypeId}{n l:Nat}{w v:Value}{p q:Bool}{c:Array Value}{f:Nat×Nat}{lo:Loop}{ys:List Sl}{hB:GH}{ys':List Int}(x:D5 h t0 v ys')(k:BZ X h h')(hX:∀b,X b->(b=r\/CX w=some b)\/b=l)(hr:h r=some (p,.cells c T f))(ow:AR hB h w t n Kx ys)(hl:h l=some (q,.loop lo))(n1:T≠t0)(n2:t≠t0):D5 h' t0 v ys':=
 x.keepX k λb hb q2=>by
  obtain ⟨p2,c2,f2,e⟩:=x.2 b hb;rcases hX b q2 with (rfl | q3) | rfl
  ·rw [hr] at e;cases e;exact n1 rfl
  ·rcases ow with ⟨rfl,_⟩ | ⟨b1,cap,c1,rfl,_,h2,_⟩
   ·cases q3
   ·simp only [CX,Option.some.injEq] at q3;subst q3;rw [h2] at e;cases e;exact n2 rfl
  ·rw [hl] at e;cases e
theorem BZ.mono{X Y:Nat->Prop}(k:BZ X h h')(s:∀b,X b->Y b):BZ Y h h':=λb p o hb hn=>k b p o hb λx=>hn (s b x)
end
theorem Yi{n:Nat}{fl:List Sl}(h:A3 fl=DG (Dl n))(hn:n<=4)(i:Nat):Sh n (fl.getD i Sl.z).2:=by
 by_cases hi:i<fl.length
 ·refine Jd (λx hx=>O5 hx) (by rw [D0];exact hn) (r:=(fl.getD i Sl.z).2) ?_;rw [<-h,<-Fd hi];exact B0 (by rw [CA];exact hi)
 ·rw [CJ aA];exact ⟨λk hk=>absurd hk (Nat.not_lt_zero _),Nat.zero_le _⟩
theorem D5.storeD{h h':GH}{t:TypeId}{v:Value}{xs:List Int}{r:Nat}{p:Bool}{q:Option (List Deferred)}(x:D5 h t v xs)(hr:h r=some (p,.deferred q))(ho:∀b,b≠r->h' b=h b):D5 h' t v xs:=
 x.same λb hb=>ho b λe=>by
  obtain ⟨p2,c2,f2,z⟩:=x.2 b hb;rw [e,hr] at z;cases z
theorem CV.storeD{h h':GH}{t:TypeId}{l:List Sl}{r:Nat}{p:Bool}{q:Option (List Deferred)}(x:CV h t l)(hr:h r=some (p,.deferred q))(ho:∀b,b≠r->h' b=h b):CV h' t l:=λk=>
 (x k).same λb hb=>ho b λe=>by
  obtain ⟨p2,c2,f2,z⟩:=(x k).2 b hb;rw [e,hr] at z;cases z
theorem selS_all{fl:List Sl}{G:List Int->Bool}{all:List (List Int)}{k:Nat}(h:A3 fl=all)(h1:k<=fl.length)(h2:fl.length<=k):A3 (I2 fl (λi=>G (fl.getD i Sl.z).2) k)=all.filter G:=by
 rw [O8 k h1,List.take_of_length_le (by rw [CA];exact h2),h]
theorem CV.sel{h:GH}{t:TypeId}{fl:List Sl}{ok:Nat->Bool}{k:Nat}(a:CV h t fl):CV h t (I2 fl ok k):=by
 induction k with
 | zero=>exact CV.nil h t
 | succ k ih=>
  unfold I2;split
  ·exact CV.app ih (CV.one (a k))
  ·exact ih
end Go.Ns
namespace Go.Ns
theorem Sj{P:Program}{O:Nat->Value}{h:GH}{fn:Func}{R:Value->GH->Prop}{a u s:Tmp}{t:TypeId}{b off:Nat}{v v' v2:Value}(hr:fn.results=#[.tmp u,.cell a t,.tmp s])(hv:O u=v)(ha:O a=.pointer (some ⟨b,off,none⟩))(hv':Rd P h t b off v')(hv2:O s=v2)(x:R (.tuple #[v,v',v2]) h):GL P fn O R [] h:=by
 unfold GL;rw [hr];subst hv;subst hv2;exact ⟨b,off,v',ha,hv',x⟩
section
variable (np:Nat) (ws:List AD) (js:List AM) (pq:List AG) (bag kinds:Int)
def Hk:List (List Int):=(DG (Dl js.length)).filter (λq=>CG np ws js pq q bag kinds)
end
def Nt(g:List (List Int))(x:List Int):List (List Int):=if 0<g.length/\(g.getD 0 []).length<x.length then [] else g
def Nu(g:List (List Int))(x:List Int):List (List Int):=if g.length=0\/x.length=(g.getD 0 []).length then g++[x] else g
def UA(g:List (List Int))(x:List Int):List (List Int):=Nu (Nt g x) x
def Sm(l:List (List Int)):Nat->List (List Int)
 | 0=>[]
 | k+1=>UA (Sm l k) (l.getD k [])
def Gv(g:List Sl)(x:Sl):List Sl:=if 0<g.length/\(g.getD 0 Sl.z).2.length<x.2.length then [] else g
def Hl(g:List Sl)(x:Sl):List Sl:=if g.length=0\/x.2.length=(g.getD 0 Sl.z).2.length then g++[x] else g
def C1(g:List Sl)(x:Sl):List Sl:=Hl (Gv g x) x
def BC(l:List Sl):Nat->List Sl
 | 0=>[]
 | k+1=>C1 (BC l k) (l.getD k Sl.z)
section
variable {l g:List Sl} {x:Sl} {k:Nat}
theorem PA(h0:0<g.length)(h1:(g.getD 0 Sl.z).2.length<x.2.length):C1 g x=[x]:=by
 unfold C1 Gv;rw [if_pos ⟨h0,h1⟩];rfl
theorem PB(h0:0<g.length)(h1:x.2.length=(g.getD 0 Sl.z).2.length):C1 g x=g++[x]:=by
 unfold C1 Gv;rw [if_neg (λe=>by have:=e.2;omega)];unfold Hl;rw [if_pos (.inr h1)]
theorem PC(h0:0<g.length)(h1:x.2.length<(g.getD 0 Sl.z).2.length):C1 g x=g:=by
 unfold C1 Gv;rw [if_neg (λe=>by have:=e.2;omega)];unfold Hl;rw [if_neg];rintro (e | e) <;> omega
theorem PD(h0:g.length=0):C1 g x=g++[x]:=by
 unfold C1 Gv;rw [if_neg (λe=>by have:=e.1;omega)];unfold Hl;rw [if_pos (.inl h0)]
theorem goodS_a(h0:0<(BC l k).length)(h1:((BC l k).getD 0 Sl.z).2.length<(l.getD k Sl.z).2.length):BC l (k+1)=[l.getD k Sl.z]:=PA h0 h1
theorem goodS_b(h0:0<(BC l k).length)(h1:(l.getD k Sl.z).2.length=((BC l k).getD 0 Sl.z).2.length):BC l (k+1)=BC l k++[l.getD k Sl.z]:=PB h0 h1
theorem goodS_c(h0:0<(BC l k).length)(h1:¬((BC l k).getD 0 Sl.z).2.length<(l.getD k Sl.z).2.length)(h2:¬(l.getD k Sl.z).2.length=((BC l k).getD 0 Sl.z).2.length):BC l (k+1)=BC l k:=PC h0 aA
theorem goodS_d(h0:(BC l k).length=0):BC l (k+1)=BC l k++[l.getD k Sl.z]:=PD h0
theorem goodS_t(h1:¬(0<(BC l k).length/\((BC l k).getD 0 Sl.z).2.length<(l.getD k Sl.z).2.length))(h2:(BC l k).length=0\/(l.getD k Sl.z).2.length=((BC l k).getD 0 Sl.z).2.length):BC l (k+1)=BC l k++[l.getD k Sl.z]:=by
 by_cases h0:(BC l k).length=0
 ·exact goodS_d h0
 ·exact goodS_b aA aA
theorem goodS_f(h1:¬(0<(BC l k).length/\((BC l k).getD 0 Sl.z).2.length<(l.getD k Sl.z).2.length))(h2:¬((BC l k).length=0\/(l.getD k Sl.z).2.length=((BC l k).getD 0 Sl.z).2.length)):BC l (k+1)=BC l k:=goodS_c aA aA aA
theorem Hm(g:List Sl)(x:Sl):C1 g x=[x]\/C1 g x=g++[x]\/(C1 g x=g/\0<g.length):=by
 by_cases h0:g.length=0
 ·exact .inr (.inl (PD h0))
 ·by_cases h1:(g.getD 0 Sl.z).2.length<x.2.length
  ·exact .inl (PA aA h1)
  ·by_cases h2:x.2.length=(g.getD 0 Sl.z).2.length
   ·exact .inr (.inl (PB aA h2))
   ·exact .inr (.inr ⟨PC aA aA,aA⟩)
theorem Yj:∀k,0<k->0<(BC l k).length
 | k+1,_=>by
  show 0<(C1 (BC l k) (l.getD k Sl.z)).length;rcases Hm (BC l k) (l.getD k Sl.z) with e | e | ⟨e,h⟩ <;> rw [e]
  ·exact Nat.zero_lt_one
  ·rw [List.length_append];exact Nat.succ_pos _
  ·exact h
theorem RI:∀k,(BC l k).length<=k
 | 0=>Nat.le_refl _
 | k+1=>by
  have ih:=RI k;show (C1 (BC l k) (l.getD k Sl.z)).length<=_;rcases Hm (BC l k) (l.getD k Sl.z) with e | e | ⟨e,_⟩ <;> rw [e]
  ·simp
  ·rw [List.length_append,List.length_singleton];omega
  ·omega
theorem MK:∀k,k<=l.length->∀y ∈ BC l k,y ∈ l
 | 0,_,y,hy=>by cases hy
 | k+1,hk,y,hy=>by
  have ih:=MK k aA;have hx:l.getD k Sl.z ∈ l:=B0 aA;change y ∈ C1 (BC l k) (l.getD k Sl.z) at hy;rcases Hm (BC l k) (l.getD k Sl.z) with e | e | ⟨e,_⟩ <;> rw [e] at hy
  ·rw [List.mem_singleton.1 hy];exact hx
  ·rcases List.mem_append.1 hy with hy | hy
   ·exact ih y hy
   ·rw [List.mem_singleton.1 hy];exact hx
  ·exact ih y hy
theorem NI:∀k,k<=l.length->A3 (BC l k)=Sm (A3 l) k
 | 0,_=>rfl
 | k+1,hk=>by
  have ih:=NI k aA;have hg:∀g:List Sl,(g.getD 0 Sl.z).2=(A3 g).getD 0 []:=λg=>by cases g <;> rfl
  show A3 (C1 (BC l k) (l.getD k Sl.z))=UA (Sm (A3 l) k) ((A3 l).getD k []);rw [<-ih,Fd aA];have hc:A3 (Gv (BC l k) (l.getD k Sl.z))=Nt (A3 (BC l k)) (l.getD k Sl.z).2:=by
   unfold Gv Nt;rw [hg,CA];split <;> rfl
  have ha:∀g:List Sl,A3 (Hl g (l.getD k Sl.z))=Nu (A3 g) (l.getD k Sl.z).2:=λg=>by
   unfold Hl Nu;rw [hg,CA];split
   ·rw [MG];rfl
   ·rfl
  show A3 (Hl (Gv (BC l k) (l.getD k Sl.z)) (l.getD k Sl.z))=Nu (Nt (A3 (BC l k)) _) _;rw [ha,hc]
end
theorem CV.good{h:GH}{t:TypeId}{l:List Sl}{k:Nat}(a:CV h t l)(hk:k<=l.length):CV h t (BC l k):=.of λx hx=>a.at (MK k hk x hx)
section
variable {np:Nat} {ws:List AD} {js:List AM} {pq:List AG} {bag kinds:Int} {fs:List Sl}
theorem Xb(h:A3 fs=Hk np ws js pq bag kinds)(hn:js.length<=4):∀x ∈ fs,Sh js.length x.2:=λx hx=>by
 have:x.2 ∈ A3 fs:=List.mem_map_of_mem hx
 rw [h] at this;exact Jd (λy hy=>O5 hy) (by rw [D0];exact hn) (List.mem_filter.1 this).1
theorem UB(h:A3 fs=Hk np ws js pq bag kinds)(hn:js.length<=4)(i:Nat):Sh js.length (fs.getD i Sl.z).2:=by
 by_cases hi:i<fs.length
 ·exact Xb h hn _ (B0 hi)
 ·rw [CJ aA];exact ⟨λk hk=>absurd hk (Nat.not_lt_zero _),Nat.zero_le _⟩
theorem safe_nil(hb:0<=bag):CG np ws js pq [] bag kinds=true:=by
 unfold CG;have e:(C8 kinds js []).sum=0:=by
  show (List.replicate kinds.toNat (0:Int)).sum=0;generalize kinds.toNat=n
  induction n with
  | zero=>rfl
  | succ n ih=>rw [List.replicate_succ,List.sum_cons,ih];rfl
 rw [e,decide_eq_true hb];rfl
theorem Vn(hb:0<=bag):0<(Hk np ws js pq bag kinds).length:=by
 refine List.length_pos_of_mem (a:=[]) (List.mem_filter.2 ⟨?_,safe_nil hb⟩);unfold DG;rw [Gj];exact List.mem_cons_self
theorem PE(hn:js.length<=4):(Hk np ws js pq bag kinds).length<=625:=
 Nat.le_trans (List.length_filter_le _ _) (HN (by rw [D0];exact hn))
theorem RJ{G:List Int->Int}:∀(l:List (List Int)),0<l.length->∀k,k<=l.length-1->(Dt G l k).1 ∈ l
 | l,h,0,_=>B0 h
 | l,h,k+1,hk=>by
  unfold Dt;split
  ·exact List.mem_of_mem_drop (B0 (by rw [List.length_drop];omega))
  ·exact RJ l h k aA
theorem LY{n:Nat}{G:List Int->Int}{l:List Sl}(h:∀x ∈ l,Sh n x.2)(hl:0<l.length):Sh n (DH G (A3 l)):=by
 have:=RJ (G:=G) (A3 l) (by rw [CA];exact hl) ((A3 l).length-1) (Nat.le_refl _)
 obtain ⟨x,hx,e⟩:=List.mem_map.1 this;unfold DH;rw [<-e];exact h x hx
end
section
variable (bag kinds:Int) (ps:List ByteArray) (ws:List AD) (js:List AM) (ns:List AI)
def Vo:List Int:=DH (λl=>CR (λx=>A0 ps.length ws js x l) (AB ws js ns)) (Sm (Hk ps.length ws js (AB ws js ns) bag kinds) (Hk ps.length ws js (AB ws js ns) bag kinds).length)
def KO:List Int:=if¬AY bag kinds ps ws js ns 0=0 then [] else Vo bag kinds ps ws js ns
end
section
variable {bag kinds:Int} {ps:List ByteArray} {ws:List AD} {js:List AM} {ns:List AI} {fs:List Sl} {k:Nat}
theorem best_end(h:A3 fs=Hk ps.length ws js (AB ws js ns) bag kinds)(h1:k<=fs.length)(h2:fs.length<=k):Vo bag kinds ps ws js ns=DH (λl=>CR (λx=>A0 ps.length ws js x l) (AB ws js ns)) (A3 (BC fs k)):=by
 unfold Vo;rw [NI k h1,h,<-h,CA,show fs.length=k by omega]
theorem UC(h0:¬¬AY bag kinds ps ws js ns 0=0)(h:A3 fs=Hk ps.length ws js (AB ws js ns) bag kinds)(h1:k<=fs.length)(h2:fs.length<=k):KO bag kinds ps ws js ns=DH (λl=>CR (λx=>A0 ps.length ws js x l) (AB ws js ns)) (A3 (BC fs k)):=(if_neg h0).trans (best_end h h1 h2)
end
def Sn(c:HW)(l:List Int):Nat->HW
 | 0=>c
 | i+1=>(Sn c l i).set (l.getD i 0).toNat true
def GW(ls:List (List Int)):Nat->HW
 | 0=>HW.none
 | k+1=>Sn (GW ls k) (ls.getD k []) (ls.getD k []).length
def Eu(c:HW):Nat->List Int
 | 0=>[]
 | q+1=>if c q=true then Eu c q else Eu c q++[(q:Int)]
theorem neverL_t{c:HW}{q:Nat}(h:c q=true):Eu c (q+1)=Eu c q:=if_pos h
theorem neverL_f{c:HW}{q:Nat}(h:c q=false):Eu c (q+1)=Eu c q++[(q:Int)]:=if_neg (by rw [h];simp)
theorem PG(c:HW):∀q,(Eu c q).length<=q
 | 0=>Nat.le_refl _
 | q+1=>by
  have:=PG c q
  unfold Eu;split
  ·omega
  ·rw [List.length_append,List.length_singleton];omega
section
variable (bag kinds:Int) (ps:List ByteArray) (ws:List AD) (js:List AM) (ns:List AI)
def ML:List Int:=if¬AY bag kinds ps ws js ns 0=0 then [] else Eu (GW (Hk ps.length ws js (AB ws js ns) bag kinds) (Hk ps.length ws js (AB ws js ns) bag kinds).length) js.length
end
section
variable {bag kinds:Int} {ps:List ByteArray} {ws:List AD} {js:List AM} {ns:List AI} {fs:List Sl} {k q:Nat}
theorem Yk{i:Nat}(hk:k<fs.length)(h1:i<=(fs.getD k Sl.z).2.length)(h2:(fs.getD k Sl.z).2.length<=i):GW (A3 fs) (k+1)=Sn (GW (A3 fs) k) (fs.getD k Sl.z).2 i:=by
 unfold GW;rw [Fd hk,show (fs.getD k Sl.z).2.length=i by omega];cases k <;> rfl
theorem Yl(h0:¬¬AY bag kinds ps ws js ns 0=0)(h:A3 fs=Hk ps.length ws js (AB ws js ns) bag kinds)(h1:k<=fs.length)(h2:fs.length<=k)(h3:q<=js.length)(h4:js.length<=q):ML bag kinds ps ws js ns=Eu (GW (A3 fs) k) q:=
 (if_neg h0).trans (by rw [<-h,CA,show fs.length=k by omega,show js.length=q by omega])
end
end Go.Ns
namespace Go.Ns
theorem UD{nj:Nat}{l:List Int}(h:Ag nj l=0):l.Nodup:=by
 rw [List.nodup_iff_pairwise_ne];rw [List.pairwise_iff_getElem];intro i j hi hj hij e;have h1:=DF h j (Nat.zero_le _) aA;unfold Hw at h1;split at h1
 ·rename_i a;exact a h1
 ·split at h1
  ·cases h1
  ·rename_i a
   refine a (List.any_eq_true.2 ⟨l[i],List.mem_take_iff_getElem.2 ⟨i,aA,rfl⟩,?_⟩);rw [List.getD_eq_getElem?_getD,List.getElem?_eq_getElem hj];exact decide_eq_true e.symm
theorem NJ{jobs:List Int}(nd:jobs.Nodup):∀(rest done:List Int),jobs=done++rest->jobs ∈ BS jobs rest.length done
 | [],done,e=>by rw [e,List.append_nil];exact List.mem_singleton.2 rfl
 | k ::rest,done,e=>by
  have ih:=NJ nd rest (done++[k]) (by rw [e];simp);show jobs ∈ done ::jobs.flatMap _;refine List.mem_cons_of_mem _ (List.mem_flatMap.2 ⟨k,by rw [e];simp,?_⟩);have hn:II done k=false:=by
   cases hh:II done k with
   | false=>rfl
   | true=>
    exfalso;obtain ⟨x,hx,hk⟩:=List.any_eq_true.1 hh;have hk':k=x:=of_decide_eq_true hk;rw [e,List.nodup_append] at nd;exact nd.2.2 x hx k List.mem_cons_self hk'.symm
  rw [if_neg (by rw [hn];simp)];exact ih
def Xc(jobs:List Int)(n:Nat):List (List Int):=(DG jobs).filter λq=>decide (q.length=n)
theorem Ym{l:List Int}(nd:l.Nodup):0<(Xc (Ef l) l.length).length:=by
 have hs:(Ef l).Nodup:=by rw [LH];exact (List.mergeSort_perm l _).nodup_iff.2 nd
 have:=NJ hs (Ef l) [] rfl
 exact List.length_pos_of_mem (List.mem_filter.2 ⟨this,decide_eq_true (Ds l)⟩)
section
variable (bag kinds:Int) (ps:List ByteArray) (ws:List AD) (js:List AM) (ns:List AI) (l:List Int)
def swiftL:List Int:=DH (λl=>CR (λx=>A0 ps.length ws js x l) (AB ws js ns)) (Xc (Ef l) l.length)
def IJ:List Int:=if¬AY bag kinds ps ws js ns (Ag js.length l)=0 then [] else swiftL ps ws js ns l
end
section
variable {bag kinds:Int} {ps:List ByteArray} {ws:List AD} {js:List AM} {ns:List AI} {l:List Int} {fl:List Sl} {nj:Nat}
theorem RK(h0:¬¬AY bag kinds ps ws js ns (Ag js.length l)=0)(h:A3 fl=Xc (Ef l) l.length):IJ bag kinds ps ws js ns l=DH (λl=>CR (λx=>A0 ps.length ws js x l) (AB ws js ns)) (A3 fl):=(if_neg h0).trans (by unfold swiftL;rw [h])
theorem full_ok(h:A3 fl=Xc (Ef l) l.length)(hr:∀k,k<l.length->0<=l.getD k 0/\l.getD k 0<nj)(h4:l.length<=4):∀x ∈ fl,Sh nj x.2:=λx hx=>by
 have:x.2 ∈ A3 fl:=List.mem_map_of_mem hx
 rw [h] at this;refine Jd (λy hy=>?_) (by rw [Ds];exact h4) (List.mem_filter.1 this).1;rw [LH,List.mem_mergeSort] at hy;obtain ⟨i,hi,e⟩:=List.mem_iff_getElem.1 hy
 have:=hr i hi
 rw [List.getD_eq_getElem?_getD,List.getElem?_eq_getElem hi,Option.getD_some,e] at this;exact this
end
end Go.Ns
namespace Go.Ns
def PV(h:GH)(t:TypeId)(f:Nat->Value)(L:Nat->List Int)(k:Nat):Prop:=∀i,i<k->D5 h t (f i) (L i)
section
variable {h h' h0:GH} {t t':TypeId} {f:Nat->Value} {L:Nat->List Int} {k r:Nat} {w v v':Value} {p:Bool} {c:Array Value} {g:Nat×Nat}
theorem PV.zero:PV h t f L 0:=λ_ hi=>absurd hi (Nat.not_lt_zero _)
theorem PV.le(x:PV h t f L k)(l:h.Le h'):PV h' t f L k:=λi hi=>(x i hi).le l
theorem PV.store(x:PV h t f L k)(hr:h r=some (p,.cells c t' g))(ne:t'≠t)(ho:∀b,b≠r->h' b=h b):PV h' t f L k:=λi hi=>(x i hi).store hr ne ho
theorem PV.next(x:PV h t f L k)(y:D5 h t w (L k)):PV h t (λi=>if i=k then w else f i) L (k+1):=λi hi=>by
 show D5 h t (if i=k then w else f i) (L i);by_cases e:i=k
 ·rw [if_pos e,e];exact y
 ·rw [if_neg e];exact x i aA
end
def AM.re(j:AM)(v:Value):AM:={ j with pv:=v }
def AI.re(j:AI)(v:Value):AI:={ j with wv:=v }
def HX(js:List AM)(f:Nat->Value)(k:Nat):List AM:=(List.range js.length).map λi=>if i<k then (js.getD i AM.z).re (f i) else js.getD i AM.z
def IK(ns:List AI)(f:Nat->Value)(k:Nat):List AI:=(List.range ns.length).map λi=>if i<k then (ns.getD i AI.z).re (f i) else ns.getD i AI.z
section
variable {V:Type} {z:V} {l:List V} {F:Nat->V->V} {k:Nat}
def reL(z:V)(l:List V)(F:Nat->V->V)(k:Nat):List V:=(List.range l.length).map λi=>if i<k then F i (l.getD i z) else l.getD i z
theorem J5:(reL z l F k).length=l.length:=by unfold reL;rw [List.length_map,List.length_range]
theorem Hy{i:Nat}(hi:i<l.length):(reL z l F k).getD i z=if i<k then F i (l.getD i z) else l.getD i z:=by
 unfold reL;rw [List.getD_eq_getElem?_getD,List.getElem?_map,List.getElem?_range hi];rfl
theorem Ss{i:Nat}(hi:i<(reL z l F k).length):(reL z l F k)[i]=if i<k then F i (l.getD i z) else l.getD i z:=by
 have e:=Hy (z:=z) (F:=F) (k:=k) (show i<l.length by rw [<-J5 (z:=z) (F:=F) (k:=k)];exact hi);rw [List.getD_eq_getElem?_getD,List.getElem?_eq_getElem hi] at e;exact e
theorem reL_0:reL z l F 0=l:=by
 refine List.ext_getElem J5 λi h1 h2=>?_;rw [Ss,if_neg (Nat.not_lt_zero _),List.getD_eq_getElem?_getD,List.getElem?_eq_getElem h2];rfl
theorem Xd{G:Nat->V->V}(hk:k<l.length)(hG:∀i,i<k->∀x,G i x=F i x):(reL z l F k).set k (G k ((reL z l F k).getD k z))=reL z l G (k+1):=by
 rw [Hy hk,if_neg (Nat.lt_irrefl _)];refine List.ext_getElem (by rw [List.length_set,J5,J5]) λi h1 h2=>?_;rw [List.getElem_set,Ss];by_cases e:k=i
 ·subst e;rw [if_pos rfl,Ss,if_pos aA]
 ·rw [if_neg e,Ss];by_cases e2:i<k
  ·rw [if_pos e2,if_pos aA,hG i e2]
  ·rw [if_neg e2,if_neg aA]
end
section
variable {h:GH} {t:TypeId} {f:Nat->Value} {js:List AM} {ns:List AI} {k:Nat} {w:Value}
theorem PH:HX js f k=reL AM.z js (λi j=>j.re (f i)) k:=rfl
theorem PI:IK ns f k=reL AI.z ns (λi j=>j.re (f i)) k:=rfl
theorem Nv(js:List AM)(f:Nat->Value)(k:Nat):(HX js f k).length=js.length:=by rw [PH];exact J5
theorem Nw(ns:List AI)(f:Nat->Value)(k:Nat):(IK ns f k).length=ns.length:=by rw [PI];exact J5
theorem reJ_0:HX js f 0=js:=by rw [PH];exact reL_0
theorem reN_0:IK ns f 0=ns:=by rw [PI];exact reL_0
theorem reJ_put(hk:k<js.length):(HX js f k).set k (((HX js f k).getD k AM.z).re w)=HX js (λi=>if i=k then w else f i) (k+1):=by
 have:=Xd (z:=AM.z) (l:=js) (F:=λi j=>j.re (f i)) (G:=λi j=>j.re (if i=k then w else f i)) hk (λi hi x=>by rw [if_neg aA])
 rw [if_pos rfl] at this;exact this
theorem reN_put(hk:k<ns.length):(IK ns f k).set k (((IK ns f k).getD k AI.z).re w)=IK ns (λi=>if i=k then w else f i) (k+1):=by
 have:=Xd (z:=AI.z) (l:=ns) (F:=λi j=>j.re (f i)) (G:=λi j=>j.re (if i=k then w else f i)) hk (λi hi x=>by rw [if_neg aA])
 rw [if_pos rfl] at this;exact this
theorem RL(js:List AM)(f:Nat->Value)(k i:Nat):((HX js f k).getD i AM.z).parts=(js.getD i AM.z).parts:=by
 by_cases hi:i<js.length
 ·rw [PH,Hy hi];split <;> rfl
 ·rw [CJ (by rw [Nv];omega),CJ aA]
theorem UE(ns:List AI)(f:Nat->Value)(k i:Nat):((IK ns f k).getD i AI.z).ways=(ns.getD i AI.z).ways:=by
 by_cases hi:i<ns.length
 ·rw [PI,Hy hi];split <;> rfl
 ·rw [CJ (by rw [Nw];omega),CJ aA]
theorem At.re(x:At h js)(y:PV h t f (λi=>(js.getD i AM.z).parts) k):At h (HX js f k):=λi=>by
 by_cases hi:i<js.length
 ·rw [PH,Hy hi];by_cases e:i<k
  ·rw [if_pos e];exact (y i e).1
  ·rw [if_neg e];exact x i
 ·rw [CJ (by rw [Nv];omega)];exact AE.nil _ _ _
theorem AU.re(x:AU h ns)(y:PV h t f (λi=>(ns.getD i AI.z).ways) k):AU h (IK ns f k):=λi=>by
 by_cases hi:i<ns.length
 ·rw [PI,Hy hi];by_cases e:i<k
  ·rw [if_pos e];exact (y i e).1
  ·rw [if_neg e];exact x i
 ·rw [CJ (by rw [Nw];omega)];exact AE.nil _ _ _
def Cz(h:GH)(t:TypeId)(js:List AM):Prop:=∀k,D5 h t (js.getD k AM.z).pv (js.getD k AM.z).parts
def EB(h:GH)(t:TypeId)(ns:List AI):Prop:=∀k,D5 h t (ns.getD k AI.z).wv (ns.getD k AI.z).ways
theorem Cz.jobs(x:Cz h t js):At h js:=λk=>(x k).1
theorem EB.notes(x:EB h t ns):AU h ns:=λk=>(x k).1
theorem Cz.le{h':GH}(x:Cz h t js)(l:h.Le h'):Cz h' t js:=λk=>(x k).le l
theorem EB.le{h':GH}(x:EB h t ns)(l:h.Le h'):EB h' t ns:=λk=>(x k).le l
theorem Cz.store{h':GH}{t':TypeId}{r:Nat}{p:Bool}{c:Array Value}{g:Nat×Nat}(x:Cz h t js)(hr:h r=some (p,.cells c t' g))(ne:t'≠t)(ho:∀b,b≠r->h' b=h b):Cz h' t js:=λk=>(x k).store hr ne ho
theorem EB.store{h':GH}{t':TypeId}{r:Nat}{p:Bool}{c:Array Value}{g:Nat×Nat}(x:EB h t ns)(hr:h r=some (p,.cells c t' g))(ne:t'≠t)(ho:∀b,b≠r->h' b=h b):EB h' t ns:=λk=>(x k).store hr ne ho
theorem Cz.of(y:PV h t f (λi=>(js.getD i AM.z).parts) k)(hk:js.length<=k):Cz h t (HX js f k):=λi=>by
 by_cases hi:i<js.length
 ·rw [PH,Hy hi,if_pos aA];exact y i aA
 ·rw [CJ (by rw [Nv];omega)];exact D5.nil _ _
theorem EB.of(y:PV h t f (λi=>(ns.getD i AI.z).ways) k)(hk:ns.length<=k):EB h t (IK ns f k):=λi=>by
 by_cases hi:i<ns.length
 ·rw [PI,Hy hi,if_pos aA];exact y i aA
 ·rw [CJ (by rw [Nw];omega)];exact D5.nil _ _
theorem At.fine1(x:At h js)(k:Nat):(A8 (js.getD k AM.z)).toList.all (·.oneCell')=true:=by
 show (true && (true && (true && (true && (((js.getD k AM.z).pv.oneCell') && true)))))=true;rw [(AE.one (x k)).2];rfl
theorem At.fine(x:At h js):∀y ∈ js,(A8 y).toList.all (·.oneCell')=true:=λy hy=>by
 obtain ⟨i,hi,e⟩:=List.mem_iff_getElem.1 hy
 have:=x.fine1 i
 rw [List.getD_eq_getElem?_getD,List.getElem?_eq_getElem hi] at this;rw [<-e];exact this
theorem AU.snoc{x:AI}(a:AU h ns)(b:AE h x.wv 1 eI x.ways):AU h (ns++[x]):=λk=>by
 rw [O2];split
 ·exact a k
 ·cases hk:k-ns.length with
  | zero=>exact b
  | succ n=>rw [CJ aD];exact AE.nil _ _ _
end
theorem Bc.copy{bag kinds:Int}{ps:List ByteArray}{ws:List AD}{js:List AM}{ns:List AI}(b:Bc bag kinds ps ws js ns):(∀i,(js.getD i AM.z).parts.length<=1000)/\∀i,(ns.getD i AI.z).ways.length<=1000:=by
 refine ⟨λi=>?_,λi=>Nat.le_trans (Om b.note i).1 aC⟩;by_cases hi:i<js.length
 ·have:=(Oi (b.job i hi)).len
  have:=b.hkin
  omega
 ·rw [CJ aA];exact Nat.zero_le _
end Go.Ns
namespace Go.Ns
section
variable {P:Program} {E:GJ P} {O:Nat->Value} {ds:List Deferred} {h:GH} {T:(Nat->Value)->List Deferred->GH->Prop} {dst:Option Nat} {ty:TypeId} {pos:String} {af:Array Edge} {gd:Option (Nat×Bool)}
theorem Vp{s:ByteArray}{i:Nat}(h:i<s.size):((s[i]'h).toNat:Int)=(bytesOf s).getD i 0:=by
 have h2:i<(bytesOf s).length:=by rw [Cx];exact h
 rw [DU 0 h2];exact (List.getElem_map (l:=s.data.toList) (f:=λb=>(b.toNat:Int)) (h:=h2)).symm
theorem PJ{t:TypeId}{x ix:Operand}{s:ByteArray}{kd:IntKind}{i:Int}(ht:N8 P t=true)(hx:AN O x=.string s)(hi:AN O ix=.int kd i)(h0:0<=i)(h1:i<s.size)(k:T (putS O dst (.int .u8 ((bytesOf s).getD i.toNat 0))) ds h) :
  BT E ⟨dst,.index t x ix,ty,pos,af,gd⟩ O ds h T:=QP ht hx hi h0 h1 (by rw [Vp];exact k)
end
theorem UF{s:ByteArray}(h:¬(1<=(s.size:Int)/\(s.size:Int)<=10)):En s=false:=by unfold En;rw [decide_eq_false h,Bool.and_false]
theorem UG{a b:List UInt8}{v:Bool}(h:(a==b)=v):(b==a)=v:=by rw [<-h];exact BEq.comm
def IL(l:List Int)(k:Nat)(p q:Int):List Int:=if p=l.getD k 0/\¬q ∈ l then l++[q] else l
def C2(l:List Int)(k:Nat)(x:AD):List Int:=IL (IL l k x.a x.b) k x.b x.a
def Af(ws:List AD)(l:List Int)(k:Nat):Nat->List Int
 | 0=>l
 | j+1=>C2 (Af ws l k j) k (ws.getD j AD.z)
def Ax(ws:List AD):Nat->List Int
 | 0=>[0]
 | k+1=>if k<(Ax ws k).length then Af ws (Ax ws k) k ws.length else Ax ws k
def G6(ws:List AD):List Int:=Ax ws 4
def Hn(np:Nat)(l:List Int):Prop:=l.Nodup/\(∀x ∈ l,0<=x/\x<np)/\0<l.length
def PK(np:Nat)(ws:List AD):Prop:=∀k,k<ws.length->(0<=(ws.getD k AD.z).a/\(ws.getD k AD.z).a<np)/\0<=(ws.getD k AD.z).b/\(ws.getD k AD.z).b<np
section
variable {np:Nat} {l:List Int} {ws:List AD} {k j:Nat} {x:Int} {w:AD}
theorem Hn.len(h:Hn np l):l.length<=np:=by
 refine Vc np l.length (λk=>(l.getD k 0).toNat) (λi hi=>?_) λi j hij hj=>?_
 ·have:=h.2.1 _ (B0 (d:=(0:Int)) hi)
  show (l.getD i 0).toNat<np;omega
 ·have h1:=h.2.1 _ (B0 (d:=(0:Int)) hj);have h2:=h.2.1 _ (B0 (d:=(0:Int)) (show i<l.length by omega));show (l.getD i 0).toNat≠(l.getD j 0).toNat;intro e;have e2:l.getD i 0=l.getD j 0:=aA
  rw [List.getD_eq_getElem?_getD,List.getD_eq_getElem?_getD,List.getElem?_eq_getElem aA,List.getElem?_eq_getElem hj,Option.getD_some,Option.getD_some] at e2
  have:=(List.pairwise_iff_getElem.1 (List.nodup_iff_pairwise_ne.1 h.1)) i j aA hj hij
  exact this e2
theorem Hn.snoc(h:Hn np l)(hx:0<=x/\x<np)(n:¬x ∈ l):Hn np (l++[x]):=
 ⟨List.nodup_append.2 ⟨h.1,aD,λa ha b hb e=>by rw [List.mem_singleton.1 hb] at e;exact n (e▸ha)⟩,λy hy=>by
  rcases List.mem_append.1 hy with hy | hy
  ·exact h.2.1 y hy
  ·rw [List.mem_singleton.1 hy];exact hx,aD⟩
theorem LZ{p q:Int}(h1:p=l.getD k 0)(h2:¬q ∈ l):IL l k p q=l++[q]:=if_pos ⟨h1,h2⟩
theorem La{p q:Int}(h:¬(p=l.getD k 0/\¬q ∈ l)):IL l k p q=l:=if_neg h
theorem rs_tt(h1:w.a=l.getD k 0/\¬w.b ∈ l)(h2:w.b=(l++[w.b]).getD k 0/\¬w.a ∈ l++[w.b]):C2 l k w=l++[w.b]++[w.a]:=by unfold C2;rw [LZ h1.1 h1.2,LZ h2.1 h2.2]
theorem rs_tf(h1:w.a=l.getD k 0/\¬w.b ∈ l)(h2:¬(w.b=(l++[w.b]).getD k 0/\¬w.a ∈ l++[w.b])):C2 l k w=l++[w.b]:=by unfold C2;rw [LZ h1.1 h1.2,La h2]
theorem rs_ft(h1:¬(w.a=l.getD k 0/\¬w.b ∈ l))(h2:w.b=l.getD k 0/\¬w.a ∈ l):C2 l k w=l++[w.a]:=by unfold C2;rw [La h1,LZ h2.1 h2.2]
theorem rs_ff(h1:¬(w.a=l.getD k 0/\¬w.b ∈ l))(h2:¬(w.b=l.getD k 0/\¬w.a ∈ l)):C2 l k w=l:=by unfold C2;rw [La h1,La h2]
theorem RM{p q:Int}(h:Hn np l)(hq:0<=q/\q<np):Hn np (IL l k p q):=by
 unfold IL;split
 ·rename_i c;exact h.snoc hq c.2
 ·exact h
theorem Kj(l:List Int)(k:Nat)(p q:Int):l<+:IL l k p q:=by
 unfold IL;split
 ·exact List.prefix_append _ _
 ·exact List.prefix_refl _
theorem St(h:Hn np l)(ha:0<=w.a/\w.a<np)(hb:0<=w.b/\w.b<np):Hn np (C2 l k w):=RM (RM h hb) ha
theorem P8(l:List Int)(k:Nat)(w:AD):l<+:C2 l k w:=(Kj _ _ _ _).trans (Kj _ _ _ _)
theorem I4(h:Hn np l)(hw:PK np ws):∀j,j<=ws.length->Hn np (Af ws l k j)
 | 0,_=>h
 | j+1,hj=>St (I4 h hw j aA) (hw j aA).1 (hw j aA).2
theorem IM:∀j,l<+:Af ws l k j
 | 0=>List.prefix_refl _
 | j+1=>(IM j).trans (P8 _ _ _)
theorem J6(hn:0<np)(hw:PK np ws):∀k,Hn np (Ax ws k)
 | 0=>⟨by simp [Ax],λx hx=>by rw [List.mem_singleton.1 hx];omega,Nat.zero_lt_one⟩
 | k+1=>by
  unfold Ax;split
  ·exact I4 (J6 hn hw k) hw _ (Nat.le_refl _)
  ·exact J6 hn hw k
theorem NK(hk:k<(Ax ws k).length):Ax ws (k+1)=Af ws (Ax ws k) k ws.length:=if_pos hk
theorem NL(hk:(Ax ws k).length<=k):∀m,k<=m->Ax ws m=Ax ws k
 | 0,h=>by rw [show k=0 by omega]
 | m+1,h=>by
  by_cases e:m+1=k
  ·rw [e]
  ·have ih:=NL hk m aA
   have:Ax ws (m+1)=Ax ws m:=by
    conv=>lhs;unfold Ax
    rw [if_neg (by rw [ih];omega)]
   rw [this,ih]
theorem Yn(hk:(Ax ws k).length<=k)(hk4:k<=4):G6 ws=Ax ws k:=NL hk 4 hk4
end
def FN(np:Nat)(ws:List AD):Int:=if (5:Int)<ws.length then 2 else if¬Cr (Cy np ws) 0 ws.length=0 then Cr (Cy np ws) 0 ws.length else if (G6 ws).length<np then 8 else 0
def Dm(bag kinds:Int)(ps:List ByteArray)(ws:List AD)(js:List AM)(ns:List AI):Int:=
 if¬Gf bag kinds=0 then Gf bag kinds else if¬BO ps=0 then BO ps else if¬FN ps.length ws=0 then FN ps.length ws else if¬B7 ps.length kinds js=0 then B7 ps.length kinds js else Ce ws.length ns
section
variable {V:Type} {p:V->Bool} {l:List V} {d:V} {k j:Nat}
theorem MM(hk:k<l.length)(e:p (l.getD k d)=true):l.any p=true:=List.any_eq_true.2 ⟨_,B0 hk,e⟩
theorem J7(h:(l.take k).any p=false)(hk:l.length<=k):l.any p=false:=by rwa [List.take_of_length_le hk] at h
theorem any_take(hj:j<k)(hk:k<=l.length)(e:p (l.getD j d)=true):(l.take k).any p=true:=by
 refine MM (k:=j) (d:=d) (by rw [List.length_take];omega) ?_;rw [List.getD_eq_getElem?_getD,List.getElem?_take,if_pos hj,<-List.getD_eq_getElem?_getD];exact e
end
section
variable {np nw:Nat} {ws:List AD} {js:List AM} {ns:List AI} {k:Nat} {kinds:Int}
theorem Lb{a b:Int}(ha:0<=a/\a<=(np:Int)-1)(hb:0<=b/\b<=(np:Int)-1):B1 np [a,b]=0:=by
 have h0:Ec np [a,b] 0=0:=if_neg (λe=>e ha);have h1:Ec np [a,b] 1=0:=if_neg (λe=>e hb);show Cr (Ec np [a,b]) 0 2=0;simp [Cr,h0,h1]
theorem miss_no{a b:Int}(h:¬(0<=a/\a<=(np:Int)-1)\/¬(0<=b/\b<=(np:Int)-1)):B1 np [a,b]=6:=by
 show Cr (Ec np [a,b]) 0 2=6;by_cases ha:0<=a/\a<=(np:Int)-1
 ·have h0:Ec np [a,b] 0=0:=if_neg (λe=>e ha);have h1:Ec np [a,b] 1=6:=if_pos (h.resolve_left λe=>e ha);simp [Cr,h0,h1]
 ·have h0:Ec np [a,b] 0=6:=if_pos ha;simp [Cr,h0]
theorem PL{a:Int}(ha:0<=a/\a<=(np:Int)-1):B1 np [a]=0:=by
 have h0:Ec np [a] 0=0:=if_neg (λe=>e ha);show Cr (Ec np [a]) 0 1=0;simp [Cr,h0]
theorem miss_no1{a:Int}(ha:¬(0<=a/\a<=(np:Int)-1)):B1 np [a]=6:=by
 have h0:Ec np [a] 0=6:=if_pos ha;show Cr (Ec np [a]) 0 1=6;simp [Cr,h0]
variable (ws k) in
def waP(np:Nat):Prop:=(0<=(ws.getD k AD.z).a/\(ws.getD k AD.z).a<=(np:Int)-1)/\(0<=(ws.getD k AD.z).b/\(ws.getD k AD.z).b<=(np:Int)-1)
theorem wy6(h:¬(0<=(ws.getD k AD.z).a/\(ws.getD k AD.z).a<=(np:Int)-1)\/¬(0<=(ws.getD k AD.z).b/\(ws.getD k AD.z).b<=(np:Int)-1)):Cy np ws k=6:=by
 unfold Cy;rw [miss_no h,if_pos aC]
theorem wyP(h:¬(¬(0<=(ws.getD k AD.z).a/\(ws.getD k AD.z).a<=(np:Int)-1)\/¬(0<=(ws.getD k AD.z).b/\(ws.getD k AD.z).b<=(np:Int)-1))):waP ws k np:=⟨Decidable.byContradiction λe=>h (.inl e),Decidable.byContradiction λe=>h (.inr e)⟩
theorem wy7(h:waP ws k np)(h2:(ws.getD k AD.z).b<=(ws.getD k AD.z).a):Cy np ws k=7:=by
 unfold Cy;rw [Lb h.1 h.2,if_neg aD,if_pos h2]
theorem wy5(h:waP ws k np)(h2:¬(ws.getD k AD.z).b<=(ws.getD k AD.z).a)(h3:(ws.take k).any (λy=>decide (y.a=(ws.getD k AD.z).a/\y.b=(ws.getD k AD.z).b))=true):Cy np ws k=5:=by
 unfold Cy;rw [Lb h.1 h.2,if_neg aD,if_neg h2,if_pos h3]
theorem wy1(h:waP ws k np)(h2:¬(ws.getD k AD.z).b<=(ws.getD k AD.z).a)(h3:(ws.take k).any (λy=>decide (y.a=(ws.getD k AD.z).a/\y.b=(ws.getD k AD.z).b))=false)(h4:¬(((0<=(ws.getD k AD.z).low/\(ws.getD k AD.z).low<=(ws.getD k AD.z).high)/\(ws.getD k AD.z).high<=30)/\(ws.getD k AD.z).high-(ws.getD k AD.z).low<2)):Cy np ws k=1:=by
 unfold Cy;rw [Lb h.1 h.2,if_neg aD,if_neg h2,if_neg (by rw [h3];simp)];exact if_pos h4
theorem wy0(h:waP ws k np)(h2:¬(ws.getD k AD.z).b<=(ws.getD k AD.z).a)(h3:(ws.take k).any (λy=>decide (y.a=(ws.getD k AD.z).a/\y.b=(ws.getD k AD.z).b))=false)(h4:(((0<=(ws.getD k AD.z).low/\(ws.getD k AD.z).low<=(ws.getD k AD.z).high)/\(ws.getD k AD.z).high<=30)/\(ws.getD k AD.z).high-(ws.getD k AD.z).low<2)):Cy np ws k=0:=by
 unfold Cy;rw [Lb h.1 h.2,if_neg aD,if_neg h2,if_neg (by rw [h3];simp)];exact if_neg (λe=>e h4)
theorem waysOK(h:∀k,k<ws.length->Cy np ws k=0):PK np ws:=λk hk=>by
 have:=h k hk
 unfold Cy at this;split at this
 ·rename_i a;exact absurd this a
 ·rename_i a
  have q:=FM (Decidable.not_not.1 a);have q1:=q _ List.mem_cons_self;have q2:=q _ (List.mem_cons_of_mem _ List.mem_cons_self);omega
theorem rw2(h:(5:Int)<ws.length):FN np ws=2:=if_pos h
theorem Su{c:Int}(h5:¬(5:Int)<ws.length)(hs:∀j,j<k->Cy np ws j=0)(hk:k<ws.length)(e:Cy np ws k=c)(hc:c≠0):FN np ws=c:=by
 have h1:=BN hs hk e hc;rw [FN,if_neg h5,h1,if_pos hc]
theorem rw8(h5:¬(5:Int)<ws.length)(hs:∀j,j<k->Cy np ws j=0)(hk:ws.length<=k)(h:((G6 ws).length:Int)<np):FN np ws=8:=by
 rw [FN,if_neg h5,Bt hs hk,if_neg aD,if_pos aA]
theorem rw0(h5:¬(5:Int)<ws.length)(hs:∀j,j<k->Cy np ws j=0)(hk:ws.length<=k)(h:¬((G6 ws).length:Int)<np):FN np ws=0:=by
 rw [FN,if_neg h5,Bt hs hk,if_neg aD,if_neg aA]
theorem jb6(h:¬(0<=(js.getD k AM.z).place/\(js.getD k AM.z).place<=(np:Int)-1)):Fk np kinds js k=6:=by
 unfold Fk;rw [miss_no1 h,if_pos aC]
theorem jb1(h:0<=(js.getD k AM.z).place/\(js.getD k AM.z).place<=(np:Int)-1)(h2:¬(((0<=(js.getD k AM.z).low/\(js.getD k AM.z).low<=(js.getD k AM.z).high)/\(js.getD k AM.z).high<=30)/\(js.getD k AM.z).high-(js.getD k AM.z).low<2)\/¬(0<=(js.getD k AM.z).due/\(js.getD k AM.z).due<=200)):Fk np kinds js k=1:=by
 unfold Fk;rw [PL h,if_neg aD];exact if_pos h2
theorem jb2(h:0<=(js.getD k AM.z).place/\(js.getD k AM.z).place<=(np:Int)-1)(h2:¬(¬(((0<=(js.getD k AM.z).low/\(js.getD k AM.z).low<=(js.getD k AM.z).high)/\(js.getD k AM.z).high<=30)/\(js.getD k AM.z).high-(js.getD k AM.z).low<2)\/¬(0<=(js.getD k AM.z).due/\(js.getD k AM.z).due<=200)))(h3:¬((js.getD k AM.z).parts.length:Int)=kinds):Fk np kinds js k=2:=by
 unfold Fk;rw [PL h,if_neg aD];exact (if_neg h2).trans (if_pos h3)
theorem jb3(h:0<=(js.getD k AM.z).place/\(js.getD k AM.z).place<=(np:Int)-1)(h2:¬(¬(((0<=(js.getD k AM.z).low/\(js.getD k AM.z).low<=(js.getD k AM.z).high)/\(js.getD k AM.z).high<=30)/\(js.getD k AM.z).high-(js.getD k AM.z).low<2)\/¬(0<=(js.getD k AM.z).due/\(js.getD k AM.z).due<=200)))(h3:((js.getD k AM.z).parts.length:Int)=kinds):Fk np kinds js k=if (js.getD k AM.z).parts.any (λn=>decide (¬(0<=n/\n<=5))) then 1 else 0:=by
 unfold Fk;rw [PL h,if_neg aD];exact (if_neg h2).trans (if_neg (λe=>e h3))
theorem nt2(h:(5:Int)<(ns.getD k AI.z).ways.length):Dz nw ns k=2:=if_pos h
theorem nt6(h:¬(5:Int)<(ns.getD k AI.z).ways.length)(h2:(ns.getD k AI.z).ways.any (λn=>decide (¬(0<=n/\n<=(nw:Int)-1)))=true):Dz nw ns k=6:=by
 unfold Dz;rw [if_neg h,if_pos h2]
theorem nt1(h:¬(5:Int)<(ns.getD k AI.z).ways.length)(h2:(ns.getD k AI.z).ways.any (λn=>decide (¬(0<=n/\n<=(nw:Int)-1)))=false)(h3:¬((0<=(ns.getD k AI.z).low/\(ns.getD k AI.z).low<=(ns.getD k AI.z).high)/\(ns.getD k AI.z).high<=200)):Dz nw ns k=1:=by
 unfold Dz;rw [if_neg h,if_neg (by rw [h2];simp),if_pos (λe=>h3 e.1)]
theorem nt0(h:¬(5:Int)<(ns.getD k AI.z).ways.length)(h2:(ns.getD k AI.z).ways.any (λn=>decide (¬(0<=n/\n<=(nw:Int)-1)))=false)(h3:(0<=(ns.getD k AI.z).low/\(ns.getD k AI.z).low<=(ns.getD k AI.z).high)/\(ns.getD k AI.z).high<=200):Dz nw ns k=0:=by
 unfold Dz;rw [if_neg h,if_neg (by rw [h2];simp),if_neg (λe=>e ⟨h3,aA⟩)]
end
section
variable {ps:List ByteArray} {k:Nat} {a b:List (Int×Int)}
theorem pa4(h:En (ps.getD k (⟨#[]⟩:ByteArray))=false):E5 ps k=4:=by unfold E5;rw [if_pos h]
theorem pa5(h:En (ps.getD k (⟨#[]⟩:ByteArray))=true)(h2:0<=idxOf (λx=>(ps.getD k (⟨#[]⟩:ByteArray)).toList==x.toList) (ps.take k)):E5 ps k=5:=by
 unfold E5;rw [if_neg (by rw [h];simp),if_pos ((E3 _ _).1 h2)]
theorem pa0(h:En (ps.getD k (⟨#[]⟩:ByteArray))=true)(h2:¬0<=idxOf (λx=>(ps.getD k (⟨#[]⟩:ByteArray)).toList==x.toList) (ps.take k)):E5 ps k=0:=by
 unfold E5;rw [if_neg (by rw [h];simp),if_neg λe=>h2 ((E3 _ _).2 e)]
theorem P9(hs:a.take k=b.take k)(hk:k<=a.length)(h:¬(k:Int)<a.length)(hl:(a.length:Int)=b.length):a=b:=by
 rw [List.take_of_length_le aA,List.take_of_length_le aA] at hs;exact hs
theorem eq_getDP{k:Nat}(h:((a.getD k (0,0)).1==(b.getD k (0,0)).1 && ((a.getD k (0,0)).2==(b.getD k (0,0)).2 && true))=true):a.getD k (0,0)=b.getD k (0,0):=by
 simp only [Bool.and_true,Bool.and_eq_true,beq_iff_eq] at h;exact Prod.ext h.1 h.2
theorem ne_getDP{k:Nat}(h:(!((a.getD k (0,0)).1==(b.getD k (0,0)).1 && ((a.getD k (0,0)).2==(b.getD k (0,0)).2 && true)))=true):¬a=b:=λe=>by rw [e] at h;simp at h
end
section
variable (bag kinds:Int) (ps:List ByteArray) (ws:List AD) (js:List AM) (ns:List AI)
def EC:Bool:=decide ((((20:Int)<ps.length\/(20:Int)<ws.length)\/(20:Int)<js.length)\/(20:Int)<ns.length) || ps.any (λs=>decide ((100:Int)<s.size)) || js.any (λj=>decide ((20:Int)<j.parts.length)) || ns.any λn=>decide ((20:Int)<n.ways.length)
def fit9:Bool:= !EC ps ws js ns && decide (Dm bag kinds ps ws js ns=0)
end
section
variable {ps:List ByteArray} {ws:List AD} {js:List AM} {ns:List AI} {k:Nat}
theorem Lc(h:EC ps ws js ns=false)(k:Nat):(ps.getD k (⟨#[]⟩:ByteArray)).size<=1000:=by
 unfold EC at h;simp only [Bool.or_eq_false_iff] at h;by_cases hk:k<ps.length
 ·have:=List.any_eq_false.1 h.1.1.2 _ (B0 (d:=(⟨#[]⟩:ByteArray)) hk)
  have:=of_decide_eq_false (Bool.eq_false_iff.2 this)
  omega
 ·rw [CJ aA];decide
end
section
variable {bag kinds:Int} {ps:List ByteArray} {ws:List AD} {js:List AM} {ns:List AI}
theorem Jg(h:BO ps=0):0<ps.length/\ps.length<=4:=by
 unfold BO at h;split at h
 ·cases h
 ·omega
theorem rc1(h:¬(0<=bag/\bag<=9)\/¬(0<=kinds/\kinds<=3)):Dm bag kinds ps ws js ns=1:=by
 have e:Gf bag kinds=1:=if_pos h;unfold Dm;rw [e,if_pos aC]
theorem tb0(h:¬(¬(0<=bag/\bag<=9)\/¬(0<=kinds/\kinds<=3))):Gf bag kinds=0:=if_neg h
theorem rc2(h0:¬(¬(0<=bag/\bag<=9)\/¬(0<=kinds/\kinds<=3)))(h:¬BO ps=0):Dm bag kinds ps ws js ns=BO ps:=by unfold Dm;rw [tb0 h0,if_neg aD,if_pos h]
theorem rc3(h0:¬(¬(0<=bag/\bag<=9)\/¬(0<=kinds/\kinds<=3)))(h1:¬¬BO ps=0)(h:¬FN ps.length ws=0):Dm bag kinds ps ws js ns=FN ps.length ws:=by unfold Dm;rw [tb0 h0,if_neg aD,if_neg h1,if_pos h]
theorem rc4(h0:¬(¬(0<=bag/\bag<=9)\/¬(0<=kinds/\kinds<=3)))(h1:¬¬BO ps=0)(h2:¬¬FN ps.length ws=0)(h:¬B7 ps.length kinds js=0):Dm bag kinds ps ws js ns=B7 ps.length kinds js:=by unfold Dm;rw [tb0 h0,if_neg aD,if_neg h1,if_neg h2,if_pos h]
theorem rc5(h0:¬(¬(0<=bag/\bag<=9)\/¬(0<=kinds/\kinds<=3)))(h1:¬¬BO ps=0)(h2:¬¬FN ps.length ws=0)(h:¬¬B7 ps.length kinds js=0):Dm bag kinds ps ws js ns=Ce ws.length ns:=by unfold Dm;rw [tb0 h0,if_neg aD,if_neg h1,if_neg h2,if_neg h]
theorem gr_len(h:(((20:Int)<ps.length\/(20:Int)<ws.length)\/(20:Int)<js.length)\/(20:Int)<ns.length):EC ps ws js ns=true:=by unfold EC;rw [decide_eq_true h];rfl
theorem gr_p(h:ps.any (λs=>decide ((100:Int)<s.size))=true):EC ps ws js ns=true:=by unfold EC;rw [h];simp
theorem gr_j(h:js.any (λj=>decide ((20:Int)<j.parts.length))=true):EC ps ws js ns=true:=by unfold EC;rw [h];simp
theorem gr_n(h:ns.any (λn=>decide ((20:Int)<n.ways.length))=true):EC ps ws js ns=true:=by unfold EC;rw [h];simp
theorem gr_0(h:¬((((20:Int)<ps.length\/(20:Int)<ws.length)\/(20:Int)<js.length)\/(20:Int)<ns.length))(h1:ps.any (λs=>decide ((100:Int)<s.size))=false)(h2:js.any (λj=>decide ((20:Int)<j.parts.length))=false)(h3:ns.any (λn=>decide ((20:Int)<n.ways.length))=false):EC ps ws js ns=false:=by
 unfold EC;rw [decide_eq_false h,h1,h2,h3];rfl
end
end Go.Ns
namespace Go.Ns
def CS:List ByteArray:=[⟨#[119,111,114,107,115]⟩,⟨#[97,121,114]⟩,⟨#[98,117,116,101]⟩]
theorem C3:∀k,(CS.getD k (⟨#[]⟩:ByteArray)).size<=1000
 | 0=>aC
 | 1=>aC
 | 2=>aC
 | k+3=>by rw [CJ (by simp [CS])];decide
def CP:List AD:=[⟨0,1,2,3⟩,⟨1,2,4,4⟩,⟨0,2,5,5⟩]
def B2(a b c:Value):List AM:=[⟨1,1,1,5,a,[2]⟩,⟨2,1,2,12,b,[1]⟩,⟨0,1,1,20,c,[1]⟩]
theorem Cz.ex{h:GH}{t:TypeId}{a b c:Value}(x:D5 h t a [2])(y:D5 h t b [1])(z:D5 h t c [1]):Cz h t (B2 a b c):=λk=>by
 match k with
 | 0=>exact x
 | 1=>exact y
 | 2=>exact z
 | k+3=>rw [CJ (by show 3<=_;omega)];exact D5.nil _ _
theorem AE.isSl{V:Type}{h:GH}{v:Value}{n:Nat}{enc:V->Array Value}{xs:List V}(x:AE h v n enc xs):∀k i,v≠.int k i:=by
 obtain ⟨a,cap,rfl,_⟩:=x;intro k i e;cases e
theorem AE.across9{h h':GH}{v:Value}{xs:List Int}{r:Nat}{a b c d:Value}{T:TypeId}(x:AE h v 1 eI xs)(hb:h r=some (true,.cells #[.int .i64 3,.int .i64 1,a,b,c,d] T (0,0)))(ho:∀y,y≠r->h' y=h y)
  (ha:∀k i,a≠.int k i) (hb':∀k i,b≠.int k i) (hc:∀k i,c≠.int k i) (hd:∀k i,d≠.int k i) (hx:∀o,o<6->∃i:Fin xs.length,(o+i.val=0->xs[i.val]≠3)/\(o+i.val=1->xs[i.val]≠1)):AE h' v 1 eI xs:=by
 obtain ⟨ad,cap,hv,hcap,hm,he⟩:=x;refine ⟨ad,cap,hv,hcap,hm,λi hi=>?_⟩;obtain ⟨y,off,h1,h2⟩:=he i hi;refine ⟨y,off,h1,h2.same (ho y ?_)⟩;rintro rfl;have key:∀j (hj:j<xs.length),off+j<6/\(#[Value.int .i64 3,.int .i64 1,a,b,c,d]:Array Value).extract (off+j) (off+j+1)=eI xs[j]:=λj hj=>by
  obtain ⟨y2,off2,h3,h4⟩:=he j hj;rw [h1] at h3;simp only [Option.some.injEq,Addr.mk.injEq,and_true] at h3;obtain ⟨rfl,rfl⟩:=h3;obtain ⟨p,cc,t,f,q1,q2,q3⟩:=h4;rw [hb] at q1;simp only [Option.some.injEq,Prod.mk.injEq,Obj.cells.injEq] at q1;obtain ⟨_,rfl,_⟩:=q1;rw [Nat.mul_one] at q2 q3;exact ⟨by simp at q2;omega,q3⟩
 obtain ⟨⟨j,hj⟩,e0,e1⟩:=hx off (by have:=(key i hi).1;omega);obtain ⟨k1,k2⟩:=key j hj;simp only at e0 e1;generalize off+j=o at k1 k2 e0 e1;generalize xs[j]=z at k2 e0 e1
 have:o=0\/o=1\/o=2\/o=3\/o=4\/o=5:=aA
 rcases this with rfl | rfl | rfl | rfl | rfl | rfl
 ·have k3:(#[.int .i64 3]:Array Value)=#[.int .i64 z]:=k2;simp at k3;exact e0 rfl k3.symm
 ·have k3:(#[.int .i64 1]:Array Value)=#[.int .i64 z]:=k2;simp at k3;exact e1 rfl k3.symm
 ·have k3:(#[a]:Array Value)=#[.int .i64 z]:=k2;simp at k3;exact ha _ _ k3
 ·have k3:(#[b]:Array Value)=#[.int .i64 z]:=k2;simp at k3;exact hb' _ _ k3
 ·have k3:(#[c]:Array Value)=#[.int .i64 z]:=k2;simp at k3;exact hc _ _ k3
 ·have k3:(#[d]:Array Value)=#[.int .i64 z]:=k2;simp at k3;exact hd _ _ k3
end Go.Ns
namespace Go.Ns
section
variable {m:FG} {b np i k n:Nat}
end
section
variable {p:AG} {ws:List AD} {np:Nat}
end
end Go.Ns
namespace Go.Ns
section
variable {ws:List AD} {c:HW} {x:AD} {i n k np:Nat}
theorem Jh(h:c i=true):Ed c x i=true:=by
 unfold Ed HW.set;by_cases e:i=x.b.toNat
 ·rw [if_pos e];by_cases e2:x.b.toNat=x.a.toNat
  ·rw [if_pos e2];rw [e,e2] at h;rw [h];simp
  ·rw [if_neg e2,<-e,h];simp
 ·rw [if_neg e];by_cases e2:i=x.a.toNat
  ·rw [if_pos e2,<-e2,h];simp
  ·rw [if_neg e2];exact h
theorem UH(h:c x.a.toNat=true\/c x.b.toNat=true):Ed c x x.a.toNat=true/\Ed c x x.b.toNat=true:=by
 unfold Ed HW.set;rcases h with h | h
 ·constructor
  ·by_cases e:x.a.toNat=x.b.toNat
   ·rw [if_pos e];simp [h]
   ·rw [if_neg e];simp [h]
  ·rw [if_pos rfl];simp [h]
 ·constructor
  ·by_cases e:x.a.toNat=x.b.toNat
   ·rw [if_pos e];simp [h]
   ·rw [if_neg e];simp [h]
  ·rw [if_pos rfl];simp [h]
theorem HP:∀(l:List AD)(c:HW),c i=true->l.foldl Ed c i=true
 | [],_,h=>h
 | x ::l,c,h=>HP l _ (Jh h)
theorem I5:∀(l:List AD)(c:HW),x ∈ l->(c x.a.toNat=true\/c x.b.toNat=true)->l.foldl Ed c x.a.toNat=true/\l.foldl Ed c x.b.toNat=true
 | y ::l,c,hx,h=>by
  rcases List.mem_cons.1 hx with e | hx
  ·subst e;have b:=UH h;exact ⟨HP l _ b.1,HP l _ b.2⟩
  ·exact I5 l _ hx (h.imp Jh Jh)
theorem Ji:∀n (c:HW),Dy ws (n+1) c=Gr ws (Dy ws n c)
 | 0,_=>rfl
 | n+1,c=>Ji n (Gr ws c)
theorem MN{m:Nat}(h:Dy ws n c i=true):∀d,m=n+d->Dy ws m c i=true
 | 0,e=>by rw [e];exact h
 | d+1,e=>by
  rw [e,show n+(d+1)=(n+d)+1 by omega,Ji];exact HP ws _ (MN h d rfl)
def c0:HW:=HW.none.set 0 true
def IX(ws:List AD)(l:List Int):Prop:=∀i,i<l.length->Dy ws i c0 (l.getD i 0).toNat=true
theorem IX.snoc{l:List Int}{q:Int}(h:IX ws l)(hq:Dy ws l.length c0 q.toNat=true):IX ws (l++[q]):=λi hi=>by
 rw [List.length_append,List.length_singleton] at hi;rw [O2];by_cases e:i<l.length
 ·rw [if_pos e];exact h i e
 ·rw [if_neg e,show i=l.length by omega,Nat.sub_self];exact hq
theorem IX.step{l:List Int}(h:IX ws l)(hk:k<l.length)(hx:x ∈ ws):IX ws (C2 l k x):=by
 have one:∀{l:List Int}{p q:Int},IX ws l->k<l.length->(x.a=p/\x.b=q\/x.b=p/\x.a=q)->IX ws (IL l k p q):=by
  intro l p q h hk hpq;unfold IL;split
  ·rename_i e
   have f:=h k hk;rw [<-e.1] at f;have g:Dy ws (k+1) c0 q.toNat=true:=by
    rw [Ji];rcases hpq with ⟨rfl,rfl⟩ | ⟨rfl,rfl⟩
    ·exact (I5 ws _ hx (.inl f)).2
    ·exact (I5 ws _ hx (.inr f)).1
   exact h.snoc (MN g (l.length-(k+1)) aA)
  ·exact h
 have h1:=one h hk (.inl ⟨rfl,rfl⟩);have hl:=(Kj l k x.a x.b).length_le;exact one h1 aA (.inr ⟨rfl,rfl⟩)
theorem IX.ways{l:List Int}(h:IX ws l)(hk:k<l.length):∀j,j<=ws.length->IX ws (Af ws l k j)
 | 0,_=>h
 | j+1,hj=>(IX.ways h hk j aA).step (Nat.lt_of_lt_of_le hk (IM j).length_le) (B0 aA)
theorem MO:∀k,IX ws (Ax ws k)
 | 0=>λi hi=>by
  have:i=0:=by
   have:i<1:=hi
   omega
  subst this;rfl
 | k+1=>by
  unfold Ax;split
  ·rename_i e;exact (MO k).ways e _ (Nat.le_refl _)
  ·exact MO k
theorem Sv(hn:0<np)(hw:PK np ws)(h:¬(G6 ws).length<np):E6 np ws=0:=by
 have ok:Hn np (G6 ws):=J6 hn hw 4;have hl:=ok.len;have all:∀y,y<np->Dy ws np c0 y=true:=λy hy=>by
  have mem:(y:Int) ∈ G6 ws:=Decidable.byContradiction λe=>by
   have:=(ok.snoc (x:=(y:Int)) ⟨aA,aA⟩ e).len
   rw [List.length_append,List.length_singleton] at this;omega
  obtain ⟨i,hi,e⟩:=List.mem_iff_getElem.1 mem;have f:Dy ws i c0 ((G6 ws).getD i 0).toNat=true:=MO (ws:=ws) 4 i hi;have e2:(G6 ws).getD i 0=(y:Int):=by
   rw [List.getD_eq_getElem?_getD,List.getElem?_eq_getElem hi];exact e
  rw [e2] at f;exact MN f (np-i) (by have hi':i<(G6 ws).length:=hi;omega)
 unfold E6;rw [if_neg];intro e;obtain ⟨b,hb,hf⟩:=List.any_eq_true.1 e;unfold Og at hb;obtain ⟨y,hy,rfl⟩:=List.mem_map.1 hb
 have:Dy ws np (HW.none.set 0 true) y=true:=all y (List.mem_range.1 hy)
 rw [this] at hf;cases hf
end
section
variable {bag kinds:Int} {ps:List ByteArray} {ws:List AD} {js:List AM} {ns:List AI}
theorem Vq(hn:0<ps.length)(h:FN ps.length ws=0):Eo ps.length ws=0:=by
 unfold FN at h;split at h
 ·cases h
 ·rename_i a
  split at h
  ·rename_i b;exact absurd h b
  ·rename_i b
   split at h
   ·cases h
   ·rename_i c
    unfold Eo;rw [if_neg a,if_neg b];have z:=DF (Decidable.not_not.1 b);exact Sv hn (waysOK λk hk=>z k (Nat.zero_le _) aA) c
theorem UI(h:Dm bag kinds ps ws js ns=0):BP bag kinds ps ws js ns=0:=by
 unfold Dm at h;split at h
 ·rename_i a;exact absurd h a
 ·rename_i a
  split at h
  ·rename_i b;exact absurd h b
  ·rename_i b
   split at h
   ·rename_i c;exact absurd h c
   ·rename_i c
    split at h
    ·rename_i d;exact absurd h d
    ·rename_i d
     have h1:=Decidable.not_not.1 a;have h2:=Decidable.not_not.1 b;have h3:=Vq (Jg h2).1 (Decidable.not_not.1 c);have h4:=Decidable.not_not.1 d;unfold BP;refine Bt (k:=5) (λj hj=>?_) (Nat.le_refl _)
     match j with
     | 0=>exact h1
     | 1=>exact h2
     | 2=>exact h3
     | 3=>exact h4
     | 4=>exact h
     | j+5=>omega
theorem fit9_ok(h:fit9 bag kinds ps ws js ns=true):BP bag kinds ps ws js ns=0/\∀k,(ps.getD k (⟨#[]⟩:ByteArray)).size<=1000:=by
 unfold fit9 at h;rw [Bool.and_eq_true] at h;exact ⟨UI (of_decide_eq_true h.2),Lc (by simpa using h.1)⟩
end
end Go.Ns
namespace Go.Ns
open Go.Conc
section
variable {P:Program} {E:GJ P} {O:Nat->Value} {ds:List Deferred} {h:GH} {T:(Nat->Value)->List Deferred->GH->Prop} {dst:Option Nat} {ty:TypeId} {pos:String} {af:Array Edge} {gd:Option (Nat×Bool)}
theorem ok_neqB{xt yt:TypeId}{x y:Operand}{a b:Bool}(hx:AN O x=.bool a)(hy:AN O y=.bool b)(he:Nm P 1 xt (.bool a) (.bool b)=some (a==b))(k:T (putS O dst (.bool (a !=b))) ds h):BT E ⟨dst,.binOp .neq xt x y yt,ty,pos,af,gd⟩ O ds h T:=by
 unfold BT execOp;simp only [hx,hy];refine Fb (AF _ _ ?_);have hg:∀(Q:Unit->GH->Prop),Q () h->(eqGuard .neq xt x y (.bool a) (.bool b)).gh P h Q:=λQ q=>q;refine hg _ ?_;show Sem.gh P (do pure (Value.bool (!(<-Op.equal xt (.bool a) (.bool b)))):Sem Value) h _;refine AF _ _ ?_;exact Hc 1 _ _ _ _ (a==b) h _ aC he k
end
section
variable {F G:AG->Int} {l:List AG} {x:AG}
end
section
variable {bag kinds:Int} {ps:List ByteArray} {ws:List AD} {js:List AM} {ns:List AI} {a b c:Int}
theorem Lf{ag:AG->Bool}:∀(f i:Nat)(p q:AG),i+f=ws.length+js.length->(∀k,k<i->k<ws.length->(ws.getD k AD.z).low<=p.ways k/\p.ways k<=(ws.getD k AD.z).high)->q ∈ CD ag ws js f i p->∀k,k<ws.length->(ws.getD k AD.z).low<=q.ways k/\q.ways k<=(ws.getD k AD.z).high
 | 0,i,p,q,hi,hp,hq,k,hk=>by
  have:q=p:=List.mem_singleton.1 hq
  subst this;exact hp k aA hk
 | f+1,i,p,q,hi,hp,hq,k,hk=>by
  obtain ⟨n,hn,hq⟩:=List.mem_flatMap.1 hq;split at hq
  ·cases hq
  ·refine Lf f (i+1) _ q aA (λj hj hjw=>?_) hq k hk;unfold AG.put;by_cases e:i<ws.length
   ·rw [if_pos e];show _<=(if j=i then n else p.ways j)/\(if j=i then n else p.ways j)<=_;by_cases e2:j=i
    ·subst e2;rw [if_pos rfl]
     have:=L5.1 hn
     unfold CK Eg at this;rw [if_pos e,if_pos e] at this;exact this
    ·rw [if_neg e2];exact hp j aA hjw
   ·rw [if_neg e];exact hp j aA hjw
theorem Yo{q:AG}(hq:q ∈ AB ws js ns){k:Nat}(hk:k<ws.length):(ws.getD k AD.z).low<=q.ways k/\q.ways k<=(ws.getD k AD.z).high:=by
 unfold AB at hq;split at hq
 ·exact Lf _ 0 _ q aA (λk hk=>absurd hk (Nat.not_lt_zero _)) hq k hk
 ·cases hq
theorem UJ(bk:BP bag kinds ps ws js ns=0):(AY bag kinds ps ws js ns 0=0/\0<(AB ws js ns).length)\/(AY bag kinds ps ws js ns 0=9/\(AB ws js ns).length=0):=by
 unfold AY;rw [if_neg (λe=>e bk),if_neg aD];by_cases e:(AB ws js ns).length=0
 ·rw [if_pos e];exact .inr ⟨rfl,e⟩
 ·rw [if_neg e];exact .inl ⟨rfl,aA⟩
end
section
variable {bag kinds:Int} {ps:List ByteArray} {ws:List AD} {js:List AM} {ns:List AI} {a b c s:Int}
end
end Go.Ns
namespace Go.Ns
open Go.Conc
section
variable {P:Program} {Post:Value->World->Prop}
def Xe(P:Program)(Post:Value->World->Prop):Wk P:=⟨true,Du P Post,KH⟩
theorem Sw:Kc (Xe P Post):=⟨Post,rfl⟩
theorem Yp{f:FuncId}{fn:Func}{c:Code}{args:Array Value}{h:GH}{R:Value->GH->Prop}(hf:P.funcs[f]? =some fn)(hb:fn.body=some c)(hsz:args.size<=fn.ntmps)(hin:P.inits.idxOf? f=none)(hpost:∀v h',R v h'->∀w,D2 w h'->Post v w)
  (x:Tr ⟨Xe P Post,f,none,fn.ntmps⟩ c (λi=>args.getD i undef) [] h (λe O ds h'=>(e=.normal\/e=.ret)/\GL P fn O R ds h')):Du P Post (G (Frame.enter P f args .normal) []) h:=by
 have e0:Frame.enter P f args .normal=Cf (Frame.enter P f args .normal) (args++Array.replicate (fn.ntmps-args.size) undef) [] [.code c]:=by
  simp [Frame.enter,Cf,hf,hb]
 rw [e0];let L:Lv:=λj t ds h'=>(j=none\/j=some .ret)/\∃O,BX t fn.ntmps O/\GL P fn O R ds h';have fin:∀O ds h' t k,BX t fn.ntmps O->GL P fn O R ds h'->(Xe P Post).K (G (EZ (Frame.enter P f args .normal) t ds k) []) h':=by
  intro O ds h' t k hs ho;refine Mg (W:=Xe P Post) (R:=R) hf (b:=Frame.enter P f args .normal) rfl (λt k v h h' hr hrun=>?_) ds h' t k hs ho;refine Uv rfl λw fw=>?_;obtain ⟨w',es,r1,r2⟩:=hrun w fw;refine ⟨v,w',seen P f es++ #[],h',?_,r2.sub (es':=seen P f es++ #[]) λe he=>?_,hpost v h' hr w' r2.fits⟩
  ·rw [KU];unfold unwind;have hfn:(EZ (Frame.enter P f args .normal) t [] k).fn=f:=rfl;have hk:(EZ (Frame.enter P f args .normal) t [] k).kind=.normal:=rfl;have hm:(EZ (Frame.enter P f args .normal) t [] k).mode=.returning:=rfl;have hd:(EZ (Frame.enter P f args .normal) t [] k).defers=[]:=rfl;have ht:(EZ (Frame.enter P f args .normal) t [] k).tmps=t:=rfl;simp only [hd,hm,hfn,hf,ht,r1,GStep.after,doReturn,hk,hin];rfl
  ·rw [Array.append_empty] at he;exact mem_seen he
 refine x (Frame.enter P f args .normal) [] [] L _ rfl rfl ⟨?_,?_,?_⟩ ⟨by simp;omega,λi=>?_⟩ ?_
 ·rintro t ds h' ⟨_,O,hs,ho⟩;exact Wk.go (EZ (Frame.enter P f args .normal) t ds []) (λw=>by rw [A5];simp [stepG.exec,Cf,EZ,G,Frame.enter]) (fin O ds h' t [] hs ho)
 ·rintro t ds h' k ⟨_,O,hs,ho⟩;exact Wk.go (EZ (Frame.enter P f args .normal) t ds (.code .ret ::k)) (λw=>by rw [A5];simp [stepG.exec,Cf,EZ,G,Frame.enter]) (fin O ds h' t _ hs ho)
 ·rintro id t ds h' k _ ⟨h1 | h1,_⟩ <;> cases h1
 ·by_cases hi:i<args.size
  ·simp [Array.getD_eq_getD_getElem?,Array.getElem?_append_left hi]
  ·simp only [Array.getD_eq_getD_getElem?];rw [Array.getElem?_append_right aA,Array.getElem?_eq_none (show args.size<=i by omega),Array.getElem?_replicate];split <;> rfl
 ·rintro e O ds h' ⟨he,ho⟩ t' ht';rcases he with rfl | rfl
  ·exact Wk.go (EZ (Frame.enter P f args .normal) t' ds []) (λw=>by rw [A5];simp [stepG.exec,Cf,EZ,G,Frame.enter]) (fin O ds h' t' [] ht' ho)
  ·exact ⟨.inr rfl,O,ht',ho⟩
def GH.of(W:World):GH:=λb=>(W.heap[b]?).map λo=>(false,o)
theorem GH.of_some{W:World}{b:Nat}{o:Obj}(h:W.heap[b]? =some o):GH.of W b=some (false,o):=by unfold GH.of;rw [h];rfl
theorem fits_of(W:World):D2 W (GH.of W):=λb p o h=>by
 unfold GH.of at h;cases e:W.heap[b]? with
 | none=>rw [e] at h;cases h
 | some x=>rw [e] at h;cases h;rfl
theorem kept_of{W w:World}{h:GH}(l:(GH.of W).Le h)(f:D2 w h){b:Nat}{o:Obj}(hb:W.heap[b]? =some o):w.heap[b]? =some o:=f b _ _ (l.keep (GH.of_some hb) rfl)
theorem Vr{g:Goroutine}{W:World}(hg:Du P Post g (GH.of W)):Bm P (Ik Post W.os W.output) (solo g W) #[]:=by
 have hno:∀k a,touchAt (#[]:Trace) k=some a->False:=λk a h=>by
  obtain ⟨op,h1,_⟩:=touch_of h;simp at h1
 refine hg #[g] W none (λ_=>0) #[] ⟨rfl,?_,fits_of W,?_,?_,λk a b hk=>(hno k a hk).elim,?_,λk a hk=>(hno k a hk).elim,λb p o k a _ _ hk=>(hno k a hk).elim⟩
 ·intro j x hj hx;rw [Array.getElem?_eq_none (by simp;omega)] at hx;cases hx
 ·intro op hop;simp at hop
 ·rintro said ⟨i,j,hij,⟨a,b,ha,_⟩,_⟩;exact hno i a ha
 ·intro op hop;simp at hop
end
end Go.Ns
namespace Go.Ns
open Go.Conc Go.ChangeShapes Go.WideShapes Go.ChangeAt Go.RowKit
section
variable {P:Program} {W:World}
theorem Vs{b off n:Nat}{cs:List Value}(h:W.cells? 0 ⟨b,off,none⟩ n=some cs)(hn:0<n):AZ (GH.of W) b off n cs.toArray:=by
 obtain ⟨_,hl,hc⟩:=World.cells?_some h;have hcell:∀i,i<n->W.cell? ⟨b,off+i,none⟩=cs[i]? :=λi hi=>by
  have:=hc i hi
  unfold Addr.add at this;split at this
  ·rename_i e;subst e;exact this
  ·exact this
 have h0:=hcell 0 hn;unfold World.cell? at h0;cases hb:W.heap[b]? with
 | none=>simp [hb,List.getElem?_eq_getElem (show 0<cs.length by omega)] at h0
 | some o=>
  cases o with
  | cells c t f=>
   have hall:∀i,i<n->c[off+i]? =cs[i]? :=λi hi=>by
    have:=hcell i hi
    unfold World.cell? at this;simpa [hb] using this
   have hlast:=hall (n-1) aA;rw [List.getElem?_eq_getElem (show n-1<cs.length by omega)] at hlast;have hsz:=(Array.getElem?_eq_some_iff.1 hlast).1;refine ⟨false,c,t,f,GH.of_some hb,aA,?_⟩;apply Array.ext
   ·simp;omega
   ·intro i h1 h2;have hi:i<n:=by simp at h2;omega
    have:=hall i hi
    rw [Array.getElem?_eq_getElem aA,List.getElem?_eq_getElem aA] at this;simpa using this
  | _=>simp [hb,List.getElem?_eq_getElem (show 0<cs.length by omega)] at h0
def MP(P:Program)(W:World)(e:TypeId){V:Type}(enc:V->Array Value)(good:V->Prop):Prop:=
 ∀{H:Type}(en:TypeId×Value->H)(sp:Nat->Bool)(held:Bool)(fuel:Nat)(cs:List Value)(x:DataW H×List MemPlace),DataW.trod en P W 0 sp held fuel e cs=some x->(∀y ∈ x.1.weights P e,y<=reachBytes)->∃a:V,cs=(enc a).toList/\good a
theorem Jj{H:Type}{e:TypeId}{d:DataW H}{y:Nat}:∀{l:List (DataW H)},d ∈ l->y ∈ d.weights P e->y ∈ DataW.weightsAll P e l
 | c ::l,hd,hy=>by
  unfold DataW.weightsAll;rcases List.mem_cons.1 hd with rfl | hd
  ·exact List.mem_append_left _ hy
  ·exact List.mem_append_right _ (Jj hd hy)
theorem IY{H:Type}{en:TypeId×Value->H}{sp:Nat->Bool}{held:Bool}{fuel:Nat}{t e:TypeId}{n:Nat}{V:Type}{enc:V->Array Value}{good:V->Prop}{v:Value}{d:DataW H}{ps:List MemPlace}(ht:P.underlying t=some (.slice e))(hc:P.cellsOf e=n)(hn:0<n)
  (hb:1<=P.bytesOf e) (ho:MP P W e enc good) (h:DataW.trod en P W 0 sp held fuel t [v]=some (d,ps)) (hw:∀y ∈ d.weights P t,y<=reachBytes):∃xs:List V,AE (GH.of W) v n enc xs/\∀x ∈ xs,good x:=by
 rcases DataW.trod_slice ht h with ⟨h1,_⟩ | ⟨a,len,cap,elems,rest,m,rfl,h1,h2,_,hl,_,hlen,hel,_,_⟩
 ·simp at h1;subst h1;exact ⟨[],AE.nil _ _ _,λx hx=>by cases hx⟩
 ·simp only [List.cons.injEq,and_true] at h1;subst h1;simp only [Prod.mk.injEq] at h2;have hd:d=.slice (elems.map (·.1)) (rest.map (·.1)):=h2.1;have hlim:len<=140737488355328:=by
   have:=hw ((elems.map (·.1)).length+(rest.map (·.1)).length |>.mul (P.bytesOf e)) (by rw [hd];unfold DataW.weights;rw [ht];exact List.mem_cons_self ..)
   have h3:(elems.map (·.1)).length+(rest.map (·.1)).length<=((elems.map (·.1)).length+(rest.map (·.1)).length)*P.bytesOf e:=Nat.le_mul_of_pos_right _ hb;have h4:((elems.map (·.1)).length+(rest.map (·.1)).length)*P.bytesOf e<=reachBytes:=this;rw [List.length_map] at h3 h4;unfold reachBytes at h4;omega
  have each:∀i,i<len->∃x:V,∃b off,a=⟨b,off,none⟩/\AZ (GH.of W) b (off+i*n) n (enc x)/\good x:=λi hi=>by
   have:=hel i hi
   rw [List.getElem?_eq_getElem aA,hc] at this;simp only [Option.bind_eq_some_iff] at this;obtain ⟨cs,hcs,hx⟩:=this;obtain ⟨x,e1,e2⟩:=ho _ _ _ _ _ _ hx λy hy=>hw y (by rw [hd];unfold DataW.weights;rw [ht];exact List.mem_cons_of_mem _ (List.mem_append_left _ (Jj (List.mem_map.2 ⟨_,List.getElem_mem (show i<elems.length by omega),rfl⟩) hy)));have hc0:=(World.cells?_some hcs).2.2 0 hn;have hlen2:=(World.cells?_some hcs).2.1;rw [List.getElem?_eq_getElem (show 0<cs.length by omega)] at hc0;have hsp:=World.cell?_spot hc0;obtain ⟨b,off,spot⟩:=a;have hspot:spot=none\/i≠0:=by
    by_cases e0:i=0
    ·subst e0;left;simpa [Addr.add] using hsp
    ·exact .inr e0
   have hfirst:spot=none:=by
    rcases hspot with e | e
    ·exact e
    ·have h00:=hel 0 aA;rw [List.getElem?_eq_getElem aA,hc] at h00;simp only [Option.bind_eq_some_iff] at h00;obtain ⟨c0,hc00,_⟩:=h00;have z:=(World.cells?_some hc00).2.2 0 hn;have zl:=(World.cells?_some hc00).2.1;rw [List.getElem?_eq_getElem (show 0<c0.length by omega)] at z
     have:=World.cell?_spot z
     simpa [Addr.add] using this
   subst hfirst;refine ⟨x,b,off,rfl,?_,e2⟩;have ea:(Addr.add ⟨b,off,none⟩ (i*n))=⟨b,off+i*n,none⟩:=by
    unfold Addr.add;split
    ·rename_i e;rw [e];rfl
    ·rfl
   rw [ea] at hcs
   have:=Vs hcs hn
   rw [e1] at this;simpa using this
  by_cases hz:len=0
  ·subst hz;exact ⟨[],⟨some a,cap,rfl,Nat.zero_le _,Nat.zero_le _,λi hi=>by simp at hi⟩,λx hx=>by cases hx⟩
  ·have hch:∀i:Fin len,∃x:V,∃b off,a=⟨b,off,none⟩/\AZ (GH.of W) b (off+i.val*n) n (enc x)/\good x:=λi=>each i.val i.isLt;refine ⟨List.ofFn λi=>Classical.choose (hch i),⟨some a,cap,by rw [List.length_ofFn],by rw [List.length_ofFn];exact hl,by rw [List.length_ofFn];exact hlim,λi hi=>?_⟩,λx hx=>?_⟩
   ·rw [List.length_ofFn] at hi;obtain ⟨b,off,e1,e2,_⟩:=Classical.choose_spec (hch ⟨i,hi⟩);refine ⟨b,off,by rw [e1],?_⟩;rw [List.getElem_ofFn];exact e2
   ·obtain ⟨i,rfl⟩:=List.mem_ofFn.1 hx;obtain ⟨_,_,_,_,e3⟩:=Classical.choose_spec (hch i);exact e3
theorem RN{H:Type}{en:TypeId×Value->H}{t:TypeId}(hl:laidOutB P=true)(hr:P.readableRec t=true)(hrow:t<P.types.size){W':World}{v:Value}{d:DataW H}{ps:List MemPlace}(h:DataW.Trod en P W 0 (λ_=>true) true t v d ps)
  (hk:∀(b:Nat)(o:Obj),W.heap[b]? =some o->W'.heap[b]? =some o) (hlt:∀x ∈ ps,x.block<W.heap.size):DataW.Trod en P W' 0 (λb=>decide (b<W.heap.size)) true t v d ps:=by
 let W2:World:={ W' with os:=W.os,tape:=W.tape,output:=W.output };have hsz:W.heap.size<=W'.heap.size:=by
  rcases Nat.lt_or_ge W'.heap.size W.heap.size with x | x
  ·have:=hk W'.heap.size _ (Array.getElem?_eq_getElem x)
   rw [Array.getElem?_eq_none (Nat.le_refl _)] at this;cases this
  ·exact x
 have hb:Below W.heap.size W W2:=⟨rfl,rfl,rfl,hsz,λk hk'=>by
  show W'.heap[k]? =_;rw [Array.getElem?_eq_getElem hk'];exact hk k _ (Array.getElem?_eq_getElem hk')⟩
 exact DataW.Trod.of_heap (w:=W2) (w':=W') rfl (Below.trod hl hr hrow h hb hlt)
theorem kept_but{W':World}(hk:∀(b:Nat)(o:Obj),W.heap[b]? =some o->W'.heap[b]? =some o)(ho:W'.os=W.os)(hp:W'.output=W.output)(may:MemPlace->Prop):W.keptBut W' may:=by
 refine ⟨ho,hp,λi hi=>?_⟩;rw [hk i _ (Array.getElem?_eq_getElem hi),Array.getElem?_eq_getElem hi];split <;> simp_all
end
end Go.Ns
namespace Go.Ns
open Go.Conc
theorem Vt{P:Program}{E:GJ P}{O:Nat->Value}{ds:List Deferred}{h:GH}{T:(Nat->Value)->List Deferred->GH->Prop}{dst:Option Nat}{ty:TypeId}{pos:String}{af:Array Edge}{gd:Option (Nat×Bool)}{V:Type}
  {s x:TypeId} {o1 o2:Operand} {h0:GH} {w:Value} {r e n bytes:Nat} {enc:V->Array Value} {ys:List V} (ht:IR P s x=some (e,n,bytes)) (h1:AN O o1=.slice (some ⟨r,0,none⟩) 0 0) (h2:AN O o2=w)
  (hv:AR h0 h (.slice (some ⟨r,0,none⟩) 0 0) e n enc ([]:List V)) (hw:AE h w n enc ys) (l0:∀q,h q=none->h0 q=none) (hb:(2*(([]:List V).length+ys.length)+512)*bytes<=2 ^ 48) (hfine:∀y ∈ ys,(enc y).toList.all (·.oneCell')=true)
  (k:∀v' h',AR h0 h' v' e n enc ys->HA h h' (.slice (some ⟨r,0,none⟩) 0 0) v'->h.Le h'->T (putS O dst v') ds h'):BT E ⟨dst,.call ⟨.builtin .append,#[o1,o2],#[s,x]⟩,ty,pos,af,gd⟩ O ds h T:=
 OB ht h1 h2 hv hw l0 hb hfine λv' h' o g1 g2 g3=>k v' h' o ⟨g1,g2⟩ (.of λb y hb=>by
  by_cases e:b=r
  ·subst e;rcases hv with ⟨q,_⟩ | ⟨b1,cap,c,q,_,q2,q3,_⟩
   ·cases q
   ·simp only [Value.slice.injEq,Option.some.injEq,Addr.mk.injEq,and_true] at q;obtain ⟨rfl,_,rfl⟩:=q;obtain ⟨c',q5,q6⟩:=g3 b c rfl q2;rw [q2] at hb;cases hb;rw [q5,Array.eq_empty_of_size_eq_zero (show c.size=0 by omega),Array.eq_empty_of_size_eq_zero (show c'.size=0 by omega)]
  ·exact g1 b y hb λq=>e (by simpa [CX] using q.symm))
section
variable {n i:Nat} {l kn rest:List Int}
end
section
variable {n:Nat} {a b:List Sl}
end
section
variable {l:List Int} {i q:Nat}
end
section
variable {bag kinds:Int} {ps:List ByteArray} {ws:List AD} {js:List AM} {ns:List AI} {l:List Int} {p:AG} {i:Nat}
end
section
variable {F G:AG->Int} {l:List AG}
end
section
variable {bag kinds:Int} {ps:List ByteArray} {ws:List AD} {js:List AM} {ns:List AI} {l:List Int} {i k:Nat}
end
end Go.Ns
namespace Go.Ns
section
variable {bag kinds:Int} {ps:List ByteArray} {ws:List AD} {js:List AM} {ns:List AI} {r l:List Int} {i k:Nat} {s:Int}
end
end Go.Ns
namespace Go.Ns
section
variable {a b c:List Int} {x y:Int}
end
section
variable {jobs l r:List Int} {f n:Nat}
end
section
variable {g pre:List (List Int)} {x:List Int}
end
section
variable {G:List Int->Int} {l:List (List Int)}
end
end Go.Ns
namespace Go.Ns
open Go.Conc Go Go.RowKit
section
variable {P:Program} {E:GJ P} {O:Nat->Value} {ds:List Deferred} {h:GH} {T:(Nat->Value)->List Deferred->GH->Prop} {dst:Option Nat} {ty:TypeId} {pos:String} {af:Array Edge} {gd:Option (Nat×Bool)}
end
section
variable {ns:List AI} {l:List Int} {k:Nat} {h:GH}
end
section
variable {bag kinds:Int} {ps:List ByteArray} {ws:List AD} {js:List AM} {ns:List AI}
theorem bell_of(b:Bc bag kinds ps ws js ns):BP bag kinds ps ws js ns=0:=by
 refine Bt (k:=5) (λj hj=>?_) (Nat.le_refl _)
 match j with
 | 0=>exact if_neg (by have:=b.hbag;have:=b.hkin;omega)
 | 1=>exact (if_neg (by have:=b.plen;omega)).trans (Bt b.place (Nat.le_refl _))
 | 2=>exact (LO (by have:=b.wlen;omega) b.way (Nat.le_refl _)).trans b.led
 | 3=>exact (if_neg (by have:=b.jlen;omega)).trans (Bt b.job (Nat.le_refl _))
 | 4=>exact (if_neg (by have:=b.nlen;omega)).trans (Bt b.note (Nat.le_refl _))
 | j+5=>omega
theorem UK(hz:BP bag kinds ps ws js ns=0):Kf bag kinds ps ws js ns=((AB ws js ns).length:Int):=if_pos hz
end
end Go.Ns
namespace Go.Ns
open Go.Conc
def timed(ws:List AD)(i:Nat)(lo hi:Int):List AD:=ws.set i ⟨(ws.getD i AD.z).a,(ws.getD i AD.z).b,lo,hi⟩
def RO(x:AD):Int×Int:=(x.a,x.b)
section
variable {ws ws':List AD} {js:List AM} {ns:List AI} {i k np:Nat} {lo hi n:Int} {p q:AG} {ag:AG->Bool}
theorem EV:(timed ws i lo hi).length=ws.length:=List.length_set
theorem J8(k:Nat):(timed ws i lo hi).getD k AD.z=if k=i/\i<ws.length then ⟨(ws.getD i AD.z).a,(ws.getD i AD.z).b,lo,hi⟩ else ws.getD k AD.z:=by
 unfold timed;rw [List.getD_eq_getElem?_getD,List.getElem?_set];by_cases h:i=k
 ·subst h;by_cases h2:i<ws.length
  ·rw [if_pos rfl,if_pos h2,if_pos ⟨rfl,h2⟩];rfl
  ·rw [if_pos rfl,if_neg h2,if_neg (λq=>h2 q.2),CJ aA];rfl
 ·rw [if_neg h,if_neg (λq=>h q.1.symm),<-List.getD_eq_getElem?_getD]
theorem UL:(timed ws i lo hi).map RO=ws.map RO:=by
 apply List.ext_getElem
 ·rw [List.length_map,List.length_map,EV]
 ·intro k h1 h2;rw [List.getElem_map,List.getElem_map];have e:=J8 (ws:=ws) (i:=i) (lo:=lo) (hi:=hi) k;rw [List.length_map] at h1 h2;rw [DU AD.z h1,DU AD.z h2] at e;rw [e];split
  ·rename_i c
   obtain ⟨rfl,c⟩:=c;rw [DU AD.z h2];rfl
  ·rfl
theorem PM:∀{ws ws':List AD}(c:HW),ws'.map RO=ws.map RO->ws'.foldl Ed c=ws.foldl Ed c
 | [],[],c,_=>rfl
 | x ::ws,y ::ws',c,h=>by
  rw [List.map_cons,List.map_cons] at h;have h1:=(List.cons.inj h).1;have e:Ed c y=Ed c x:=by
   unfold Ed;rw [show y.a=x.a from congrArg Prod.fst h1,show y.b=x.b from congrArg Prod.snd h1]
  rw [List.foldl_cons,List.foldl_cons,e];exact PM _ (List.cons.inj h).2
 | [],_ ::_,c,h=>(by cases h)
 | _ ::_,[],c,h=>(by cases h)
theorem RP(h:ws'.map RO=ws.map RO):∀n c,Dy ws' n c=Dy ws n c
 | 0,c=>rfl
 | n+1,c=>by
  show Dy ws' n (ws'.foldl Ed c)=Dy ws n (ws.foldl Ed c);rw [PM c h];exact RP h n _
theorem led_ab(h:ws'.map RO=ws.map RO):E6 np ws'=E6 np ws:=by
 unfold E6;rw [RP h]
theorem any_ab{f:Int×Int->Bool}:∀{ws ws':List AD}(k:Nat),ws'.map RO=ws.map RO->(ws'.take k).any (λy=>f (RO y))=(ws.take k).any (λy=>f (RO y)):=λ{ws ws'} k h=>by
 have e:∀l:List AD,l.any (λy=>f (RO y))=(l.map RO).any f:=λl=>by rw [List.any_map];rfl
 rw [e,e,List.map_take,List.map_take,h]
theorem wayAt_ab(h:ws'.map RO=ws.map RO)(hk:k<ws.length)(h0:Cy np ws k=0)(hs:HD (ws'.getD k AD.z).low (ws'.getD k AD.z).high 30 2):Cy np ws' k=0:=by
 have hl:ws'.length=ws.length:=by have:=congrArg List.length h;simpa using this
 have e:RO (ws'.getD k AD.z)=RO (ws.getD k AD.z):=by
  have:(ws'.map RO).getD k (0,0)=(ws.map RO).getD k (0,0):=by rw [h]
  rw [DU (0,0) (by rw [List.length_map];omega),DU (0,0) (by rw [List.length_map];omega),List.getElem_map,List.getElem_map] at this;rw [DU AD.z aA,DU AD.z hk];exact this
 have ea:(ws'.getD k AD.z).a=(ws.getD k AD.z).a:=congrArg Prod.fst e;have eb:(ws'.getD k AD.z).b=(ws.getD k AD.z).b:=congrArg Prod.snd e;have f:=any_ab (f:=λz=>decide (z.1=(ws.getD k AD.z).a/\z.2=(ws.getD k AD.z).b)) k h;have f2:(ws'.take k).any (λy=>decide (y.a=(ws.getD k AD.z).a/\y.b=(ws.getD k AD.z).b))=(ws.take k).any (λy=>decide (y.a=(ws.getD k AD.z).a/\y.b=(ws.getD k AD.z).b)):=f;unfold Cy at h0 ⊢;rw [ea,eb,f2];split at h0
 ·rename_i a;exact absurd h0 a
 ·rename_i a
  rw [if_neg a];split at h0
  ·cases h0
  ·rename_i b
   rw [if_neg b];split at h0
   ·cases h0
   ·rename_i c
    rw [if_neg c,if_neg (λq=>q hs)]
theorem Bc.timed{bag kinds:Int}{ps:List ByteArray}(b:Bc bag kinds ps ws js ns)(hs:HD lo hi 30 2):Bc bag kinds ps (timed ws i lo hi) js ns:=
 { b with
  wlen:=by rw [EV];exact b.wlen
  way:=λk hk=>by
   rw [EV] at hk;refine wayAt_ab UL hk (b.way k hk) ?_;rw [J8];split
   ·exact hs
   ·have:=(LN b.way k hk).time
    unfold HD;omega
  led:=by rw [led_ab UL];exact b.led
  note:=λk hk=>by rw [EV];exact b.note k hk }
theorem Nx(h:k≠i):CK (timed ws i lo hi) js k=CK ws js k/\Eg (timed ws i lo hi) js k=Eg ws js k:=by
 have e:=J8 (ws:=ws) (i:=i) (lo:=lo) (hi:=hi) k;rw [if_neg (λq=>h q.1)] at e;unfold CK Eg;rw [EV,e];exact ⟨rfl,rfl⟩
theorem Xf(h:i<ws.length):CK (timed ws i n n) js i=n/\Eg (timed ws i n n) js i=n:=by
 unfold CK Eg;rw [EV,if_pos h,if_pos h,J8,if_pos ⟨rfl,h⟩];exact ⟨rfl,rfl⟩
theorem KP:∀(f k:Nat)(p:AG),i<k->∀q ∈ CD ag ws js f k p,q.ways i=p.ways i
 | 0,k,p,_,q,hq=>by rw [List.mem_singleton.1 hq]
 | f+1,k,p,hk,q,hq=>by
  obtain ⟨m,_,hq⟩:=List.mem_flatMap.1 hq;split at hq
  ·cases hq
  ·rw [KP f (k+1) _ aA q hq];unfold AG.put;split
   ·show (if i=k then m else p.ways i)=_;rw [if_neg aA]
   ·rfl
theorem KQ:∀(f k:Nat)(p:AG),i<k->CD ag (timed ws i lo hi) js f k p=CD ag ws js f k p
 | 0,_,_,_=>rfl
 | f+1,k,p,hk=>by
  rw [DZ,DZ,(Nx aA).1,(Nx aA).2];congr 1;funext m;unfold Bu;rw [EV,KQ f (k+1) _ aA]
theorem NM{β:Type}{F:Int->List β}:∀{l:List Int},l.Nodup->n ∈ l->(∀m ∈ l,m≠n->F m=[])->l.flatMap F=F n
 | x ::l,hd,hm,h0=>by
  rw [List.flatMap_cons];have hd2:=List.nodup_cons.1 hd;by_cases e:x=n
  ·subst e;rw [List.flatMap_eq_nil_iff.2 λm hm2=>h0 m (List.mem_cons_of_mem _ hm2) λq=>hd2.1 (q▸hm2),List.append_nil]
  ·rw [h0 x List.mem_cons_self e,List.nil_append];exact NM hd2.2 ((List.mem_cons.1 hm).resolve_left λq=>e q.symm) λm hm2=>h0 m (List.mem_cons_of_mem _ hm2)
theorem UM(lo hi:Int):(Gn lo hi).Nodup:=by
 unfold Gn Cd;refine List.nodup_iff_pairwise_ne.2 ?_;rw [List.pairwise_map];exact List.nodup_range.imp λ{a b} h e=>h aA
theorem Yq(n:Int):Gn n n=[n]:=by
 unfold Gn;rw [show (n-n+1).toNat=1 by omega];show [n+((0:Nat):Int)]=[n];rw [show n+((0:Nat):Int)=n by omega]
theorem Jk(hi:i<ws.length)(hn:(ws.getD i AD.z).low<=n/\n<=(ws.getD i AD.z).high):∀(f k:Nat)(p:AG),k<=i->k+f=ws.length+js.length->CD ag (timed ws i n n) js f k p=(CD ag ws js f k p).filter (λx=>decide (x.ways i=n))
 | 0,k,p,h1,h2=>aA
 | f+1,k,p,h1,h2=>by
  rw [DZ,DZ,List.filter_flatMap];by_cases e:k=i
  ·subst e;rw [(Xf hi).1,(Xf hi).2,Yq,List.flatMap_cons,List.flatMap_nil,List.append_nil];have all:∀m,∀q ∈ Bu ag ws js f k p m,q.ways k=m:=λm q hq=>by
    unfold Bu at hq;split at hq
    ·cases hq
    ·rw [KP f (k+1) _ aA q hq];unfold AG.put;rw [if_pos hi];show (if k=k then m else p.ways k)=m;rw [if_pos rfl]
   rw [NM (n:=n) (UM _ _) ?_ ?_]
   ·rw [List.filter_eq_self.2 λq hq=>decide_eq_true (all n q hq)];unfold Bu;rw [EV,KQ f (k+1) _ aA]
   ·rw [L5];unfold CK Eg;rw [if_pos hi,if_pos hi];exact hn
   ·intro m _ hm;exact List.filter_eq_nil_iff.2 λq hq=>by rw [all m q hq];simpa using hm
  ·rw [(Nx e).1,(Nx e).2];congr 1;funext m;unfold Bu;rw [EV];split
   ·rfl
   ·exact Jk hi hn f (k+1) _ aA aA
theorem UN(hi:i<ws.length)(hn:(ws.getD i AD.z).low<=n/\n<=(ws.getD i AD.z).high):AB (timed ws i n n) js ns=(AB ws js ns).filter (λx=>decide (x.ways i=n)):=by
 unfold AB;rw [EV,if_pos (.inl aA),if_pos (.inl aA)];exact Jk hi hn _ 0 _ (Nat.zero_le _) aA
end
theorem Vu(f:Nat->Int):∀(k:Nat)(b:Int),(De f k b).getD 0=(((List.range k).filter λi=>decide (f i=b)).length:Int)
 | 0,b=>by simp [De]
 | k+1,b=>by
  rw [List.range_succ,List.filter_append,List.length_append];unfold De;by_cases e:b=f k
  ·rw [if_pos e,Vu f k (f k),<-e];simp [e]
  ·rw [if_neg e,Vu f k b,List.filter_cons,if_neg (by simpa using λq=>e q.symm)];simp
theorem top_ge(f:Nat->Int):∀(n:Nat)(b:Int),(De f n b).getD 0<=Fj f n
 | 0,b=>by simp [De,Fj]
 | k+1,b=>by
  have ih:=top_ge f k b;by_cases e:b=f k
  ·subst e;unfold Fj;omega
  ·have:De f (k+1) b=De f k b:=by
    show (if b=f k then _ else _)=_;rw [if_neg e]
   rw [this];unfold Fj;omega
theorem top_le(f:Nat->Int){M:Int}(h0:0<=M):∀(n:Nat),(∀k,k<=n->∀j,j<k->(De f k (f j)).getD 0<=M)->Fj f n<=M
 | 0,_=>h0
 | n+1,h=>by
  have ih:=top_le f h0 n λk hk=>h k aA
  have:=h (n+1) (Nat.le_refl _) n (Nat.lt_succ_self _)
  unfold Fj;omega
theorem UO{V:Type}(z:V)(p:V->Bool)(l:List V):(l.filter p).length=((List.range l.length).filter λi=>p (l.getD i z)).length:=by
 have e:l=(List.range l.length).map λi=>l.getD i z:=by
  refine List.ext_getElem aD λi h1 h2=>?_;simp [List.getD_eq_getElem?_getD,h1]
 conv=>lhs;rw [e]
 rw [List.filter_map,List.length_map];rfl
section
variable {ws:List AD} {js:List AM} {ns:List AI} {i k:Nat} {n:Int}
variable (ws js ns) in
def ED(i:Nat):Nat->Int
 | 0=>0
 | k+1=>max (ED i k) ((AB (timed ws i ((ws.getD i AD.z).low+(k:Int)) ((ws.getD i AD.z).low+(k:Int))) js ns).length:Int)
theorem RQ(pq:List AG)(i:Nat)(b:Int):(De (IW pq i) pq.length b).getD 0=((pq.filter λx=>decide (x.ways i=b)).length:Int):=by
 rw [Vu,UO AG.zero]
theorem UP(f:Nat->Int)(b:Int):∀d k,(De f k b).getD 0<=(De f (k+d) b).getD 0
 | 0,k=>Int.le_refl _
 | d+1,k=>by
  have ih:=UP f b d k;have h:=Gq f (k+d) b
  have:(De f (k+d) b).getD 0<=(De f (k+d+1) b).getD 0:=by
   show _<=(if b=f (k+d) then some ((De f (k+d) (f (k+d))).getD 0+1) else De f (k+d) b).getD 0;split
   ·rename_i e;rw [<-e];show _<=(De f (k+d) b).getD 0+1;omega
   ·exact Int.le_refl _
  exact Int.le_trans ih this
theorem I6(hi:i<ws.length):∀k:Nat,(k:Int)<=(ws.getD i AD.z).high-(ws.getD i AD.z).low+1->(0<=ED ws js ns i k/\ED ws js ns i k<=C5 (AB ws js ns) i)/\∀j:Nat,j<k->(((AB ws js ns).filter λx=>decide (x.ways i=(ws.getD i AD.z).low+(j:Int))).length:Int)<=ED ws js ns i k
 | 0,_=>⟨⟨Int.le_refl _,(Jb _ _).1⟩,λj hj=>absurd hj (Nat.not_lt_zero _)⟩
 | k+1,hk=>by
  obtain ⟨⟨h1,h2⟩,h3⟩:=I6 hi k aA;have e:(AB (timed ws i ((ws.getD i AD.z).low+(k:Int)) ((ws.getD i AD.z).low+(k:Int))) js ns).length=((AB ws js ns).filter λx=>decide (x.ways i=(ws.getD i AD.z).low+(k:Int))).length:=by rw [UN hi aA]
  have w:(((AB ws js ns).filter λx=>decide (x.ways i=(ws.getD i AD.z).low+(k:Int))).length:Int)<=C5 (AB ws js ns) i:=by
   rw [<-RQ];exact top_ge _ _ _
  unfold ED;rw [e];refine ⟨aA,λj hj=>?_⟩;rcases Nat.lt_or_ge j k with z | z
  ·have:=h3 j z;omega
  ·rw [show j=k by omega];omega
theorem Yr(bk:∀x ∈ AB ws js ns,(ws.getD i AD.z).low<=x.ways i/\x.ways i<=(ws.getD i AD.z).high)(hi:i<ws.length)(hk:(k:Int)<=(ws.getD i AD.z).high-(ws.getD i AD.z).low+1)(hk2:¬(ws.getD i AD.z).low+(k:Int)<=(ws.getD i AD.z).high):ED ws js ns i k=C5 (AB ws js ns) i:=by
 obtain ⟨⟨h1,h2⟩,h3⟩:=I6 (js:=js) (ns:=ns) hi k hk;refine Int.le_antisymm h2 (top_le _ h1 _ λq hq j hj=>?_);have hm:(AB ws js ns).getD j AG.zero ∈ AB ws js ns:=B0 aA;have r:=bk _ hm;have m:=UP (IW (AB ws js ns) i) (IW (AB ws js ns) i j) ((AB ws js ns).length-q) q;rw [show q+((AB ws js ns).length-q)=(AB ws js ns).length by omega,RQ] at m;have a:=h3 (((AB ws js ns).getD j AG.zero).ways i-(ws.getD i AD.z).low).toNat aA;rw [show (ws.getD i AD.z).low+(((((AB ws js ns).getD j AG.zero).ways i-(ws.getD i AD.z).low).toNat:Nat):Int)=((AB ws js ns).getD j AG.zero).ways i by omega] at a;exact Int.le_trans m a
end
theorem Sx(w:Nat->Int)(n:Int):∀K:Nat,((LJ w n K).1= -1/\(LJ w n K).2=n/\∀k,k<K->n<=w k)\/∃k,k<K/\(LJ w n K).1=(k:Int)/\(LJ w n K).2=w k/\w k<n/\∀j,j<K->w k<=w j/\(j<k->w k<w j)
 | 0=>.inl ⟨rfl,rfl,λk hk=>aA⟩
 | K+1=>by
  unfold LJ;by_cases h:w K<(LJ w n K).2
  ·rw [if_pos h];refine .inr ⟨K,aA,rfl,rfl,?_⟩;rcases Sx w n K with ⟨_,e,e3⟩ | ⟨k,_,_,e,hk,e3⟩
   ·rw [e] at h;exact ⟨h,λj hj=>by
     by_cases z:j=K
     ·subst z;exact ⟨Int.le_refl _,λq=>absurd q (Nat.lt_irrefl _)⟩
     ·have:=e3 j aA;exact ⟨aA,λ_=>aA⟩⟩
   ·rw [e] at h;exact ⟨aA,λj hj=>by
     by_cases z:j=K
     ·subst z;exact ⟨Int.le_refl _,λq=>absurd q (Nat.lt_irrefl _)⟩
     ·have:=(e3 j aA).1;exact ⟨aA,λ_=>aA⟩⟩
  ·rw [if_neg h];rcases Sx w n K with ⟨e1,e2,e3⟩ | ⟨k,hk,e1,e2,e4,e3⟩
   ·refine .inl ⟨e1,e2,λk hk=>?_⟩;by_cases e:k=K
    ·subst e;omega
    ·exact e3 k aA
   ·refine .inr ⟨k,aA,e1,e2,e4,λj hj=>?_⟩;by_cases z:j=K
    ·subst z;exact ⟨aA,λq=>aA⟩
    ·exact e3 j aA
section
variable {bag kinds:Int} {ps:List ByteArray} {ws:List AD} {js:List AM} {ns:List AI} {i:Nat} {lo hi x:Int}
theorem PN(hz:BP bag kinds ps ws js ns=0)(hs:HD lo hi 30 2):BP bag kinds ps (timed ws i lo hi) js ns=0:=bell_of ((Ck hz).timed hs)
theorem Vv(hz:BP bag kinds ps ws js ns=0)(hi:i<ws.length):∀x ∈ AB ws js ns,(ws.getD i AD.z).low<=x.ways i/\x.ways i<=(ws.getD i AD.z).high:=λx hx=>Yo hx hi
theorem Vw(h0:AY bag kinds ps ws js ns 0=0):(Ak bag kinds ps ws js ns= -1/\Av bag kinds ps ws js ns=((AB ws js ns).length:Int)/\∀k,k<ws.length->((AB ws js ns).length:Int)<=C5 (AB ws js ns) k)\/
  ∃k,k<ws.length/\Ak bag kinds ps ws js ns=(k:Int)/\Av bag kinds ps ws js ns=C5 (AB ws js ns) k/\C5 (AB ws js ns) k<((AB ws js ns).length:Int)/\∀j,j<ws.length->C5 (AB ws js ns) k<=C5 (AB ws js ns) j/\(j<k->C5 (AB ws js ns) k<C5 (AB ws js ns) j):=by
 unfold Ak Av;rw [if_neg (λe=>e h0),if_neg (λe=>e h0)];exact Sx (C5 (AB ws js ns)) _ ws.length
theorem Ys(h0:AY bag kinds ps ws js ns 0=0): -1<=Ak bag kinds ps ws js ns/\Ak bag kinds ps ws js ns<=(ws.length:Int)-1/\(Ak bag kinds ps ws js ns<0->Av bag kinds ps ws js ns=((AB ws js ns).length:Int))/\(0<=Ak bag kinds ps ws js ns->Av bag kinds ps ws js ns<((AB ws js ns).length:Int)):=by
 rcases Vw h0 with ⟨e1,e2,_⟩ | ⟨k,hk,e1,e2,e3,_⟩ <;> omega
theorem Yt(h0:AY bag kinds ps ws js ns 0=0){k:Nat}(hk:k<ws.length):Av bag kinds ps ws js ns<=C5 (AB ws js ns) k/\(0<=Ak bag kinds ps ws js ns->(k:Int)<Ak bag kinds ps ws js ns->Av bag kinds ps ws js ns<C5 (AB ws js ns) k):=by
 rcases Vw h0 with ⟨e1,e2,e3⟩ | ⟨q,hq,e1,e2,e3,e4⟩
 ·have:=e3 k hk;omega
 ·have:=e4 k hk;omega
theorem PO(h0:AY bag kinds ps ws js ns 0=0)(h:0<=Ak bag kinds ps ws js ns):C5 (AB ws js ns) (Ak bag kinds ps ws js ns).toNat=Av bag kinds ps ws js ns:=by
 rcases Vw h0 with ⟨e1,e2,e3⟩ | ⟨q,hq,e1,e2,e3,e4⟩
 ·omega
 ·rw [e1,e2];rfl
theorem Vx(h0:¬AY bag kinds ps ws js ns 0=0):Ak bag kinds ps ws js ns=0/\Av bag kinds ps ws js ns=0:=by
 unfold Ak Av;rw [if_pos h0,if_pos h0];exact ⟨rfl,rfl⟩
theorem asked_q(hz:BP bag kinds ps ws js ns=0):((decide (AY bag kinds ps ws js ns 0=0)) !=(decide (0<((AB ws js ns).length:Int))))=false:=by
 rcases UJ hz with ⟨h1,h2⟩ | ⟨h1,h2⟩
 ·rw [h1,decide_eq_true rfl,decide_eq_true aA];rfl
 ·rw [h1,h2];rfl
end
end Go.Ns
namespace Go.Ns
open Go.Conc
universe u
theorem Z{V:Sort u}{a:V}:a=a:=rfl
theorem Lr{h:GH}:GH.Le h h:=GH.Le.refl h
theorem Ln{h h':GH}(l:h.Le h'){r:Nat}(hr:h' r=none):h r=none:=l.nothing hr
theorem Ca{h:GH}{b r:Nat}{p:Bool}{o:Obj}(hb:h b=some (p,o))(hr:h r=none):b≠r:=GH.ne_of hb hr
theorem Nb{a b:Nat}(h:Nat.ble a b=true):a<=b:=Nat.le_of_ble_eq_true h
theorem Dn{p:Prop}[Decidable p](h:¬¬p):p:=Decidable.not_not.1 h
theorem Et{V:Sort u}{a b c:V}(x:a=b)(y:b=c):a=c:=x.trans y
theorem Kl{h0 h:GH}(k:KeepD (λb=>h0 b=none) h0 h):h0.Le h:=k.leOf
theorem Bx{h:GH}{b:Nat}{p:Bool}{c:Array Value}{t:TypeId}{f:Nat×Nat}(hb:h b=some (p,.cells c t f)){n:Nat}(hn:c.size=n):AZ h b 0 n c:=AZ.box hb hn
abbrev lE(v:Value):Law2:=λ_ u _=>u=v
abbrev lF(v:Value):QN:=λu _=>u=v
abbrev zP:Array Value:=#[.int .i64 0,.int .i64 0,.slice none 0 0,.slice none 0 0,.slice none 0 0,.slice none 0 0,.map none]
section
variable {P:Program} {E:GJ P} {O:Nat->Value} {ds:List Deferred} {h:GH} {Q:Post} {T:(Nat->Value)->List Deferred->GH->Prop}
variable {dst:Option Nat} {ty:TypeId} {pos:String} {af:Array Edge} {ops:Array Oper} {o:Oper} {l:List Oper}
theorem Sq{x y:Code}(a:Tr E x O ds h (λe σ' ds' h'=>match e with | .normal=>Tr E y σ' ds' h' Q | e=>Q e σ' ds' h')):Tr E (.seq x y) O ds h Q:=tr_seq a
theorem Rg{id:Nat}{l:List Oper}(a:DE E l.toArray l O ds h Q):Tr E (.region id l.toArray false) O ds h Q:=Xo a
theorem Nl(q:Q .normal O ds h):DE E ops [] O ds h Q:=trL_nil q
abbrev Rt:=@tr_ret
abbrev Bk:=@tr_block
abbrev Sk:=@tr_skip
abbrev Xt:=@tr_exit
def plainB(N:Nat)(o:Oper):Bool:=o.guard.isNone && !Cv o.op && Cs o.dst N
theorem Pl(hp:plainB E.N o=true)(x:BT E o O ds h λσ' ds' h'=>DE E ops l σ' ds' h' Q):DE E ops (o ::l) O ds h Q:=by
 simp only [plainB,Bool.and_eq_true,Option.isNone_iff_eq_none,Bool.not_eq_true'] at hp;exact GM hp.1.1 hp.1.2 hp.2 x
theorem Mv{x:Operand}(v:Value)(hp:Cs dst E.N=true)(hx:AN O x=v)(k:DE E ops l (putS O dst v) ds h Q):DE E ops (⟨dst,.move x,ty,pos,af,none⟩ ::l) O ds h Q:=GM rfl rfl hp (R7 hx k)
theorem As{x:Operand}(v:Value)(hp:Cs dst E.N=true)(hx:AN O x=v)(k:DE E ops l (putS O dst v) ds h Q):DE E ops (⟨dst,.assign x,ty,pos,af,none⟩ ::l) O ds h Q:=GM rfl rfl hp (Jy hx k)
theorem Ld{t:TypeId}{x:Operand}{b off:Nat}(v:Value)(hp:Cs dst E.N=true)(hx:AN O x=.pointer (some ⟨b,off,none⟩))(hr:Rd P h t b off v)(k:DE E ops l (putS O dst v) ds h Q):DE E ops (⟨dst,.load t x,ty,pos,af,none⟩ ::l) O ds h Q:=
 GM rfl rfl hp (DA hx hr k)
theorem Fa{s:TypeId}{x:Operand}{f o b off:Nat}(hf:Dq P s f=some o)(hp:Cs dst E.N=true)(hx:AN O x=.pointer (some ⟨b,off,none⟩))(k:DE E ops l (putS O dst (.pointer (some ⟨b,off+o,none⟩))) ds h Q) :
  DE E ops (⟨dst,.fieldAddr s x f,ty,pos,af,none⟩ ::l) O ds h Q:=GM rfl rfl hp (AO hf hx k)
theorem Pk{c a b:Operand}(t:Bool)(v:Value)(hp:Cs dst E.N=true)(hc:AN O c=.bool t)(hv:(if t then AN O a else AN O b)=v)(k:DE E ops l (putS O dst v) ds h Q):DE E ops (⟨dst,.pick c a b,ty,pos,af,none⟩ ::l) O ds h Q:=
 GM rfl rfl hp (Ar hc hv k)
theorem Ad{xt yt:TypeId}{x y:Operand}(a b:Int)(hp:Cs dst E.N=true)(hx:AN O x=.int .i64 a)(hy:AN O y=.int .i64 b)(hr: -9223372036854775808<=a+b/\a+b<=9223372036854775807)(k:DE E ops l (putS O dst (.int .i64 (a+b))) ds h Q) :
  DE E ops (⟨dst,.binOp .add xt x y yt,ty,pos,af,none⟩ ::l) O ds h Q:=GM rfl rfl hp (DS hx hy hr k)
def skipB(N:Nat)(ops:Array Oper)(o:Oper)(j d:Nat)(is:Bool):Bool:=(match o.guard with
 | some (i,w)=>i==j && w !=is
 | none=>false) && (match ops[j]? with
 | some oj=>(match oj.dst with
  | some e=>e==d
  | none=>false)
 | none=>false) && Nat.blt d N && Cs o.dst N
theorem Gs(j d:Nat){is:Bool}(hv:O d=.bool is)(hs:skipB E.N ops o j d is=true)(x:DE E ops l (putS O o.dst undef) ds h Q):DE E ops (o ::l) O ds h Q:=by
 simp only [skipB,Bool.and_eq_true] at hs;obtain ⟨⟨⟨h1,h2⟩,h3⟩,h4⟩:=hs;cases hg:o.guard with
 | none=>rw [hg] at h1;cases h1
 | some q=>
  obtain ⟨i,w⟩:=q;rw [hg] at h1;simp only [Bool.and_eq_true,beq_iff_eq,bne_iff_ne,ne_eq] at h1;obtain ⟨rfl,hne⟩:=h1;cases hj:ops[i]? with
  | none=>rw [hj] at h2;cases h2
  | some oj=>
   cases hd:oj.dst with
   | none=>simp [hj,hd] at h2
   | some e=>
    obtain rfl:e=d:=by simpa [hj,hd] using h2
    exact N2 hg hj hd hv h3 hne h4 x
def goB(N:Nat)(ops:Array Oper)(o:Oper)(j d:Nat)(is:Bool):Bool:=(match o.guard with
 | some (i,w)=>i==j && w==is
 | none=>false) && (match ops[j]? with
 | some oj=>(match oj.dst with
  | some e=>e==d
  | none=>false)
 | none=>false) && Nat.blt d N && !Cv o.op && Cs o.dst N
theorem Gg(j d:Nat){is:Bool}(hv:O d=.bool is)(hs:goB E.N ops o j d is=true)(x:BT E o O ds h λσ' ds' h'=>DE E ops l σ' ds' h' Q):DE E ops (o ::l) O ds h Q:=by
 simp only [goB,Bool.and_eq_true,Bool.not_eq_true'] at hs;obtain ⟨⟨⟨⟨h1,h2⟩,h3⟩,h5⟩,h4⟩:=hs;cases hg:o.guard with
 | none=>rw [hg] at h1;cases h1
 | some q=>
  obtain ⟨i,w⟩:=q;rw [hg] at h1;simp only [Bool.and_eq_true,beq_iff_eq] at h1;obtain ⟨rfl,rfl⟩:=h1;cases hj:ops[i]? with
  | none=>rw [hj] at h2;cases h2
  | some oj=>
   cases hd:oj.dst with
   | none=>simp [hj,hd] at h2
   | some e=>
    obtain rfl:e=d:=by simpa [hj,hd] using h2
    exact trL_opg hg hj hd hv h3 (.inr h5) h4 x
end
section
variable {S:Nat->Prop} {Pre:Nat->GH->Prop} {Φ:List Law2} {cl:List Nat} {k d:Nat} {h h':GH} {O:Nat->Value} {ds:List Deferred} {v:Value}
theorem fL{Φ:List QN}(p:K9 Φ k v h):ds=ds/\GH.Le h h/\∃w,putS O (some d) v=putS O (some d) w/\K9 Φ k w h:=⟨rfl,GH.Le.refl _,_,rfl,p⟩
theorem K1{R:GH->GH->Prop}{Φ:List QN}{a:Value}(x:Fy R Φ):Fy R (lF a ::Φ):=⟨λ_ _ _ _ y=>y,x⟩
theorem K2{R:GH->GH->Prop}{Φ:List QN}{a b:Value}(x:Fy R Φ):Fy R (lF a ::lF b ::Φ):=K1 (K1 x)
theorem K4{R:GH->GH->Prop}{Φ:List QN}{a b c d:Value}(x:Fy R Φ):Fy R (lF a ::lF b ::lF c ::lF d ::Φ):=K2 (K2 x)
theorem K8{R:GH->GH->Prop}{Φ:List QN}{a b c d a' b' c' d':Value}(x:Fy R Φ):Fy R (lF a ::lF b ::lF c ::lF d ::lF a' ::lF b' ::lF c' ::lF d' ::Φ):=K4 (K4 x)
end
end Go.Ns
namespace Go.Ns
open Go.Conc
section
variable {P:Program} {E:GJ P} {O:Nat->Value} {ds:List Deferred} {h:GH} {Q:Post} {T:(Nat->Value)->List Deferred->GH->Prop}
variable {dst:Option Nat} {ty:TypeId} {pos:String} {af:Array Edge} {ops:Array Oper} {o:Oper} {l:List Oper} {gd:Option (Nat×Bool)}
theorem Mz{x:Operand}(v:Value)(e:(Cs dst E.N,AN O x)=(true,v))(k:DE E ops l (putS O dst v) ds h Q):DE E ops (⟨dst,.move x,ty,pos,af,none⟩ ::l) O ds h Q:=Mv v (congrArg Prod.fst e) (congrArg Prod.snd e) k
theorem Az{x:Operand}(v:Value)(e:(Cs dst E.N,AN O x)=(true,v))(k:DE E ops l (putS O dst v) ds h Q):DE E ops (⟨dst,.assign x,ty,pos,af,none⟩ ::l) O ds h Q:=As v (congrArg Prod.fst e) (congrArg Prod.snd e) k
theorem Lz{t:TypeId}{x:Operand}{b off:Nat}(v:Value)(e:(Cs dst E.N,AN O x)=(true,.pointer (some ⟨b,off,none⟩)))(hr:Rd P h t b off v)(k:DE E ops l (putS O dst v) ds h Q):DE E ops (⟨dst,.load t x,ty,pos,af,none⟩ ::l) O ds h Q:=
 Ld v (congrArg Prod.fst e) (congrArg Prod.snd e) hr k
theorem Fz{s:TypeId}{x:Operand}{f o b off:Nat}(hf:Dq P s f=some o)(e:(Cs dst E.N,AN O x)=(true,.pointer (some ⟨b,off,none⟩)))(k:DE E ops l (putS O dst (.pointer (some ⟨b,off+o,none⟩))) ds h Q) :
  DE E ops (⟨dst,.fieldAddr s x f,ty,pos,af,none⟩ ::l) O ds h Q:=Fa hf (congrArg Prod.fst e) (congrArg Prod.snd e) k
theorem Pz{c a b:Operand}(t:Bool)(v:Value)(e:(Cs dst E.N,AN O c,(if t then AN O a else AN O b))=(true,.bool t,v))(k:DE E ops l (putS O dst v) ds h Q):DE E ops (⟨dst,.pick c a b,ty,pos,af,none⟩ ::l) O ds h Q:=
 Pk t v (congrArg Prod.fst e) (congrArg (λq=>q.2.1) e) (congrArg (λq=>q.2.2) e) k
theorem Yd{xt yt:TypeId}{x y:Operand}{a b:Int}(e:(Cs dst E.N,AN O x,AN O y)=(true,.int .i64 a,.int .i64 b))(hr: -9223372036854775808<=a+b/\a+b<=9223372036854775807)(k:DE E ops l (putS O dst (.int .i64 (a+b))) ds h Q) :
  DE E ops (⟨dst,.binOp .add xt x y yt,ty,pos,af,none⟩ ::l) O ds h Q:=Ad a b (congrArg Prod.fst e) (congrArg (λq=>q.2.1) e) (congrArg (λq=>q.2.2) e) hr k
theorem Mo{x:Operand}(v:Value)(hx:AN O x=v)(k:T (putS O dst v) ds h):BT E ⟨dst,.move x,ty,pos,af,gd⟩ O ds h T:=R7 hx k
theorem Lo{t:TypeId}{x:Operand}{b off:Nat}(v:Value)(hx:AN O x=.pointer (some ⟨b,off,none⟩))(hr:Rd P h t b off v)(k:T (putS O dst v) ds h):BT E ⟨dst,.load t x,ty,pos,af,gd⟩ O ds h T:=DA hx hr k
theorem Ex{x:Operand}{n:Nat}{vs:Array Value}(v:Value)(e:(AN O x,vs[n]?)=(.tuple vs,some v))(k:T (putS O dst v) ds h):BT E ⟨dst,.extract x n,ty,pos,af,gd⟩ O ds h T:=U0 (congrArg Prod.fst e) (congrArg Prod.snd e) k
theorem Bo{t:TypeId}{x:Operand}{v:Value}(c:Array Value)(hx:AN O x=v)(hc:v.cells=c)
  (k:∀r h',h r=none->h.Le h'->h' r=some (true,.cells c t (0,0))->(∀b,b≠r->h' b=h b)->T (putS O dst (.pointer (some ⟨r,0,none⟩))) ds h'):BT E ⟨dst,.box t x,ty,pos,af,gd⟩ O ds h T:=R8 hx hc k
theorem So{t:TypeId}{a x:Operand}{b off n:Nat}{g:Bool}{c:Array Value}{et:TypeId}(v:Value)(c':Array Value)(ht:Cc P t=some (g,n))(e:(AN O a,AN O x)=(.pointer (some ⟨b,off,none⟩),v))(hb:h b=some (true,.cells c et (0,0)))
  (e2:(v.cells.size,Value.fine v)=(n,true)) (hn:off+n<=c.size) (hc:Bq c off v.cells.toList=c') (k:∀h',h' b=some (true,.cells c' et (0,0))->(∀x,x≠b->h' x=h x)->T (putS O dst undef) ds h') :
  BT E ⟨dst,.store t a x,ty,pos,af,gd⟩ O ds h T:=Ae ht (congrArg Prod.fst e) (congrArg Prod.snd e) hb (congrArg Prod.fst e2) (congrArg Prod.snd e2) hn hc k
theorem Ot{fn:Func}{R:Value->GH->Prop}{t:Tmp}(v:Value)(e:(fn.results,O t)=(#[.tmp t],v))(x:R v h):GL P fn O R [] h:=IP (congrArg Prod.fst e) (congrArg Prod.snd e) x
theorem Ou{fn:Func}{R:Value->GH->Prop}{t u:Tmp}(v v':Value)(e:(fn.results,O t,O u)=(#[.tmp t,.tmp u],v,v'))(x:R (.tuple #[v,v']) h):GL P fn O R [] h:=outs2 (congrArg Prod.fst e) (congrArg (λq=>q.2.1) e) (congrArg (λq=>q.2.2) e) x
theorem Sr{id:Nat}{y:Code}(a:DE E l.toArray l O ds h (λe σ' ds' h'=>match e with | .normal=>Tr E y σ' ds' h' Q | e=>Q e σ' ds' h')):Tr E (.seq (.region id l.toArray false) y) O ds h Q:=Sq (Rg a)
theorem S2{id:Nat}{y z:Code}(a:DE E l.toArray l O ds h (λe σ' ds' h'=>match e with | .normal=>Tr E y σ' ds' h' (λe σ' ds' h'=>match e with | .normal=>Tr E z σ' ds' h' Q | e=>Q e σ' ds' h') | e=>(λe σ' ds' h'=>match e with | .normal=>Tr E z σ' ds' h' Q | e=>Q e σ' ds' h') e σ' ds' h')) :
  Tr E (.seq (.seq (.region id l.toArray false) y) z) O ds h Q:=Sq (Sq (Rg a))
theorem Zr{V:Type}{a b:V}:a=b\/a=a:=.inr rfl
theorem M2{x x':Operand}{dst':Option Nat}{ty':TypeId}{pos':String}{af':Array Edge}(v v':Value)(e:(Cs dst E.N,AN O x,Cs dst' E.N,AN (putS O dst v) x')=(true,v,true,v'))(k:DE E ops l (putS (putS O dst v) dst' v') ds h Q):DE E ops (⟨dst,.move x,ty,pos,af,none⟩ ::⟨dst',.move x',ty',pos',af',none⟩ ::l) O ds h Q:=
 Mv v (congrArg Prod.fst e) (congrArg (λq=>q.2.1) e) (Mv v' (congrArg (λq=>q.2.2.1) e) (congrArg (λq=>q.2.2.2) e) k)
theorem A2{x x':Operand}{dst':Option Nat}{ty':TypeId}{pos':String}{af':Array Edge}(v v':Value)(e:(Cs dst E.N,AN O x,Cs dst' E.N,AN (putS O dst v) x')=(true,v,true,v'))(k:DE E ops l (putS (putS O dst v) dst' v') ds h Q):DE E ops (⟨dst,.assign x,ty,pos,af,none⟩ ::⟨dst',.assign x',ty',pos',af',none⟩ ::l) O ds h Q:=
 As v (congrArg Prod.fst e) (congrArg (λq=>q.2.1) e) (As v' (congrArg (λq=>q.2.2.1) e) (congrArg (λq=>q.2.2.2) e) k)
theorem Ct{W:Wk P}{f:FuncId}{fn:Func}{c:Code}{args:Array Value}{R:Value->GH->Prop}(hf:P.funcs[f]? =some fn)(e:(fn.body,Nat.ble args.size fn.ntmps)=(some c,true))
  (x:Tr ⟨W,f,none,fn.ntmps⟩ c (λi=>args.getD i undef) [] h (λe O ds h'=>(e=.normal\/e=.ret)/\GL P fn O R ds h')):AW W f args h R:=Uz hf (congrArg Prod.fst e) (Nat.le_of_ble_eq_true (congrArg Prod.snd e)) x
end
section
variable {P:Program} {E:GJ P} {l:List Oper} {n:Nat} {fl:Bool} {hs:GH} {ds:List Deferred} {Lw:Nat->Value->GH->Prop} {F:(Nat->Value)->GH->Prop} {π:List Nat} {O:Nat->Value} {h:GH} {m k g d:Nat} {dst:Option Nat} {op:Op} {ty:TypeId} {pos:String} {af:Array Edge} {v:Value} {w is:Bool} {og:Oper}
theorem Rz(e:(KK m,l[k]?)=((.r,k),some ⟨dst,op,ty,pos,af,none⟩))(x:SD E ⟨dst,op,ty,pos,af,none⟩ O ds h v)(y:TD E l n fl hs ds Lw F (dK π) (putS O dst v) h):TD E l n fl hs ds Lw F (dK (m ::π)) O h:=tR (congrArg Prod.fst e) (congrArg Prod.snd e) x y
theorem Rm{x:Operand}(v:Value)(e:(KK m,l[k]?,AN O x)=((.r,k),some ⟨dst,.move x,ty,pos,af,none⟩,v))(y:TD E l n fl hs ds Lw F (dK π) (putS O dst v) h):TD E l n fl hs ds Lw F (dK (m ::π)) O h:=
 tR (congrArg Prod.fst e) (congrArg (λq=>q.2.1) e) (R7 (congrArg (λq=>q.2.2) e) vz) y
theorem Rl{t:TypeId}{x:Operand}{b off:Nat}(v:Value)(e:(KK m,l[k]?,AN O x)=((.r,k),some ⟨dst,.load t x,ty,pos,af,none⟩,.pointer (some ⟨b,off,none⟩)))(hr:Rd P h t b off v)(y:TD E l n fl hs ds Lw F (dK π) (putS O dst v) h):TD E l n fl hs ds Lw F (dK (m ::π)) O h:=
 tR (congrArg Prod.fst e) (congrArg (λq=>q.2.1) e) (DA (congrArg (λq=>q.2.2) e) hr vz) y
theorem Py(e:(KK m,l[k]?)=((.p,k),some ⟨dst,op,ty,pos,af,none⟩))(x:∀hx,SD E ⟨dst,op,ty,pos,af,none⟩ O ds hx v)(y:TD E l n fl hs ds Lw F (dK π) (putS O dst v) h):TD E l n fl hs ds Lw F (dK (m ::π)) O h:=tP (congrArg Prod.fst e) (congrArg Prod.snd e) x y
theorem Ry(e:(KK m,l[k]?,l[g]?,og.dst)=((.r,k),some ⟨dst,op,ty,pos,af,some (g,w)⟩,some og,some d))(h3:O d=.bool w)(x:SD E ⟨dst,op,ty,pos,af,some (g,w)⟩ O ds h v)
  (y:TD E l n fl hs ds Lw F (dK π) (putS O dst v) h):TD E l n fl hs ds Lw F (dK (m ::π)) O h:=tRg (congrArg Prod.fst e) (congrArg (λq=>q.2.1) e) (congrArg (λq=>q.2.2.1) e) (congrArg (λq=>q.2.2.2) e) h3 x y
theorem Sz{kd:Kd}(e:(KK m,l[k]?,l[g]?,og.dst)=((kd,k),some ⟨dst,op,ty,pos,af,some (g,w)⟩,some og,some d))(h3:O d=.bool is)(hne:(is==w)=false)
  (y:TD E l n fl hs ds Lw F (dK π) (putS O dst undef) h) (hl:(kd !=Kd.l)=true:=by rfl):TD E l n fl hs ds Lw F (dK (m ::π)) O h:=tS (congrArg Prod.fst e) (congrArg (λq=>q.2.1) e) (congrArg (λq=>q.2.2.1) e) (congrArg (λq=>q.2.2.2) e) h3 hne y hl
end
end Go.Ns
namespace Go.Ns
open Go.Conc
abbrev J(x:Int):Value:=.int .i64 x
abbrev Pt(b:Nat):Value:=.pointer (some ⟨b,0,none⟩)
abbrev Sc(b:Nat)(n c:Nat):Value:=.slice (some ⟨b,0,none⟩) n c
abbrev Qc:Array Value:=#[J 0,J 0,.slice none 0 0,.slice none 0 0,.slice none 0 0,.slice none 0 0,.slice none 0 0,.map none]
abbrev Qd(a:List AD)(b:List AM)(c:List AI)(d:Nat):Array Value:=#[J (((AB a b c).getD (((d:Int)-1).toNat) AG.zero).ways 0),J (((AB a b c).getD (((d:Int)-1).toNat) AG.zero).ways 1),J (((AB a b c).getD (((d:Int)-1).toNat) AG.zero).ways 2),J (((AB a b c).getD (((d:Int)-1).toNat) AG.zero).ways 3),J (((AB a b c).getD (((d:Int)-1).toNat) AG.zero).ways 4)]
abbrev Qe(a:List AD)(b:List AM)(c:List AI)(d:Nat):Array Value:=#[J (((AB a b c).getD d AG.zero).ways 0),J (((AB a b c).getD d AG.zero).ways 1),J (((AB a b c).getD d AG.zero).ways 2),J (((AB a b c).getD d AG.zero).ways 3),J (((AB a b c).getD d AG.zero).ways 4)]
abbrev Qf(a:List AD)(b:Nat):Array Value:=#[J ((a.getD b AD.z).a),J ((a.getD b AD.z).b),J ((a.getD b AD.z).low),J ((a.getD b AD.z).high)]
abbrev Qg(a:ByteArray)(b:Nat):=decide (¬(((97<=((bytesOf a).getD b 0))/\(((bytesOf a).getD b 0)<=122))\/(((0<(b:Int))/\(48<=((bytesOf a).getD b 0)))/\(((bytesOf a).getD b 0)<=57))))
abbrev Qh(a:Int):=KD (KD a (FF a 13)) ((KD a (FF a 13)) / 128)
abbrev Qi:Value:=.slice none 0 0
abbrev Qj(a:List AI)(b:Nat):Array Value:=#[(a.getD b AI.z).wv,J ((a.getD b AI.z).low),J ((a.getD b AI.z).high)]
abbrev Qk(a:ByteArray)(b:Nat):=(bytesOf a).getD b 0
abbrev Ql(a:List AD)(b:Int)(c:Nat):=timed a (b.toNat) ((a.getD b.toNat AD.z).low+(c:Int)) ((a.getD b.toNat AD.z).low+(c:Int))
abbrev Qm(a:List AM)(b:Nat):=decide ((¬(((0<=((a.getD b AM.z).low)/\((a.getD b AM.z).low)<=((a.getD b AM.z).high))/\((a.getD b AM.z).high)<=30)/\((a.getD b AM.z).high)-((a.getD b AM.z).low)<2))\/(¬(0<=((a.getD b AM.z).due)/\((a.getD b AM.z).due)<=200)))
abbrev Qn(a:List AD)(b:Nat):=(a.getD b AD.z).b
abbrev Qo(a:List AM)(b:Nat):Array Value:=#[J ((a.getD b AM.z).place),J ((a.getD b AM.z).low),J ((a.getD b AM.z).high),J ((a.getD b AM.z).due),(a.getD b AM.z).pv]
abbrev Qp(a:List AG)(b:Nat):=(a.drop (1)).getD b AG.zero
abbrev Qq(a:List Value)(b:Array Int)(c:Nat)(d:Nat):=Bi a ((b.setIfInBounds c (b[d]!)).setIfInBounds d (b[c]!))
abbrev Qr(a:Nat)(b:Array Int)(c:Nat):=Sc a b.size c
abbrev Qs(a:List AD)(b:Nat):=(a.getD b AD.z).a
abbrev Qt(a:List ByteArray)(b:List AD)(c:List AM)(d:List AI):=decide ((((20<(a.length:Int))\/(20<(b.length:Int)))\/(20<(c.length:Int)))\/(20<(d.length:Int)))
abbrev Qu(a:Int)(b:Int):=decide ((¬(0<=a/\a<=9))\/(¬(0<=b/\b<=3)))
abbrev Qv(a:Int)(b:Int):Value:=.bool (decide (a<=b))
abbrev Qw(a:List AD)(b:List AM)(c:List AI)(d:Nat):Value:=.agg (Ac ((AB a b c).getD d AG.zero))
abbrev Qx(a:Int)(b:Int)(c:Int)(d:Int):=decide ((((0<=a)/\(a<=b))/\(b<=c))/\((b-a)<d))
abbrev Qy(a:List ByteArray)(b:List AD)(c:Nat):=J (B1 a.length [(b.getD c AD.z).a,(b.getD c AD.z).b])
abbrev Qz(a:Nat)(b:Nat)(c:Array Int)(d:Nat):=decide (((a:Int)<=(b:Int))/\(¬((c[b]!)<(c[d]!))))
abbrev Xg(a:List AG):=a.getD 0 AG.zero
abbrev Ut(a:List AM)(b:List Int):=Ag a.length b
abbrev Q12(a:List AM)(b:List Int)(c:Int):=(a.getD ((b.getD (c.toNat) 0).toNat) AM.z).due
abbrev Nf(a:List Int)(b:Nat):=J (a.getD b 0)
abbrev Xh(a:List ByteArray)(b:Int)(c:Int):=B1 a.length [b,c]
abbrev Q15(a:List AI)(b:Nat):Array Value:=#[J ((a.getD b AI.z).low),J ((a.getD b AI.z).high)]
abbrev Xi(a:List AM)(b:Int):=F7 a.length b
abbrev Q17(a:List AD)(b:Nat):Array Value:=#[J ((a.getD b AD.z).low),J ((a.getD b AD.z).high)]
abbrev Q18(a:List AM)(b:Nat):Array Value:=#[J ((a.getD b AM.z).low),J ((a.getD b AM.z).high)]
abbrev Q19(a:List AI)(b:Nat)(c:Nat):=((a.getD b AI.z).ways).getD c 0
abbrev Q1a(a:Int)(b:Int):=decide (((0<=a/\a<=b)/\b<=30)/\((b-a)<2))
abbrev Q1b(a:List Value)(b:Array Int)(c:Nat)(d:Nat):=Bi a (b.setIfInBounds c (b[d]!))
abbrev Q1c(a:Nat):=J ((2*(a:Int))+1)
abbrev Q1d(a:Nat)(b:Int)(c:Array Int)(d:Nat):=decide (((((2*(a:Int))+1)+1)<b)/\((c[(d+((2*a)+1))]!)<(c[((d+((2*a)+1))+1)]!)))
abbrev Q1e(a:List AM)(b:List Int)(c:Int):=Es a.length b c
abbrev Q1f(a:Int)(b:Int)(c:Int):=decide ((a<=b)/\(b<=c))
abbrev Q1g(a:Nat)(b:Nat):Value:=.bool (decide ((a:Int)<=(b:Int)))
abbrev Q1h(a:Nat)(b:Nat):=J ((a:Int)-(b:Int))
abbrev Q1i(a:Int)(b:Int)(c:Int)(d:Int):=decide (((a<=b)/\(b<=c))/\(c<=d))
abbrev Q1j(a:Nat)(b:Nat)(c:Array Int):=decide (((a:Int)<(b:Int))/\((c[b]!)<(c[((b:Int)-1).toNat]!)))
abbrev Q1k(a:List AM)(b:Nat):=(a.getD b AM.z).due
abbrev Q1l(a:List AI)(b:Nat):=(a.getD b AI.z).wv
abbrev Q1m:Array Value:=#[J 0,J 0,.slice none 0 0,.slice none 0 0,.slice none 0 0,.slice none 0 0]
abbrev Q1n(a:Nat):=J (((2*(a:Int))+1)+1)
abbrev Q1o(a:Nat)(b:Array Int)(c:Nat):=decide ((0<(a:Int))/\(¬((b[((a:Int)-1).toNat]!)<(b[c]!))))
abbrev Q1p(a:ByteArray):=decide (((a.size:Int)<1)\/(10<(a.size:Int)))
abbrev Q1q(a:List AM)(b:Nat):=(a.getD b AM.z).high
abbrev Q1r(a:Int):=decide ((97<=a)/\(a<=122))
abbrev UQ(a:Int)(b:Int)(c:Value)(d:Value)(e:Value)(f:Value):Array Value:=#[.agg #[J a,J b,c,d,e,f]]
abbrev Q1t(a:Array Int)(b:Nat)(c:Nat):=decide (¬((a[b]!)<(a[c]!)))
abbrev Q1u(a:Int):=decide (¬(0<=a/\a<=3))
abbrev Q1v(a:List Int)(b:Nat)(c:List Int):=J (SL (a.getD b 0) (c.getD b 0))
abbrev Q1w(a:List Sl)(b:Nat):=((a.drop (1)).getD b Sl.z).1
abbrev Q1x(a:Int):=decide ((48<=a)/\(a<=57))
abbrev Q1y(a:Nat):Value:=.func (.func 90) #[] #[Pt a]
abbrev Q1z(a:Nat):Value:=.func (.func 77) #[] #[Pt a]
abbrev Q20(a:List AM)(b:Nat):=(a.getD b AM.z).low
abbrev Q21:=Ac AG.zero
abbrev Q22(a:Nat)(b:Nat):Value:=.func (.func 46) #[] #[Pt a,Pt b]
abbrev Q23(a:Nat)(b:Nat):Value:=.func (.func 82) #[] #[Pt a,Pt b]
abbrev Q24(a:List AM)(b:List Int)(c:Nat):=J (F7 a.length (b.getD c 0))
end Go.Ns
namespace Go.Ns
open Go.Conc Go.Proofs Go.Proofs.Tryz
theorem FO:IR prog 106 106=some (42,1,24):=aB
theorem UR:IR prog 22 22=some (9,1,16):=aB
theorem NN:IR prog 23 23=some (39,4,32):=aB
theorem US:IR prog 24 24=some (54,5,56):=aB
theorem Jl:IR prog 25 25=some (83,3,40):=aB
theorem Da:IR prog 42 42=some (3,1,8):=aB
theorem UT:IR prog 45 45=some (31,2,16):=aB
theorem UU:IR prog 89 89=some (101,9,72):=aB
theorem Yu:arrOf prog 136=some (5,false,1):=aB
theorem EW:Mi prog 118=some (4,1):=aB
theorem E9:Mi prog 157=some (4,4):=aB
theorem IZ:Mi prog 98=some (5,1):=aB
theorem ER:Mi prog 99=some (4,1):=aB
theorem fx_bt3:LS prog 3=some 8:=aB
theorem fx_bt4:LS prog 4=some 1:=aB
theorem Ia:AL Tryz.f10=true:=aB
theorem Vy:AL Tryz.f100=true:=aB
theorem Vz:AL Tryz.f101=true:=aB
theorem Kk:AL Tryz.f102=true:=aB
theorem PP:AL Tryz.f103=true:=aB
theorem V0:AL Tryz.f104=true:=aB
theorem V1:AL Tryz.f105=true:=aB
theorem PQ:AL Tryz.f106=true:=aB
theorem I7:AL Tryz.f107=true:=aB
theorem Km:AL Tryz.f108=true:=aB
theorem PR:AL Tryz.f109=true:=aB
theorem RR:AL Tryz.f11=true:=aB
theorem PS:AL Tryz.f110=true:=aB
theorem PT:AL Tryz.f111=true:=aB
theorem I8:AL Tryz.f112=true:=aB
theorem PU:AL Tryz.f113=true:=aB
theorem Kn:AL Tryz.f114=true:=aB
theorem V2:AL Tryz.f115=true:=aB
theorem V3:AL Tryz.f116=true:=aB
theorem V4:AL Tryz.f117=true:=aB
theorem V5:AL Tryz.f118=true:=aB
theorem PW:AL Tryz.f119=true:=aB
theorem MQ:AL Tryz.f12=true:=aB
theorem V6:AL Tryz.f120=true:=aB
theorem V7:AL Tryz.f121=true:=aB
theorem V8:AL Tryz.f122=true:=aB
theorem V9:AL Tryz.f123=true:=aB
theorem WA:AL Tryz.f124=true:=aB
theorem Cq:AL Tryz.f125=true:=aB
theorem WB:AL Tryz.f126=true:=aB
theorem WC:AL Tryz.f127=true:=aB
theorem WD:AL Tryz.f129=true:=aB
theorem EX:AL Tryz.f13=true:=aB
theorem WE:AL Tryz.f130=true:=aB
theorem PX:AL Tryz.f131=true:=aB
theorem WF:AL Tryz.f132=true:=aB
theorem WG:AL Tryz.f133=true:=aB
theorem Ko:AL Tryz.f134=true:=aB
theorem PY:AL Tryz.f135=true:=aB
theorem Kp:AL Tryz.f136=true:=aB
theorem WH:AL Tryz.f153=true:=aB
theorem WI:AL Tryz.f154=true:=aB
theorem WJ:AL Tryz.f155=true:=aB
theorem WK:AL Tryz.f156=true:=aB
theorem WL:AL Tryz.f157=true:=aB
theorem WM:AL Tryz.f158=true:=aB
theorem WN:AL Tryz.f159=true:=aB
theorem Yv:AL Tryz.f16=true:=aB
theorem WO:AL Tryz.f160=true:=aB
theorem WP:AL Tryz.f161=true:=aB
theorem WQ:AL Tryz.f162=true:=aB
theorem PZ:AL Tryz.f163=true:=aB
theorem WR:AL Tryz.f164=true:=aB
theorem WT:AL Tryz.f165=true:=aB
theorem WU:AL Tryz.f166=true:=aB
theorem WV:AL Tryz.f167=true:=aB
theorem WW:AL Tryz.f168=true:=aB
theorem WX:AL Tryz.f169=true:=aB
theorem Yw:AL Tryz.f17=true:=aB
theorem WY:AL Tryz.f170=true:=aB
theorem Yx:AL Tryz.f18=true:=aB
theorem Yy:AL Tryz.f19=true:=aB
theorem Yz:AL Tryz.f20=true:=aB
theorem Y1:AL Tryz.f21=true:=aB
theorem MR:AL Tryz.f23=true:=aB
theorem Y3:AL Tryz.f25=true:=aB
theorem RS:AL Tryz.f28=true:=aB
theorem Fp:AL Tryz.f29=true:=aB
theorem RT:AL Tryz.f30=true:=aB
theorem Y4:AL Tryz.f33=true:=aB
theorem Y5:AL Tryz.f34=true:=aB
theorem Y6:AL Tryz.f35=true:=aB
theorem Y7:AL Tryz.f36=true:=aB
theorem Y8:AL Tryz.f37=true:=aB
theorem Y9:AL Tryz.f38=true:=aB
theorem ZA:AL Tryz.f39=true:=aB
theorem ZB:AL Tryz.f40=true:=aB
theorem ZC:AL Tryz.f41=true:=aB
theorem Ib:AL Tryz.f42=true:=aB
theorem ZD:AL Tryz.f43=true:=aB
theorem Fq:AL Tryz.f44=true:=aB
theorem C9:AL Tryz.f45=true:=aB
theorem RU:AL Tryz.f46=true:=aB
theorem MS:AL Tryz.f47=true:=aB
theorem MT:AL Tryz.f48=true:=aB
theorem ZE:AL Tryz.f49=true:=aB
theorem HY:AL Tryz.f50=true:=aB
theorem Ic:AL Tryz.f51=true:=aB
theorem Fs:AL Tryz.f54=true:=aB
theorem MU:AL Tryz.f55=true:=aB
theorem J9:AL Tryz.f56=true:=aB
theorem RV:AL Tryz.f57=true:=aB
theorem RW:AL Tryz.f58=true:=aB
theorem RX:AL Tryz.f59=true:=aB
theorem GX:AL Tryz.f60=true:=aB
theorem RY:AL Tryz.f61=true:=aB
theorem RZ:AL Tryz.f62=true:=aB
theorem Ra:AL Tryz.f63=true:=aB
theorem ZF:AL Tryz.f64=true:=aB
theorem ZG:AL Tryz.f65=true:=aB
theorem EE:AL Tryz.f66=true:=aB
theorem MV:AL Tryz.f67=true:=aB
theorem ZH:AL Tryz.f68=true:=aB
theorem ZI:AL Tryz.f69=true:=aB
theorem ZJ:AL Tryz.f73=true:=aB
theorem ZK:AL Tryz.f74=true:=aB
theorem ZL:AL Tryz.f75=true:=aB
theorem ZM:AL Tryz.f76=true:=aB
theorem Rb:AL Tryz.f77=true:=aB
theorem Rc:AL Tryz.f78=true:=aB
theorem Re:AL Tryz.f79=true:=aB
theorem ZN:AL Tryz.f80=true:=aB
theorem Rf:AL Tryz.f81=true:=aB
theorem Rh:AL Tryz.f82=true:=aB
theorem MW:AL Tryz.f83=true:=aB
theorem Id:AL Tryz.f84=true:=aB
theorem Ri:AL Tryz.f85=true:=aB
theorem Rj:AL Tryz.f86=true:=aB
theorem ZO:AL Tryz.f87=true:=aB
theorem KA:AL Tryz.f88=true:=aB
theorem ZP:AL Tryz.f89=true:=aB
theorem fx_call9:AL Tryz.f9=true:=aB
theorem Rk:AL Tryz.f90=true:=aB
theorem ZQ:AL Tryz.f91=true:=aB
theorem Rn:AL Tryz.f92=true:=aB
theorem ZR:AL Tryz.f93=true:=aB
theorem ZS:AL Tryz.f94=true:=aB
theorem ZT:AL Tryz.f95=true:=aB
theorem ZU:AL Tryz.f96=true:=aB
theorem ZV:AL Tryz.f97=true:=aB
theorem ZW:AL Tryz.f98=true:=aB
theorem ZX:AL Tryz.f99=true:=aB
theorem Ie:prog.eqGuardType prog.depth 31=false:=aB
theorem UV:prog.eqGuardType prog.depth 98=false:=aB
theorem EY:Ei prog 106=some 1:=aB
theorem MX:Ei prog 146=some 1:=aB
theorem ZY:Ei prog 206=some 1:=aB
theorem Gx:Ei prog 22=some 1:=aB
theorem EF:Ei prog 23=some 4:=aB
theorem FP:Ei prog 24=some 5:=aB
theorem Ho:Ei prog 25=some 3:=aB
theorem AP:Ei prog 42=some 1:=aB
theorem UW:Ei prog 45=some 2:=aB
theorem F9:Ei prog 89=some 9:=aB
theorem Lg:∀a:E7,ckP prog 4 103 (Ep a)=true:=by intros;kernel_rfl
theorem Lh:∀a b:E7,Nm prog 4 103 (Ep a) (Ep b)=some ((a.1.1==b.1.1 && (a.1.2.1==b.1.2.1 && (a.1.2.2.1==b.1.2.2.1 && (a.1.2.2.2.1==b.1.2.2.2.1 && (a.1.2.2.2.2==b.1.2.2.2.2 && true))))) && (a.2.1==b.2.1 && (a.2.2==b.2.2 && true))):=by intros;kernel_rfl
theorem Cl:Dq prog 101 0=some 0:=aB
theorem Jm:Dq prog 101 1=some 5:=aB
theorem UX:Dq prog 145 0=some 0:=aB
theorem UY:Dq prog 145 1=some 1:=aB
theorem Kq:Dq prog 27 0=some 0:=aB
theorem Hp:Dq prog 27 1=some 1:=aB
theorem CM:Dq prog 27 2=some 2:=aB
theorem BM:Dq prog 27 3=some 3:=aB
theorem B4:Dq prog 27 4=some 4:=aB
theorem CE:Dq prog 27 5=some 5:=aB
theorem Dg:Dq prog 31 0=some 0:=aB
theorem Dh:Dq prog 31 1=some 1:=aB
theorem CQ:Dq prog 39 0=some 0:=aB
theorem CY:Dq prog 39 1=some 1:=aB
theorem GY:Dq prog 39 2=some 2:=aB
theorem I9:Dq prog 54 0=some 0:=aB
theorem Kr:Dq prog 54 1=some 1:=aB
theorem JA:Dq prog 54 2=some 3:=aB
theorem EJ:Dq prog 54 3=some 4:=aB
theorem EK:Dq prog 83 0=some 0:=aB
theorem JB:Dq prog 83 1=some 1:=aB
theorem A1:Dq prog 88 0=some 0:=aB
theorem D1:Dq prog 92 0=some 0:=aB
theorem Hq:Dq prog 92 1=some 6:=aB
theorem JC:Dq prog 92 2=some 7:=aB
theorem WZ:(prog.info? 145).isSome=true:=aB
theorem fx_infs3:(prog.info? 3).isSome=true:=aB
theorem fx_infs4:(prog.info? 4).isSome=true:=aB
theorem Wa:(prog.info? 145).map (·.zero)=some (some (.agg #[.int .i64 0,.bool false])):=aB
theorem fx_infz3:(prog.info? 3).map (·.zero)=some (some (.int .i64 0)):=aB
theorem fx_infz4:(prog.info? 4).map (·.zero)=some (some (.bool false)):=aB
theorem Ks:L3 prog 156=some .u64:=aB
theorem Wb:L3 prog 177=some .u64:=aB
theorem FQ:L3 prog 3=some .i64:=aB
theorem Gy:L3 prog 5=some .u8:=aB
theorem MY:LA prog 121=some (3,3):=aB
theorem Li:LA prog 90=some (103,3):=aB
theorem MZ:∀a:Int,ckP prog 3 3 (Di a)=true:=by intros;kernel_rfl
theorem Ma:∀a b:Int,Nm prog 3 3 (Di a) (Di b)=some (a==b):=by intros;kernel_rfl
theorem Ai:prog.follows .mixedOrders=true:=aB
theorem UZ:(prog.info? 3).bind (·.zero)=some (.int .i64 0):=aB
theorem Sy:(prog.info? 3).bind (·.zero)=some (.int .i64 0):=aB
theorem Lj:Ej prog 103=some [(0,5),(5,1),(6,1)]:=aB
theorem fx_pl145:Ej prog 145=some [(0,1),(1,1)]:=aB
theorem fx_pl27:Ej prog 27=some [(0,1),(1,1),(2,1),(3,1),(4,1),(5,1)]:=aB
theorem JD:Ej prog 31=some [(0,1),(1,1)]:=aB
theorem S0:Ej prog 39=some [(0,1),(1,1),(2,2)]:=aB
theorem S1:Ej prog 54=some [(0,1),(1,2),(3,1),(4,1)]:=aB
theorem S3:Ej prog 83=some [(0,1),(1,2)]:=aB
theorem Hz:Ej prog 88=some [(0,6)]:=aB
theorem H0:Ej prog 92=some [(0,6),(6,1),(7,1)]:=aB
theorem Ua:s2bOf prog 9 206=some 5:=aB
theorem If:DJ prog 106=some (1,#[.slice none 0 0],42):=aB
theorem ZZ:DJ prog 146=some (1,#[.bool false],4):=aB
theorem Ub:DJ prog 22=some (1,#[.string ⟨#[]⟩],9):=aB
theorem Pa:DJ prog 23=some (4,#[.int .i64 0,.int .i64 0,.int .i64 0,.int .i64 0],39):=aB
theorem Uc:DJ prog 24=some (5,#[.int .i64 0,.int .i64 0,.int .i64 0,.int .i64 0,.slice none 0 0],54):=aB
theorem Lk:DJ prog 25=some (3,#[.slice none 0 0,.int .i64 0,.int .i64 0],83):=aB
theorem Be:DJ prog 42=some (1,#[.int .i64 0],3):=aB
theorem Ud:DJ prog 45=some (2,#[.int .i64 0,.int .i64 0],31):=aB
theorem fx_sel89:DJ prog 89=some (9,#[.int .i64 0,.int .i64 0,.int .i64 0,.int .i64 0,.int .i64 0,.int .i64 0,.int .i64 0,.int .i64 0,.int .i64 0],101):=aB
theorem GA:KC prog 106=true:=aB
theorem fx_sl146:KC prog 146=true:=aB
theorem fx_sl206:KC prog 206=true:=aB
theorem DW:KC prog 22=true:=aB
theorem DX:KC prog 23=true:=aB
theorem FX:KC prog 24=true:=aB
theorem FY:KC prog 25=true:=aB
theorem BL:KC prog 42=true:=aB
theorem S4:KC prog 45=true:=aB
theorem GB:KC prog 89=true:=aB
theorem EL:N8 prog 9=true:=aB
theorem CZ:Cc prog 101=some (true,9):=aB
theorem GC:Cc prog 106=some (false,1):=aB
theorem Ll:Cc prog 112=some (false,1):=aB
theorem fx_ty136:Cc prog 136=some (true,5):=aB
theorem Lm:Cc prog 141=some (false,1):=aB
theorem Lp:Cc prog 142=some (false,1):=aB
theorem Pb:Cc prog 143=some (false,1):=aB
theorem fx_ty145:Cc prog 145=some (true,2):=aB
theorem fx_ty158:Cc prog 158=some (false,1):=aB
theorem Jn:Cc prog 159=some (false,1):=aB
theorem Ev:Cc prog 177=some (false,1):=aB
theorem DY:Cc prog 22=some (false,1):=aB
theorem CO:Cc prog 23=some (false,1):=aB
theorem DD:Cc prog 24=some (false,1):=aB
theorem DM:Cc prog 25=some (false,1):=aB
theorem Al:Cc prog 27=some (true,6):=aB
theorem AJ:Cc prog 3=some (false,1):=aB
theorem BF:Cc prog 31=some (true,2):=aB
theorem GD:Cc prog 39=some (true,4):=aB
theorem GZ:Cc prog 4=some (false,1):=aB
theorem Bp:Cc prog 42=some (false,1):=aB
theorem fx_ty5:Cc prog 5=some (false,1):=aB
theorem H1:Cc prog 54=some (true,5):=aB
theorem FZ:Cc prog 83=some (true,3):=aB
theorem CW:Cc prog 88=some (true,6):=aB
theorem H2:Cc prog 89=some (false,1):=aB
theorem Mb:Cc prog 9=some (false,1):=aB
theorem Ny:Cc prog 90=some (false,1):=aB
theorem A4:Cc prog 92=some (true,8):=aB
theorem H3:Cc prog 98=some (true,5):=aB
theorem Za:(prog.underlying 156).isSome=true:=aB
theorem Ft:(prog.underlying 175).isSome=true:=aB
theorem Nz:(prog.underlying 3).isSome=true:=aB
theorem HQ:(prog.underlying 5).isSome=true:=aB
theorem Jo:prog.underlying 141=some (.chan .both 145):=aB
theorem Jp:prog.underlying 142=some (.chan .both 3):=aB
theorem Jq:prog.underlying 143=some (.chan .both 4):=aB
theorem Fg:Bv prog 101=some #[.int .i64 0,.int .i64 0,.int .i64 0,.int .i64 0,.int .i64 0,.int .i64 0,.int .i64 0,.int .i64 0,.int .i64 0]:=aB
theorem JE:Bv prog 103=some #[.int .i64 0,.int .i64 0,.int .i64 0,.int .i64 0,.int .i64 0,.int .i64 0,.int .i64 0]:=aB
theorem Pc:Bv prog 106=some #[.slice none 0 0]:=aB
theorem Wc:Bv prog 112=some #[.nilFunc]:=aB
theorem Pd:Bv prog 118=some #[.bool false,.bool false,.bool false,.bool false]:=aB
theorem Wd:Bv prog 141=some #[.chan none]:=aB
theorem We:Bv prog 142=some #[.chan none]:=aB
theorem Wf:Bv prog 143=some #[.chan none]:=aB
theorem Pe:Bv prog 145=some #[.int .i64 0,.bool false]:=aB
theorem Wg:Bv prog 157=some #[.int .i64 0,.int .i64 0,.int .i64 0,.int .i64 0,.int .i64 0,.int .i64 0,.int .i64 0,.int .i64 0,.int .i64 0,.int .i64 0,.int .i64 0,.int .i64 0,.int .i64 0,.int .i64 0,.int .i64 0,.int .i64 0]:=aB
theorem Wh:Bv prog 159=some #[.nilFunc]:=aB
theorem Wi:Bv prog 177=some #[.int .u64 0]:=aB
theorem FA:Bv prog 27=some #[.int .i64 0,.int .i64 0,.slice none 0 0,.slice none 0 0,.slice none 0 0,.slice none 0 0]:=aB
theorem fx_zero3:Bv prog 3=some #[.int .i64 0]:=aB
theorem B6:Bv prog 31=some #[.int .i64 0,.int .i64 0]:=aB
theorem Fu:Bv prog 39=some #[.int .i64 0,.int .i64 0,.int .i64 0,.int .i64 0]:=aB
theorem fx_zero4:Bv prog 4=some #[.bool false]:=aB
theorem fx_zero42:Bv prog 42=some #[.slice none 0 0]:=aB
theorem Ga:Bv prog 54=some #[.int .i64 0,.int .i64 0,.int .i64 0,.int .i64 0,.slice none 0 0]:=aB
theorem Fv:Bv prog 83=some #[.slice none 0 0,.int .i64 0,.int .i64 0]:=aB
theorem Do:Bv prog 88=some #[.int .i64 0,.int .i64 0,.slice none 0 0,.slice none 0 0,.slice none 0 0,.slice none 0 0]:=aB
theorem Zb:Bv prog 89=some #[.slice none 0 0]:=aB
theorem fx_zero9:Bv prog 9=some #[.string ⟨#[]⟩]:=aB
theorem BK:Bv prog 92=some #[.int .i64 0,.int .i64 0,.slice none 0 0,.slice none 0 0,.slice none 0 0,.slice none 0 0,.slice none 0 0,.map none]:=aB
end Go.Ns
namespace Go.Ns
open Go.Conc Go.Proofs Go.Proofs.Tryz
attribute [local irreducible] BT DE Tr AW Bw Ba
variable {W:Wk prog} {h:GH} (d m:Int) (gs:List Good) (gsv:Value) (ms:List Cp) (msv:Value) (cs:List CI) (csv:Value)
theorem QA(a:List Int)(av:Value)(b:List Int)(bv:Value)(ha:AE h av 1 eI a)(hb:AE h bv 1 eI b):AW W 87 #[av,bv] h (λv h'=>v=(.bool (decide (a=b)):Value)/\h.Le h'):=by
 have ad:=ha.len;have ae:=hb.len;refine Ct func87 Z (Sr (Az (.bool false) Z (Nl (S2 (Mz av Z (Pl Z (AQ BL ha Z (Mz bv Z (Pl Z (AQ BL hb Z (Pl Z (BB Z Z (Nl (AT Z (λar=>?_) (λar=>?_)))))))))))))))
 ·exact Sr (Az (.bool false) Z (Nl (Rt (⟨Zr,Ot (.bool false) Z (⟨(by (rw [decide_eq_false (ne_len aA)];done)),Lr⟩)⟩))))
 ·refine Sk (S2 (Az (J 0) Z (Nl (Bk (Ab (λnn σ' ds' h'=>∃(k:Nat),nn=a.length-k/\(k<=a.length)/\(a.take k=b.take k)/\ds'=[]/\GH.Le h h'/\σ' 0=av/\σ' 1=bv/\σ' 5=J k) ⟨0,Z,aA,(by rfl),Z,Lr,Z,Z,Z⟩ (λnn _ _ _ au=>?_))))));obtain ⟨k,rfl,hk,hs,x8,x9,af,aq,ac⟩:=au;subst x8;refine S2 (Mv (J k) Z ac (Mv av Z af (Pl Z (AQ BL (ha.le x9) Z (Pl Z (An Z Z (Nl (AT Z (λag=>?_) (λag=>?_)))))))))
  ·refine Sk (Sq (Bk (Sq (Bl 8 false [1,6,10,16,21,26,30,36] Ai aB (Rz Z (Mo av af vz) (Rz Z (Mo (J k) ac vz) ?_))))));have ah:(0:Int)<=(k:Int):=aA
   have ai:(k:Int)<((a.length:Nat):Int):=aA
   refine tI Z Z AP ha Z Z ah ai λaw aa aj=>have ak:AZ _ aw aa 1 (eI (a.getD k 0)):=AZ.getD 0 aj;Rl (Nf a k) Z (BU AJ (ak.le x9) Z) (Rz Z (Mo bv aq vz) (Rz Z (Mo (J k) ac vz) ?_));have al:(0:Int)<=(k:Int):=aA
   have am:(k:Int)<((b.length:Nat):Int):=aA
   refine tI Z Z AP hb Z Z al am λax ab an=>have ao:AZ _ ax ab 1 (eI (b.getD k 0)):=AZ.getD 0 an;Rl (Nf b k) Z (BU AJ (ao.le x9) Z) (tN (Pl Z (BB Z Z (Nl (AT Z (λap=>?_) (λap=>?_))))))
   ·exact Sr (Az (.bool false) Z (Nl (Rt (⟨Zr,Ot (.bool false) Z (⟨(by (rw [decide_eq_false (ne_getD (k:=k) (d:=0) ‹_›)])),x9⟩)⟩))))
   ·exact Sk (Rg (Mv (J k) Z ac (Yd Z aA (Az (J ((k:Int)+1)) Z (Nl (⟨_,aA,k+1,Z,aA,(by exact OO 0 hs aA aA aF),Z,x9,af,aq,Z⟩))))))
  ·exact Xt (Sr (Az (.bool true) Z (Nl (Rt (⟨Zr,Ot (.bool true) Z (⟨(by (rw [decide_eq_true (SJ hs hk ‹_› aA)];done)),x9⟩)⟩)))))
theorem Pf(a:List Int)(av:Value)(n:Int)(ha:AE h av 1 eI a):AW W 23 #[av,J n] h (λv h'=>v=(.bool (decide (n ∈ a)):Value)/\h.Le h'):=by
 have ab:=ha.len;refine Ct func23 Z (Sr (Az (.bool false) Z (Nl (S2 (Az (J 0) Z (Nl (Bk (Ab (λnn σ' ds' h'=>∃(k:Nat),nn=a.length-k/\(k<=a.length)/\(¬n ∈ a.take k)/\ds'=[]/\GH.Le h h'/\σ' 0=av/\σ' 1=J n/\σ' 5=J k) ⟨0,Z,aA,aD,Z,Lr,Z,Z,Z⟩ (λnn _ _ _ aj=>?_)))))))));obtain ⟨k,rfl,hk,hs,x6,x7,x8,x9,ac⟩:=aj;subst x6;refine S2 (Mv (J k) Z ac (Mv av Z x8 (Pl Z (AQ BL (ha.le x7) Z (Pl Z (An Z Z (Nl (AT Z (λad=>?_) (λad=>?_)))))))))
 ·refine Sk (Sq (Bk (Sr (Mv av Z x8 (Mv (J k) Z ac ?_)))));have ae:(0:Int)<=(k:Int):=aA
  have af:(k:Int)<((a.length:Nat):Int):=aA
  refine Pl Z (Aa AP ha Z Z ae af λak aa ag=>have ah:AZ _ ak aa 1 (eI (a.getD k 0)):=AZ.getD 0 ag;Lz (Nf a k) Z (BU AJ (ah.le x7) Z) (Mv (J n) Z x9 (Pl Z (B3 Z Z (Nl (AT Z (λai=>?_) (λai=>?_)))))))
  ·exact Sr (Az (.bool true) Z (Nl (Rt (⟨Zr,Ot (.bool true) Z (⟨(by (rw [decide_eq_true (has_hit (k:=k) ‹_› ‹_›)];done)),x7⟩)⟩))))
  ·exact Sk (Rg (Mv (J k) Z ac (Yd Z aA (Az (J ((k:Int)+1)) Z (Nl (⟨_,aA,k+1,Z,aA,(by exact has_next ‹_› hs ‹_›),Z,x7,x8,x9,Z⟩))))))
 ·exact Xt (Sr (Az (.bool false) Z (Nl (Rt (⟨Zr,Ot (.bool false) Z (⟨(by (rw [decide_eq_false (has_end (k:=k) ‹_› hs)])),x7⟩)⟩)))))
theorem H4(n:Int)(lo:Int)(hi:Int):AW W 29 #[J n,J lo,J hi] h (λv h'=>v=(.bool (decide (lo<=n/\n<=hi)):Value)/\h=h'):=by
 refine Ct func29 Z (Sr (Az (.bool false) Z (Nl (BE (λσ' ds' h'=>ds'=[]/\h=h'/\σ' 6=.bool (Q1f lo n hi)) ?_ ?_))))
 ·refine Rg (Mz (J n) Z (Mz (J lo) Z (Pl Z (CC Z Z (Mz (Qv lo n) Z (Au (p:=lo<=n) ?_ ?_))))))
  ·intro aa;exact Gg 3 10 (AC Z aa) Z (Mo (J n) Z (Gg 3 10 (AC Z aa) Z (Mo (J hi) Z (Gg 3 10 (AC Z aa) Z (DN Z Z (Pk true (Qv n hi) Z (AC Z aa) Z (Az (Qv n hi) Z (Nl (⟨Z,Z,Et (b:=(.bool (decide (n<=hi)):Value)) Z (congrArg Value.bool (by (simp [aa];done):decide (n<=hi)=(Q1f lo n hi)))⟩)))))))))
  ·intro aa;exact Gs 3 10 (AA Z aa) Z (Gs 3 10 (AA Z aa) Z (Gs 3 10 (AA Z aa) Z (Pk false (.bool false) Z (AA Z aa) Z (Az (.bool false) Z (Nl (⟨Z,Z,Et (b:=(.bool false:Value)) Z (congrArg Value.bool (by (simp [aa];done):false=(Q1f lo n hi)))⟩))))))
 ·rintro _ _ _ ⟨ac,ab,ad⟩;subst ac;subst ab;exact Rt (⟨Zr,IP Z (v:=.bool (Q1f lo n hi)) ad (⟨(by rfl),Z⟩)⟩)
theorem NO(xl:Int)(xh:Int)(lo:Int)(hi:Int):AW W 106 #[.agg #[J xl,J xh],J lo,J hi] h (λv h'=>v=(.bool (decide ((lo<=xl/\xl<=xh)/\xh<=hi)):Value)/\h.Le h'):=by
 refine Ct func106 Z (Sr (Pl Z (Bo #[J xl,J xh] Z Z λ_ h2 _ ae ad _=>Az (.bool false) Z (Nl (BE (λσ' ds' h'=>ds'=[]/\h2=h'/\σ' 6=.bool (Q1i lo xl xh hi)) ?_ ?_)))))
 ·refine Rg (Fz Dg Z (Lz (J xl) Z (Rd.one AJ ad Z) (Mz (J lo) Z (Pl Z (CC Z Z (Mz (Qv lo xl) Z (Au (p:=lo<=xl) ?_ ?_)))))))
  ·intro aa;refine Gg 4 11 (AC Z aa) Z (AO Dh Z (Gg 4 11 (AC Z aa) Z (Lo (J xh) Z (Rd.one AJ ad Z) (Gg 4 11 (AC Z aa) Z (AO Dg Z (Gg 4 11 (AC Z aa) Z (Lo (J xl) Z (Rd.one AJ ad Z) (Gg 4 11 (AC Z aa) Z (CC Z Z (Pk true (Qv xl xh) Z (AC Z aa) Z (Mz (Qv xl xh) Z (Au (p:=xl<=xh) ?_ ?_))))))))))))
   ·intro ab;exact Gg 11 18 (AC Z ab) Z (AO Dh Z (Gg 11 18 (AC Z ab) Z (Lo (J xh) Z (Rd.one AJ ad Z) (Gg 11 18 (AC Z ab) Z (Mo (J hi) Z (Gg 11 18 (AC Z ab) Z (DN Z Z (Pk true (Qv xh hi) Z (AC Z ab) Z (Az (Qv xh hi) Z (Nl (⟨Z,Z,Et (b:=(.bool (decide (xh<=hi)):Value)) Z (congrArg Value.bool (by (simp [aa,ab];done):decide (xh<=hi)=(Q1i lo xl xh hi)))⟩)))))))))))
   ·intro ab;exact Gs 11 18 (AA Z ab) Z (Gs 11 18 (AA Z ab) Z (Gs 11 18 (AA Z ab) Z (Gs 11 18 (AA Z ab) Z (Pk false (.bool false) Z (AA Z ab) Z (Az (.bool false) Z (Nl (⟨Z,Z,Et (b:=(.bool false:Value)) Z (congrArg Value.bool (by (simp [aa,ab];done):false=(Q1i lo xl xh hi)))⟩)))))))
  ·intro aa;exact Gs 4 11 (AA Z aa) Z (Gs 4 11 (AA Z aa) Z (Gs 4 11 (AA Z aa) Z (Gs 4 11 (AA Z aa) Z (Gs 4 11 (AA Z aa) Z (Pk false (.bool false) Z (AA Z aa) Z (Mz (.bool false) Z (Gs 11 18 Z Z (Gs 11 18 Z Z (Gs 11 18 Z Z (Gs 11 18 Z Z (Pz false (.bool false) Z (Az (.bool false) Z (Nl (⟨Z,Z,Et (b:=(.bool false:Value)) Z (congrArg Value.bool (by (simp [aa];done):false=(Q1i lo xl xh hi)))⟩))))))))))))))
 ·rintro _ _ _ ⟨af,ac,ag⟩;subst af;subst ac;exact Rt (⟨Zr,IP Z (v:=.bool (Q1i lo xl xh hi)) ag (⟨(by rfl),ae⟩)⟩)
theorem Ue(c:Int):AW W 117 #[.int .u8 c] h (λv h'=>v=(.bool (decide (Em c)):Value)/\h=h'):=by
 refine Ct func117 Z (Sr (Az (.bool false) Z (Nl (BE (λσ' ds' h'=>ds'=[]/\h=h'/\σ' 2=.bool (Q1r c)) ?_ ?_))))
 ·refine Rg (Mz (.int .u8 c) Z (Pl Z (CC Z Z (Mz (.bool (decide (97<=c))) Z (Au (p:=97<=c) ?_ ?_)))))
  ·intro aa;exact Gg 2 5 (AC Z aa) Z (Mo (.int .u8 c) Z (Gg 2 5 (AC Z aa) Z (DN Z Z (Pk true (.bool (decide (c<=122))) Z (AC Z aa) Z (Az (.bool (decide (c<=122))) Z (Nl (⟨Z,Z,Et (b:=(.bool (decide (c<=122)):Value)) Z (congrArg Value.bool (by (simp [aa];done):decide (c<=122)=(Q1r c)))⟩)))))))
  ·intro aa;exact Gs 2 5 (AA Z aa) Z (Gs 2 5 (AA Z aa) Z (Pk false (.bool false) Z (AA Z aa) Z (Az (.bool false) Z (Nl (⟨Z,Z,Et (b:=(.bool false:Value)) Z (congrArg Value.bool (by (simp [aa];done):false=(Q1r c)))⟩)))))
 ·rintro _ _ _ ⟨ac,ab,ad⟩;subst ac;subst ab;exact Rt (⟨Zr,IP Z (v:=.bool (Q1r c)) ad (⟨(by rfl),Z⟩)⟩)
theorem Wj(c:Int):AW W 118 #[.int .u8 c] h (λv h'=>v=(.bool (decide (E2 c)):Value)/\h=h'):=by
 refine Ct func118 Z (Sr (Az (.bool false) Z (Nl (BE (λσ' ds' h'=>ds'=[]/\h=h'/\σ' 2=.bool (Q1x c)) ?_ ?_))))
 ·refine Rg (Mz (.int .u8 c) Z (Pl Z (CC Z Z (Mz (.bool (decide (48<=c))) Z (Au (p:=48<=c) ?_ ?_)))))
  ·intro aa;exact Gg 2 5 (AC Z aa) Z (Mo (.int .u8 c) Z (Gg 2 5 (AC Z aa) Z (DN Z Z (Pk true (.bool (decide (c<=57))) Z (AC Z aa) Z (Az (.bool (decide (c<=57))) Z (Nl (⟨Z,Z,Et (b:=(.bool (decide (c<=57)):Value)) Z (congrArg Value.bool (by (simp [aa];done):decide (c<=57)=(Q1x c)))⟩)))))))
  ·intro aa;exact Gs 2 5 (AA Z aa) Z (Gs 2 5 (AA Z aa) Z (Pk false (.bool false) Z (AA Z aa) Z (Az (.bool false) Z (Nl (⟨Z,Z,Et (b:=(.bool false:Value)) Z (congrArg Value.bool (by (simp [aa];done):false=(Q1x c)))⟩)))))
 ·rintro _ _ _ ⟨ac,ab,ad⟩;subst ac;subst ab;exact Rt (⟨Zr,IP Z (v:=.bool (Q1x c)) ad (⟨(by rfl),Z⟩)⟩)
theorem QB(xs:List Int)(xsv:Value)(fv:Value)(p:Int->Bool)(hxs:AE h xsv 1 eI xs)(hf:∀x ∈ xs,∀h1,h.Le h1->Bw W fv #[J x] h1 λv h2=>v=.bool (p x)/\h1.Le h2):AW W 169 #[xsv,fv] h (λv h'=>v=(J (idxOf p xs):Value)/\h.Le h'):=by
 have ac:=hxs.len;refine Ct func169 Z (Sr (Az (J 0) Z (Nl (S2 (Mz xsv Z (Pl Z (AQ BL hxs Z (Mz (J 0) Z (Nl (Bk (Ab (λnn σ' ds' h'=>∃(k:Nat),nn=xs.length-k/\(k<=xs.length)/\((xs.take k).any p=false)/\ds'=[]/\GH.Le h h'/\σ' 0=xsv/\σ' 1=fv/\σ' 7=J (xs.length:Int)/\σ' 8=J k) ⟨0,Z,aA,aD,Z,Lr,Z,Z,Z,Z⟩ (λnn _ _ _ am=>?_))))))))))));obtain ⟨k,rfl,hk,hs,x6,x7,x8,x9,al,ad⟩:=am;subst x6;refine Sr (Pl Z (An ad al (Nl (Sq (AT Z (λae=>?_) (λae=>?_))))))
 ·refine Sk (Sq (Bk (Sr (Mv (J k) Z ad (Az (J k) Z (Nl (Sr (Mv fv Z x9 (Mv xsv Z x8 (Mz (J k) Z ?_))))))))));have af:(0:Int)<=(k:Int):=aA
  have ag:(k:Int)<((xs.length:Nat):Int):=aA
  refine Pl Z (Aa AP hxs Z Z af ag λan ab ah=>have ai:AZ _ an ab 1 (eI (xs.getD k 0)):=AZ.getD 0 ah;Lz (Nf xs k) Z (BU AJ (ai.le x7) Z) (Pl Z (KZ Z (vs:=#[J (xs.getD k 0)]) (by simp only [List.map_toArray,List.map_cons,List.map_nil,AN] <;> rfl) ((hf (xs.getD k 0) (B0 aA) _ x7).mono λ_ _ aj=>?_))));obtain ⟨rfl,aa⟩:=aj;refine Nl (Cb Z (λak=>?_) (λak=>?_))
  ·exact Sr (Mz (J k) Z (Az (J k) Z (Nl (Rt (⟨Zr,Ot (J k) Z (⟨(by (rw [HV (k:=k) aA hs ‹_›];done)),(x7.trans aa)⟩)⟩)))))
  ·exact Sk (Rg (Ad _ _ Z ad Z aA (Mz (J ((k:Int)+1)) Z (Nl (⟨_,aA,k+1,Z,aA,(by exact EO (d:=0) aA hs ‹_›),Z,(x7.trans aa),x8,x9,al,Z⟩)))))
 ·exact Xt (Sr (Az (J (-1)) Z (Nl (Rt (⟨Zr,Ot (J (-1)) Z (⟨(by (rw [GR (k:=k) aA hs])),x7⟩)⟩)))))
theorem Ig(xs:List Int)(xsv:Value)(fv:Value)(p:Int->Bool)(hxs:AE h xsv 1 eI xs)(hf:∀x ∈ xs,∀h1,h.Le h1->Bw W fv #[J x] h1 λv h2=>v=.bool (p x)/\h1.Le h2):AW W 163 #[xsv,fv] h (λv h'=>v=(.bool (xs.any p):Value)/\h.Le h'):=by
 have aa:=hxs.len;refine Ct func163 Z (Sr (Az (.bool false) Z (Nl (Sr (Mz xsv Z (Mz fv Z (Pl Z (AS func169 WX Z Z ((QB xs xsv fv p hxs (λx hx h1 l1=>hf x hx h1 (GH.Le.trans Lr l1))).mono λ_ _ ac=>?_)))))))));obtain ⟨rfl,ab⟩:=ac;exact Pl Z (CC Z Z (Az (.bool (decide (0<=(idxOf p xs)))) Z (Nl (Rt (⟨Zr,Ot (.bool (decide (0<=(idxOf p xs)))) Z (⟨(by rw [show decide (0<=idxOf p xs)=xs.any p from by rw [Bool.eq_iff_iff];simp [E3]]),ab⟩)⟩)))))
end Go.Ns
