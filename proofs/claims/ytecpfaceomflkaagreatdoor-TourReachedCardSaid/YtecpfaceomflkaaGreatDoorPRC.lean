/- Rules and walks, part 3 of 7. No conditions. -/
import Derived.Carry
import Derived.Conc.LeavingOf
import Derived.LaidMore
import Derived.OpenShut
import Derived.Test.YtecpfaceomflkaaGreatDoorPRB
set_option linter.unusedVariables false
set_option linter.unusedSimpArgs false
set_option linter.unnecessarySimpa false
set_option linter.unusedSectionVars false
namespace Go.Ns
open Go.Conc
section
variable {P:Program} {E:Gh P} {O:Nat->Value} {ds:List Deferred} {h:GH} {T:(Nat->Value)->List Deferred->GH->Prop} {dst:Option Nat} {ty:TypeId} {pos:String} {af:Array Edge} {gd:Option (Nat×Bool)}
theorem Ze{xt yt:TypeId}{x y:Operand}{a b:Bool}(hx:AR O x=.bool a)(hy:AR O y=.bool b)(he:Pb P 1 xt (.bool a) (.bool b)=some (a==b))(k:T (putS O dst (.bool (a==b))) ds h):BT E ⟨dst,.binOp .eql xt x y yt,ty,pos,af,gd⟩ O ds h T:=by
 unfold BT execOp;simp only [hx,hy];refine GJ (AF _ _ ?_);have hg:∀(Q:Unit->GH->Prop),Q () h->(eqGuard .eql xt x y (.bool a) (.bool b)).gh P h Q:=λQ q=>q;refine hg _ ?_;show Sem.gh P (do pure (Value.bool (<-Op.equal xt (.bool a) (.bool b))):Sem Value) h _;refine AF _ _ ?_;exact JQ 1 _ _ _ _ (a==b) h _ aC he k
theorem Ra{t:TypeId}{x o:Operand}{m n b off hi:Nat}(ht:N5 P t=some (m,n))(hx:AR O x=.pointer (some ⟨b,off,none⟩))(ho:∃kd,AR O o=.int kd hi)(h2:hi<=m)(k:T (putS O dst (.slice (some ⟨b,off,none⟩) hi m)) ds h) :
  BT E ⟨dst,.slice t x none (some o) none,ty,pos,af,gd⟩ O ds h T:=by
 obtain ⟨kd,e⟩:=ho;unfold BT execOp;simp only [hx];refine GJ ?_;unfold N5 at ht;unfold Instr.sliceAt;cases hu:P.underlying t with
 | none=>rw [hu] at ht;cases ht
 | some d=>
  rw [hu] at ht;cases d <;> first | (cases ht;done) | skip
  rename_i el
  simp only [Option.map_eq_some_iff,Prod.mk.injEq] at ht;obtain ⟨x0,hx0,rfl,rfl⟩:=ht;refine AF _ _ (Ao hu ?_);dsimp only;refine AF _ _ (Ay ?_);unfold Instr.sliceBounds;simp only [Option.map_some,Option.map_none,e,Bool.false_eq_true,↓reduceIte];refine AF _ _ (AF _ _ (Ay (AF _ _ (DW aA aA (AF _ _ (Ay (Ay ?_)))))));refine AF _ _ (EQ hx0 (Ay ?_));simp only [Nat.sub_zero,Nat.zero_mul,JN,Nat.add_zero,ite_self,Int.toNat_natCast];exact k
end
def eBo(b:Bool):Array Value:=#[.bool b]
theorem can_sl{h:GH}{r n:Nat}{p:Bool}{c:Gr}{t:TypeId}{f:Nat×Nat}(hb:h r=some (p,.cells (GT c) t f))(hn:n<=4):AO h (.slice (some ⟨r,0,none⟩) n 4) 1 eBo (O0 c n):=by
 refine ⟨some ⟨r,0,none⟩,4,by simp [O0],by simpa [O0] using hn,by simp [O0];omega,λi hi=>⟨r,0,rfl,p,_,t,f,hb,?_,?_⟩⟩
 ·have:i<n:=by simpa [O0] using hi
  show 0+i*1+1<=4;omega
 ·have hi':i<n:=by simpa [O0] using hi
  have h4:i<4:=aA
  have e:(O0 c n)[i]=c i:=by simp [O0]
  rw [e]
  match i,h4 with
  | 0,_=>rfl
  | 1,_=>rfl
  | 2,_=>rfl
  | 3,_=>rfl
theorem QE{ws:List AB}{c c':Gr}{np k:Nat}(h:Ec ws (np-k) c=c')(hk:np<=k):c=c':=by
 rw [Nat.sub_eq_zero_of_le hk] at h;exact h
theorem VN{ws:List AB}{c c':Gr}{np k:Nat}(h:Ec ws (np-k) c=c')(hk:k<np):Ec ws (np-(k+1)) (HJ ws c)=c':=by
 rw [show np-k=(np-(k+1))+1 by omega] at h;exact h
def BK(ws:List AB)(c:Gr)(k:Nat):Gr:=(ws.take k).foldl GU c
theorem XN{ws:List AB}{c:Gr}{k:Nat}(hk:k<ws.length):BK ws c (k+1)=GU (BK ws c k) (ws.getD k AB.z):=by
 unfold BK;rw [Cw AB.z hk,List.foldl_append];rfl
theorem canTo_all{ws:List AB}{c:Gr}{k:Nat}(hk:ws.length<=k):BK ws c k=HJ ws c:=by
 unfold BK HJ;rw [List.take_of_length_le hk]
structure AD where
 ways:Nat->Int
 works:Nat->Int
def AD.zero:AD:=⟨λ_=>0,λ_=>0⟩
def Af(p:AD):Array Value:=#[.int .i64 (p.ways 0),.int .i64 (p.ways 1),.int .i64 (p.ways 2),.int .i64 (p.ways 3),.int .i64 (p.ways 4),
 .int .i64 (p.works 0),.int .i64 (p.works 1),.int .i64 (p.works 2),.int .i64 (p.works 3)]
theorem GA(p:AD):(Value.agg (Af p)).cells.size=9:=rfl
theorem GB(p:AD):Value.fine (.agg (Af p))=true:=rfl
theorem Gt(p:AD):0+9<=(Af p).size:=Nat.le_refl 9
theorem Gu(p q:AD):Bq (Af p) 0 (Value.agg (Af q)).cells.toList=Af q:=by
 simp [Value.cells,Af,Bq]
def AD.setWay(p:AD)(i:Nat)(n:Int):AD:={ p with ways:=λk=>if k=i then n else p.ways k }
def AD.setWork(p:AD)(i:Nat)(n:Int):AD:={ p with works:=λk=>if k=i then n else p.works k }
theorem Gv{p:AD}{i:Nat}(h:i<5):(Af p)[0+i*1]? =some (.int .i64 (p.ways i)):=by
 match i,h with
 | 0,_=>rfl
 | 1,_=>rfl
 | 2,_=>rfl
 | 3,_=>rfl
 | 4,_=>rfl
theorem KG{p:AD}{i:Nat}(h:i<4):(Af p)[5+i*1]? =some (.int .i64 (p.works i)):=by
 match i,h with
 | 0,_=>rfl
 | 1,_=>rfl
 | 2,_=>rfl
 | 3,_=>rfl
theorem Rb{p:AD}{i:Nat}{n:Int}(h:i<5):Bq (Af p) (0+i*1) [.int .i64 n]=Af (p.setWay i n):=by
 match i,h with
 | 0,_=>rfl
 | 1,_=>rfl
 | 2,_=>rfl
 | 3,_=>rfl
 | 4,_=>rfl
theorem QF{p:AD}{i:Nat}{n:Int}(h:i<4):Bq (Af p) (5+i*1) [.int .i64 n]=Af (p.setWork i n):=by
 match i,h with
 | 0,_=>rfl
 | 1,_=>rfl
 | 2,_=>rfl
 | 3,_=>rfl
def AD.put(p:AD)(nw i:Nat)(n:Int):AD:=if i<nw then p.setWay i n else p.setWork (i-nw) n
theorem AD.put_put(p:AD)(nw i:Nat)(n m:Int):(p.put nw i n).put nw i m=p.put nw i m:=by
 unfold AD.put;split
 ·unfold AD.setWay;congr 1;funext k;simp only [];split <;> rfl
 ·unfold AD.setWork;congr 1;funext k;simp only [];split <;> rfl
def FT(p:AD)(l:List Int):Int:=(l.map λk=>p.ways k.toNat).sum
def Bi(ns:List AJ)(p:AD):Bool:=ns.all λx=>decide (x.low<=FT p x.ways/\FT p x.ways<=x.high)
structure BJ(p:AD):Prop where
 ways:∀k,0<=p.ways k/\p.ways k<=30
 works:∀k,0<=p.works k/\p.works k<=30
def MY(ns:List AJ)(p:AD)(k:Nat):Bool:=decide ((ns.getD k AJ.z).low<=FT p (ns.getD k AJ.z).ways/\FT p (ns.getD k AJ.z).ways<=(ns.getD k AJ.z).high)
theorem MZ{p:AD}{l:List Int}{q:Nat}(h:q<l.length):FT p (l.take (q+1))=FT p (l.take q)+p.ways (l.getD q 0).toNat:=by
 unfold FT;rw [Cw 0 h];simp
theorem OL{p:AD}{l:List Int}{q:Nat}(h:l.length<=q):FT p (l.take q)=FT p l:=by rw [List.take_of_length_le h]
theorem OM{p:AD}{ns:List AJ}{k q:Nat}{s:Int}(hs:s=FT p ((ns.getD k AJ.z).ways.take q))(hq:(ns.getD k AJ.z).ways.length<=q)(h:(ns.getD k AJ.z).low<=s/\s<=(ns.getD k AJ.z).high):MY ns p k=true:=by
 rw [OL hq] at hs;subst hs;exact decide_eq_true h
theorem QG{p:AD}{ns:List AJ}{k:Nat}(h:∀j,j<k->MY ns p j=true)(hk:ns.length<=k):Bi ns p=true:=by
 unfold Bi;rw [List.all_eq_true];intro x hx;obtain ⟨i,hi,rfl⟩:=List.mem_iff_getElem.1 hx
 have:=h i aA
 unfold MY at this;rw [CX AJ.z hi] at this;exact this
theorem SJ{p:AD}{ns:List AJ}{k q:Nat}{s:Int}(hk:k<ns.length)(hs:s=FT p ((ns.getD k AJ.z).ways.take q))(hq:(ns.getD k AJ.z).ways.length<=q)(h:¬((ns.getD k AJ.z).low<=s/\s<=(ns.getD k AJ.z).high)):Bi ns p=false:=by
 rw [OL hq] at hs;subst hs;rw [CX AJ.z hk] at h;unfold Bi;rw [List.all_eq_false];exact ⟨ns[k],List.getElem_mem hk,by simpa using h⟩
theorem Lh{f:Nat->Bool}{k:Nat}(h:∀j,j<k->f j=true)(e:f k=true):∀j,j<k+1->f j=true:=λj hj=>by
 rcases Nat.lt_succ_iff_lt_or_eq.1 hj with q | rfl
 ·exact h j q
 ·exact e
theorem Li{nw:Nat}{ns:List AJ}(h:∀k,k<ns.length->Dz nw ns k=0)(k:Nat):(ns.getD k AJ.z).ways.length<=5/\(∀q,0<=(ns.getD k AJ.z).ways.getD q 0/\((ns.getD k AJ.z).ways.getD q 0=0\/(ns.getD k AJ.z).ways.getD q 0<=(nw:Int)-1)):=by
 rcases Nat.lt_or_ge k ns.length with hk | hk
 ·have e:=h k hk;unfold Dz at e;split at e
  ·cases e
  ·split at e
   ·cases e
   ·rename_i h5 h6
    refine ⟨aA,λq=>?_⟩;rcases Nat.lt_or_ge q (ns.getD k AJ.z).ways.length with hq | hq
    ·have h7:¬∃x ∈ (ns.getD k AJ.z).ways,¬(0<=x/\x<=(nw:Int)-1):=by simpa [List.any_eq_true] using h6
     have h8:0<=(ns.getD k AJ.z).ways.getD q 0/\(ns.getD k AJ.z).ways.getD q 0<=(nw:Int)-1:=Classical.byContradiction λz=>h7 ⟨_,Bf hq,z⟩;exact ⟨h8.1,.inr h8.2⟩
    ·rw [BW hq];exact ⟨Int.le_refl _,.inl rfl⟩
 ·rw [BW hk];refine ⟨by simp [AJ.z],λq=>?_⟩;simp [AJ.z]
def CQ(ws:List AB)(js:List AM)(i:Nat):Int:=if i<ws.length then (ws.getD i AB.z).low else (js.getD (i-ws.length) AM.z).low
def GC(ws:List AB)(js:List AM)(i:Nat):Int:=if i<ws.length then (ws.getD i AB.z).high else (js.getD (i-ws.length) AM.z).high
def CJ(ag:AD->Bool)(ws:List AB)(js:List AM):Nat->Nat->AD->List AD
 | 0,_,p=>[p]
 | f+1,i,p=>(EN (CQ ws js i) (GC ws js i)).flatMap λn=>if i+1=ws.length/\ag (p.put ws.length i n)=false then [] else CJ ag ws js f (i+1) (p.put ws.length i n)
def B9(ag:AD->Bool)(ws:List AB)(js:List AM)(f i:Nat)(p:AD)(n:Int):List AD:=
 if i+1=ws.length/\ag (p.put ws.length i n)=false then [] else CJ ag ws js f (i+1) (p.put ws.length i n)
theorem EM(ag:AD->Bool)(ws:List AB)(js:List AM)(f i:Nat)(p:AD) :
  CJ ag ws js (f+1) i p=(EN (CQ ws js i) (GC ws js i)).flatMap (B9 ag ws js f i p):=rfl
def AE(ws:List AB)(js:List AM)(ns:List AJ):List AD:=
 if 0<ws.length\/Bi ns AD.zero=true then CJ (Bi ns) ws js (ws.length+js.length) 0 AD.zero else []
def Hh(nw i:Nat):Nat:=if i<nw then 0+i*1 else 5+(i-nw)*1
theorem tCell_way{nw i:Nat}(h:i<nw):Hh nw i=0+i*1:=if_pos h
theorem XO{nw i:Nat}(h:¬i<nw):Hh nw i=5+(i-nw)*1:=if_neg h
theorem Kt{p:AD}{nw nj i:Nat}{v:Int}(hw:nw<=5)(hj:nj<=4)(hi:i<nw+nj):(Af (p.put nw i v))[Hh nw i]? =some (.int .i64 v):=by
 unfold AD.put Hh;split
 ·rw [Gv aA];simp [AD.setWay]
 ·rw [KG aA];simp [AD.setWork]
theorem GW{p:AD}{nw nj i:Nat}{v:Int}(hw:nw<=5)(hj:nj<=4)(hi:i<nw+nj):Bq (Af p) (Hh nw i) [.int .i64 v]=Af (p.put nw i v):=by
 unfold AD.put Hh;split
 ·exact Rb aA
 ·exact QF aA
theorem KH{nw nj i:Nat}(hw:nw<=5)(hj:nj<=4)(hi:i<nw+nj):Hh nw i+1<=9:=by unfold Hh;split <;> omega
def AD.zeros(p:AD)(nw i:Nat):Prop:=(∀k,i<=k->k<nw->p.ways k=0)/\∀k,i<=nw+k->p.works k=0
theorem AD.zeros_put{p:AD}{nw i:Nat}(h:p.zeros nw i):p.put nw i 0=p:=by
 obtain ⟨wy,wo⟩:=p;unfold AD.put AD.setWay AD.setWork;split
 ·rename_i hi
  congr 1;funext k;split
  ·rename_i e;subst e;exact (h.1 k (Nat.le_refl _) hi).symm
  ·rfl
 ·rename_i hi
  congr 1;funext k;split
  ·rename_i e;subst e;exact (h.2 (i-nw) aA).symm
  ·rfl
theorem AD.zeros_next{p:AD}{nw i:Nat}{v:Int}(h:p.zeros nw i):(p.put nw i v).zeros nw (i+1):=by
 unfold AD.put;split
 ·refine ⟨λk h1 h2=>?_,λk h1=>h.2 k aA⟩;show (if k=i then v else p.ways k)=0;rw [if_neg aA];exact h.1 k aA h2
 ·refine ⟨λk h1 h2=>h.1 k aA h2,λk h1=>?_⟩;show (if k=i-nw then v else p.works k)=0;rw [if_neg aA];exact h.2 k aA
theorem AD.zeros_zero(nw i:Nat):AD.zero.zeros nw i:=⟨λ_ _ _=>rfl,λ_ _=>rfl⟩
theorem BJ.zero:BJ AD.zero:=⟨λ_=>(aC:(0:Int)<=0/\(0:Int)<=30),λ_=>(aC:(0:Int)<=0/\(0:Int)<=30)⟩
theorem BJ.put{p:AD}(h:BJ p){nw i:Nat}{v:Int}(hv:0<=v/\v<=30):BJ (p.put nw i v):=by
 unfold AD.put;split
 ·refine ⟨λk=>?_,h.works⟩;show 0<=(if k=i then v else p.ways k)/\(if k=i then v else p.ways k)<=30;split
  ·exact hv
  ·exact h.ways k
 ·refine ⟨h.ways,λk=>?_⟩;show 0<=(if k=i-nw then v else p.works k)/\(if k=i-nw then v else p.works k)<=30;split
  ·exact hv
  ·exact h.works k
section
variable {bag kinds:Int} {ps:List ByteArray} {ws:List AB} {js:List AM} {ns:List AJ} {ag:AD->Bool} {p:AD} {all pre:List AD} {f i k:Nat}
theorem A6.few(b:A6 bag kinds ps ws js ns)(hi:i<ws.length+js.length):0<=CQ ws js i/\CQ ws js i<=GC ws js i/\GC ws js i<=30/\GC ws js i-CQ ws js i<2:=by
 unfold CQ GC;by_cases h:i<ws.length
 ·rw [if_pos h,if_pos h];exact (IK b.way i h).time
 ·rw [if_neg h,if_neg h];exact (KF (b.job (i-ws.length) aA)).time
theorem tour_skip(e:i+1=ws.length)(h:ag (p.put ws.length i (CQ ws js i+(k:Int)))=false) :
  pre++(CT (CQ ws js i) (k+1)).flatMap (B9 ag ws js f i p)=pre++(CT (CQ ws js i) k).flatMap (B9 ag ws js f i p):=by
 rw [OC];unfold B9;rw [if_pos ⟨e,h⟩,List.append_nil]
theorem SK(h:¬(i+1=ws.length/\ag (p.put ws.length i (CQ ws js i+(k:Int)))=false)) :
  pre++(CT (CQ ws js i) (k+1)).flatMap (B9 ag ws js f i p)=(pre++(CT (CQ ws js i) k).flatMap (B9 ag ws js f i p))++CJ ag ws js f (i+1) (p.put ws.length i (CQ ws js i+(k:Int))):=by
 rw [OC,<-List.append_assoc];congr 1;unfold B9;rw [if_neg h]
theorem ON(hw:CU all pre (CJ ag ws js (f+1) i p))(hk:CQ ws js i+(k:Int)<=GC ws js i)(h:¬(i+1=ws.length/\ag (p.put ws.length i (CQ ws js i+(k:Int)))=false)) :
  CU all (pre++(CT (CQ ws js i) k).flatMap (B9 ag ws js f i p)) (CJ ag ws js f (i+1) (p.put ws.length i (CQ ws js i+(k:Int)))):=by
 rw [EM] at hw
 have:=hw.round hk
 unfold B9 at this ⊢;rw [if_neg h] at this;exact this
end
theorem Lj{lo hi:Int}(h:hi-lo<2):(EN lo hi).length<=2:=by unfold EN CT;simp;omega
theorem Ma{bag kinds:Int}{ps:List ByteArray}{ws:List AB}{js:List AM}{ns:List AJ}(b:A6 bag kinds ps ws js ns)(ag:AD->Bool):∀(f i:Nat)(p:AD),i+f=ws.length+js.length->(CJ ag ws js f i p).length<=2 ^ f
 | 0,_,_,_=>Nat.le_refl _
 | f+1,i,p,h=>by
  rw [EM];have h1:=(b.few (i:=i) aA).2.2.2;have h2:=J8 (f:=B9 ag ws js f i p) (c:=2 ^ f) (l:=EN (CQ ws js i) (GC ws js i)) λx _=>by
   unfold B9;split
   ·exact Nat.zero_le _
   ·exact Ma b ag f (i+1) _ aA
  have h3:=Nat.mul_le_mul_right (2 ^ f) (Lj h1);rw [Nat.pow_succ];omega
theorem Eu{bag kinds:Int}{ps:List ByteArray}{ws:List AB}{js:List AM}{ns:List AJ}(b:A6 bag kinds ps ws js ns):(AE ws js ns).length<=2000000:=by
 unfold AE;split
 ·have h1:=Ma b (Bi ns) (ws.length+js.length) 0 AD.zero aA;have h2:2 ^ (ws.length+js.length)<=2 ^ 9:=Nat.pow_le_pow_right aA (by have:=b.wlen;have:=b.jlen;omega);omega
 ·exact Nat.zero_le _
def Lk(bag kinds:Int)(ps:List ByteArray)(ws:List AB)(js:List AM)(ns:List AJ):Int:=if BX bag kinds ps ws js ns=0 then ((AE ws js ns).length:Int) else 0
section
variable {bag kinds:Int} {ps:List ByteArray} {ws:List AB} {js:List AM} {ns:List AJ}
theorem tHist_bad(h:¬BX bag kinds ps ws js ns=0):(.tuple #[.int .i64 0,.int .i64 (BX bag kinds ps ws js ns)]:Value)=.tuple #[.int .i64 (Lk bag kinds ps ws js ns),.int .i64 (BX bag kinds ps ws js ns)]:=by
 unfold Lk;rw [if_neg h]
theorem tHist_ok(h:¬¬BX bag kinds ps ws js ns=0):(.tuple #[.int .i64 ((AE ws js ns).length:Int),.int .i64 0]:Value)=.tuple #[.int .i64 (Lk bag kinds ps ws js ns),.int .i64 (BX bag kinds ps ws js ns)]:=by
 have e:=Decidable.not_not.1 h;unfold Lk;rw [if_pos e,e]
end
section
variable {V:Type} {hB h hc h':GH} {I:List V->(Nat->Prop)->GH->Prop} {S:GH->Prop} {rp:Nat} {T:TypeId} {c c':Array Value} {X0 X:Nat->Prop} {pre l:List V} {v:Value}
theorem Ez.stoppedI{I':List V->(Nat->Prop)->GH->Prop}{pre':List V}(hv:v=.bool false)(r:∀l',Ez hB I S pre X0 h l' (.bool false) h'):Ez hB I' S pre' X0 h l v h':=by
 obtain ⟨ok,X',e,hs,hk,hl,_,h2⟩:=r [];cases e;exact ⟨false,X',hv,hs,hk,hl,(λx=>by cases x),h2⟩
def De(I:List V->(Nat->Prop)->GH->Prop)(rp:Nat)(T:TypeId)(c:Array Value):List V->(Nat->Prop)->GH->Prop:=λpre X h=>
 ∃X',I pre X' h/\¬X' rp/\(∀b,X b↔X' b\/b=rp)/\h rp=some (true,.cells c T (0,0))
theorem De.prom(P:Gb hB I):Gb hB (De I rp T c):=by
 refine ⟨?_,?_⟩
 ·rintro pre X h b ⟨X',i,n,hX,hp⟩ hb;rcases (hX b).1 hb with q | rfl
  ·exact P.dom _ _ _ _ i q
  ·exact ⟨_,_,hp,rfl⟩
 ·rintro pre X h h' ⟨X',i,n,hX,hp⟩ same lB;exact ⟨X',P.stable _ _ _ _ i (λb hb=>same b ((hX b).2 (.inl hb))) lB,n,hX,by rw [same rp ((hX rp).2 (.inr rfl))];exact hp⟩
theorem De.box(x:De I rp T c pre X h):h rp=some (true,.cells c T (0,0)):=by obtain ⟨_,_,_,_,e⟩:=x;exact e
theorem De.mem(x:De I rp T c pre X h):X rp:=by obtain ⟨X',_,_,hX,_⟩:=x;exact (hX rp).2 (.inr rfl)
theorem Em.put(P:Gb hB I)(y:Em hB (De I rp T c) X0 h pre X hc)(rB:hB rp=none)(nb:h' rp=some (true,.cells c' T (0,0)))(ho:∀b,b≠rp->h' b=hc b):Em hB (De I rp T c') X0 h pre X h':=by
 obtain ⟨⟨X',i,n,hX,hp⟩,sub,keep,base⟩:=y;exact ⟨⟨X',P.store i n ho (base.upd rB ho),n,hX,nb⟩,sub,keep.store' (sub rp ((hX rp).2 (.inr rfl))) ho,base.upd rB ho⟩
theorem De.call{P:Program}{W:Wk P}{yv:Value}{args:Array Value}(x:De I rp T c pre X hc)(k:∀X',I pre X' hc->Bz W yv args hc (Ez hB I S pre X' hc l)):Bz W yv args hc (Ez hB (De I rp T c) S pre X hc l):=by
 have x':=x;obtain ⟨X',i,n,hX,hp⟩:=x;refine (k X' i).mono λv h' r=>?_;obtain ⟨ok,X1,hv,hs,hk,hl,h1,h2⟩:=r;have n1:¬X1 rp:=λq=>(hs rp q).elim n λe=>by rw [hp] at e;cases e
 refine ⟨ok,λb=>X1 b\/b=rp,hv,?_,λb p o hb hn=>hk b p o hb λq=>hn ((hX b).2 (.inl q)),hl,λe=>⟨X1,h1 e,n1,λ_=>Iff.rfl,hk.box hp n rfl⟩,h2⟩;rintro b (q | rfl)
 ·exact (hs b q).imp (λq=>(hX b).2 (.inl q)) id
 ·exact .inl ((hX _).2 (.inr rfl))
theorem De.start(x:I pre X hc)(hp:hc rp=some (true,.cells c T (0,0)))(n:¬X rp):De I rp T c pre (λb=>X b\/b=rp) hc:=⟨X,x,n,λ_=>Iff.rfl,hp⟩
theorem De.final{X0:Nat->Prop}(y:Em hB I X0 h pre X hc)(hn:h rp=none)(r:Ez hB (De I rp T c) S pre (λb=>X b\/b=rp) hc l v h'):Ez hB I S pre X0 h l v h':=by
 obtain ⟨ok,X1,hv,hs,hk,hl,h1,h2⟩:=r;cases ok with
 | true=>
  obtain ⟨X2,i2,n2,hX2,hp2⟩:=h1 rfl;refine ⟨true,X2,hv,λb q=>?_,?_,hl,λ_=>i2,λe=>by cases e⟩
  ·rcases hs b ((hX2 b).2 (.inl q)) with (q1 | rfl) | q1
   ·exact y.sub b q1
   ·exact absurd q n2
   ·exact subX y.sub y.keep (X1:=λz=>z=b) (λz e=>.inr (by rw [e];exact q1)) b rfl
  ·intro b p o hb hX;obtain ⟨o',e1,e2⟩:=y.keep b p o hb hX;obtain ⟨o2,e3,e4⟩:=hk b p o' e1 (λq=>q.elim (λq=>(y.sub b q).elim hX λe=>by rw [e] at hb;cases hb) λe=>by rw [e,hn] at hb;cases hb);refine ⟨o2,e3,?_⟩;rcases e2 with rfl | e2
   ·exact e4
   ·rcases e4 with rfl | e4
    ·exact .inr e2
    ·exact .inr ⟨e2.1,e4.2⟩
 | false=>
  refine ⟨false,λb=>X0 b\/h b=none,hv,λb q=>q,?_,hl,(λe=>by cases e),λ_=>h2 rfl⟩;intro b p o hb hX;obtain ⟨o',e1,e2⟩:=y.keep b p o hb hX;obtain ⟨o2,e3,e4⟩:=hk b p o' e1 (λq=>q.elim (λq=>(y.sub b q).elim hX λe=>by rw [e] at hb;cases hb) λe=>by rw [e,hn] at hb;cases hb);refine ⟨o2,e3,?_⟩;rcases e2 with rfl | e2
  ·exact e4
  ·rcases e4 with rfl | e4
   ·exact .inr e2
   ·exact .inr ⟨e2.1,e4.2⟩
end
end Go.Ns
namespace Go.Ns
open Go.Conc
abbrev Ed:=Nat->Nat->Int
def LF(m:Ed):Array Value:=#[.int .i64 (m 0 0),.int .i64 (m 0 1),.int .i64 (m 0 2),.int .i64 (m 0 3),.int .i64 (m 1 0),.int .i64 (m 1 1),.int .i64 (m 1 2),.int .i64 (m 1 3),
 .int .i64 (m 2 0),.int .i64 (m 2 1),.int .i64 (m 2 2),.int .i64 (m 2 3),.int .i64 (m 3 0),.int .i64 (m 3 1),.int .i64 (m 3 2),.int .i64 (m 3 3)]
def Ed.zero:Ed:=λ_ _=>0
def Ed.set(m:Ed)(i k:Nat)(v:Int):Ed:=λa b=>if a=i/\b=k then v else m a b
theorem KI{m:Ed}{i k:Nat}(hi:i<4)(hk:k<4):(LF m)[0+i*4+k*1]? =some (.int .i64 (m i k)):=by
 match i,hi with
 | 0,_=>match k,hk with
  | 0,_=>rfl
  | 1,_=>rfl
  | 2,_=>rfl
  | 3,_=>rfl
 | 1,_=>match k,hk with
  | 0,_=>rfl
  | 1,_=>rfl
  | 2,_=>rfl
  | 3,_=>rfl
 | 2,_=>match k,hk with
  | 0,_=>rfl
  | 1,_=>rfl
  | 2,_=>rfl
  | 3,_=>rfl
 | 3,_=>match k,hk with
  | 0,_=>rfl
  | 1,_=>rfl
  | 2,_=>rfl
  | 3,_=>rfl
theorem Mb{m:Ed}{i k:Nat}{v:Int}(hi:i<4)(hk:k<4):Bq (LF m) (0+i*4+k*1) [.int .i64 v]=LF (m.set i k v):=by
 match i,hi with
 | 0,_=>match k,hk with
  | 0,_=>rfl
  | 1,_=>rfl
  | 2,_=>rfl
  | 3,_=>rfl
 | 1,_=>match k,hk with
  | 0,_=>rfl
  | 1,_=>rfl
  | 2,_=>rfl
  | 3,_=>rfl
 | 2,_=>match k,hk with
  | 0,_=>rfl
  | 1,_=>rfl
  | 2,_=>rfl
  | 3,_=>rfl
 | 3,_=>match k,hk with
  | 0,_=>rfl
  | 1,_=>rfl
  | 2,_=>rfl
  | 3,_=>rfl
def Ll(i:Nat)(m:Ed)(k:Nat):Ed:=if¬(i:Int)=(k:Int) then m.set i k 1048576 else m
def HK(i:Nat)(m:Ed)(n:Nat):Ed:=(List.range n).foldl (Ll i) m
def Iv(n:Nat):Ed:=(List.range n).foldl (λm i=>HK i m 4) Ed.zero
def KJ(p:AD)(ws:List AB)(m:Ed)(k:Nat):Ed:=(m.set (ws.getD k AB.z).a.toNat (ws.getD k AB.z).b.toNat (p.ways k)).set (ws.getD k AB.z).b.toNat (ws.getD k AB.z).a.toNat (p.ways k)
def A3(p:AD)(ws:List AB)(n:Nat):Ed:=(List.range n).foldl (KJ p ws) (Iv 4)
def PC(by_ i:Nat)(m:Ed)(k:Nat):Ed:=m.set i k (min (m i k) (m i by_+m by_ k))
def Hq(by_ i:Nat)(m:Ed)(n:Nat):Ed:=(List.range n).foldl (PC by_ i) m
def OO(by_ np:Nat)(m:Ed)(i:Nat):Ed:=if m i by_=1048576 then m else Hq by_ i m np
def E1(by_ np:Nat)(m:Ed)(n:Nat):Ed:=(List.range n).foldl (OO by_ np) m
def Cf(np:Nat)(m:Ed)(n:Nat):Ed:=(List.range n).foldl (λm b=>E1 b np m np) m
def Aw(np:Nat)(ws:List AB)(p:AD):Ed:=Cf np (A3 p ws ws.length) np
theorem Av{β:Type}(f:β->Nat->β)(b:β)(n:Nat):(List.range (n+1)).foldl f b=f ((List.range n).foldl f b) n:=by rw [List.range_succ,List.foldl_append];rfl
def Ed.ok(m:Ed):Prop:=∀i k,0<=m i k/\m i k<=1048576
theorem Ed.ok_set{m:Ed}(h:m.ok){i k:Nat}{v:Int}(hv:0<=v/\v<=1048576):(m.set i k v).ok:=λa b=>by
 unfold Ed.set;split
 ·exact hv
 ·exact h a b
theorem Ed.ok_zero:Ed.zero.ok:=λ_ _=>⟨Int.le_refl 0,(aC:(0:Int)<=1048576)⟩
theorem IL{β:Type}{Q:β->Prop}{f:β->Nat->β}(hf:∀b k,Q b->Q (f b k)):∀{l:List Nat}{b:β},Q b->Q (l.foldl f b)
 | [],_,h=>h
 | x ::l,b,h=>IL hf (l:=l) (hf b x h)
theorem farRow_ok{i:Nat}{m:Ed}{k:Nat}(h:m.ok):(Ll i m k).ok:=by
 unfold Ll;split
 ·exact Ed.ok_set h aC
 ·exact h
theorem far0K_ok{i:Nat}{m:Ed}{n:Nat}(h:m.ok):(HK i m n).ok:=IL (λ_ _=>farRow_ok) h
theorem Zf{n:Nat}:(Iv n).ok:=IL (λ_ _ h=>far0K_ok h) Ed.ok_zero
theorem farWay_ok{p:AD}{ws:List AB}{m:Ed}{k:Nat}(hp:BJ p)(h:m.ok):(KJ p ws m k).ok:=by
 have:=hp.ways k
 exact Ed.ok_set (Ed.ok_set h aA) aA
theorem Lm{p:AD}{ws:List AB}{n:Nat}(hp:BJ p):(A3 p ws n).ok:=IL (λ_ _ h=>farWay_ok hp h) Zf
theorem XP{b i:Nat}{m:Ed}{k:Nat}(h:m.ok):(PC b i m k).ok:=by
 have h1:=h i k;have h2:=h i b;have h3:=h b k;exact Ed.ok_set h aA
theorem Zg{b i:Nat}{m:Ed}{n:Nat}(h:m.ok):(Hq b i m n).ok:=IL (λ_ _ h=>XP h) h
theorem farI1_ok{b np:Nat}{m:Ed}{i:Nat}(h:m.ok):(OO b np m i).ok:=by
 unfold OO;split
 ·exact h
 ·exact Zg h
theorem PD{b np:Nat}{m:Ed}{n:Nat}(h:m.ok):(E1 b np m n).ok:=IL (λ_ _ h=>farI1_ok h) h
theorem VO{np:Nat}{m:Ed}{n:Nat}(h:m.ok):(Cf np m n).ok:=IL (λ_ _ h=>PD h) h
theorem CF{c c':Array Value}(h:c.size=c'.size):Bq c 0 c'.toList=c':=by
 apply Array.toList_inj.1;rw [Ek _ _ _ (by simp [h])];simp [h]
theorem IM{b:Bool}(h:(!b)=true):b=false:=by cases b <;> simp_all
theorem IN{b:Bool}(h:(!b)=false):b=true:=by cases b <;> simp_all
abbrev FU:=(Int×Int×Int×Int×Int)×Int×Int
def FD(a:FU):Value:=.agg #[.int .i64 a.1.1,.int .i64 a.1.2.1,.int .i64 a.1.2.2.1,.int .i64 a.1.2.2.2.1,.int .i64 a.1.2.2.2.2,.int .i64 a.2.1,.int .i64 a.2.2]
def VP:FU->Option Int:=λ_=>none
def AD.w5(p:AD):Int×Int×Int×Int×Int:=(p.ways 0,p.ways 1,p.ways 2,p.ways 3,p.ways 4)
theorem FU.eq_iff(a b:FU):((a.1.1==b.1.1 && (a.1.2.1==b.1.2.1 && (a.1.2.2.1==b.1.2.2.1 && (a.1.2.2.2.1==b.1.2.2.2.1 && (a.1.2.2.2.2==b.1.2.2.2.2 && true))))) && (a.2.1==b.2.1 && (a.2.2==b.2.2 && true)))=decide (a=b):=by
 obtain ⟨⟨a1,a2,a3,a4,a5⟩,a6,a7⟩:=a;obtain ⟨⟨b1,b2,b3,b4,b5⟩,b6,b7⟩:=b;rw [Bool.eq_iff_iff];simp [and_assoc]
theorem Rc(a:FU):Instr.sameBits 10000 (FD a) (FD a)=true:=by
 have hi:∀(n:Nat)(x:Int),Instr.sameBits n (.int .i64 x) (.int .i64 x)=true:=λn x=>by
  cases n <;> (unfold Instr.sameBits;simp)
 unfold FD;show Instr.sameBits (9999+1) _ _=true;unfold Instr.sameBits;simp only [List.zip_cons_cons,List.zip_nil_left,List.all_cons,List.all_nil,hi];simp
def XQ(m:Ed)(w:Int×Int×Int×Int×Int)(i:Nat)(M:FU->Option Int)(k:Nat):FU->Option Int:=λb=>if b=(w,(i:Int),(k:Int)) then some (m i k) else M b
def GX(m:Ed)(w:Int×Int×Int×Int×Int)(i:Nat)(M:FU->Option Int)(n:Nat):FU->Option Int:=(List.range n).foldl (XQ m w i) M
def CP(m:Ed)(w:Int×Int×Int×Int×Int)(np:Nat)(M:FU->Option Int)(n:Nat):FU->Option Int:=(List.range n).foldl (λM i=>GX m w i M np) M
theorem OP{m:Ed}{w:Int×Int×Int×Int×Int}{i k:Nat}{M:FU->Option Int}:∀{n:Nat},k<n->GX m w i M n (w,(i:Int),(k:Int))=some (m i k)
 | 0,h=>absurd h (Nat.not_lt_zero _)
 | n+1,h=>by
  unfold GX;rw [Av];unfold XQ;by_cases e:k=n
  ·subst e;rw [if_pos rfl]
  ·rw [if_neg (λq=>e (by have h2:(k:Int)=(n:Int):=congrArg (λz:FU=>z.2.2) q;omega))];exact OP (n:=n) aA
theorem JV{m:Ed}{w:Int×Int×Int×Int×Int}{i:Nat}{M:FU->Option Int}{b:FU}(hb:b.1≠w\/b.2.1≠(i:Int)):∀{n:Nat},GX m w i M n b=M b
 | 0=>rfl
 | n+1=>by
  unfold GX;rw [Av];unfold XQ;rw [if_neg (λq=>by subst q;rcases hb with h | h <;> exact h rfl)];exact JV hb (n:=n)
theorem OQ{m:Ed}{w:Int×Int×Int×Int×Int}{np i k:Nat}{M:FU->Option Int}(hk:k<np):∀{n:Nat},i<n->CP m w np M n (w,(i:Int),(k:Int))=some (m i k)
 | 0,h=>absurd h (Nat.not_lt_zero _)
 | n+1,h=>by
  unfold CP;rw [Av];by_cases e:i=n
  ·subst e;exact OP hk
  ·rw [JV (.inr (by show (i:Int)≠(n:Int);omega))];exact OQ hk (n:=n) aA
theorem Mc{m:Ed}{w:Int×Int×Int×Int×Int}{np:Nat}{M:FU->Option Int}{b:FU}(hb:b.1≠w):∀{n:Nat},CP m w np M n b=M b
 | 0=>rfl
 | n+1=>by
  unfold CP;rw [Av,JV (.inl hb)];exact Mc hb (n:=n)
theorem w5_at{p q:AD}(e:q.w5=p.w5){k:Nat}(h:k<5):q.ways k=p.ways k:=by
 simp only [AD.w5,Prod.mk.injEq] at e;obtain ⟨e0,e1,e2,e3,e4⟩:=e
 match k,h with
 | 0,_=>exact e0
 | 1,_=>exact e1
 | 2,_=>exact e2
 | 3,_=>exact e3
 | 4,_=>exact e4
theorem QH{p q:AD}{ws:List AB}(e:q.w5=p.w5):∀{n:Nat},n<=5->A3 q ws n=A3 p ws n
 | 0,_=>rfl
 | n+1,h=>by
  have h1:=QH (ws:=ws) e (n:=n) aA;unfold A3 at h1 ⊢;rw [Av,Av,h1];unfold KJ;rw [w5_at e aA]
theorem SL{p q:AD}{ws:List AB}{np:Nat}(hw:ws.length<=5)(e:q.w5=p.w5):Aw np ws q=Aw np ws p:=by
 unfold Aw;rw [QH e hw]
def Gf(np:Nat)(ws:List AB)(l:List AD)(M:FU->Option Int):Prop:=∀q ∈ l,∀i k:Nat,i<np->k<np->M (q.w5,(i:Int),(k:Int))=some (Aw np ws q i k)
theorem Gf.call{np:Nat}{ws:List AB}{pq:List AD}{k:Nat}{M:FU->Option Int}(h:Gf np ws (pq.take k) M)(hk:k<pq.length)(hw:ws.length<=5) :
  Gf np ws (pq.take (k+1)) (CP (Aw np ws (pq.getD k AD.zero)) (pq.getD k AD.zero).w5 np M np):=by
 intro q hq i j hi hj;by_cases e:q.w5=(pq.getD k AD.zero).w5
 ·rw [e,OQ hj hi,SL hw e]
 ·rw [Mc e];rw [Cw AD.zero hk] at hq;rcases List.mem_append.1 hq with h1 | h1
  ·exact h q h1 i j hi hj
  ·rw [List.mem_singleton.1 h1] at e;exact absurd rfl e
theorem Gf.skip{np:Nat}{ws:List AB}{pq:List AD}{k:Nat}{M:FU->Option Int}(h:Gf np ws (pq.take k) M)(hk:k<pq.length)(hw:ws.length<=5)(h0:¬(k:Int)=0)(e:(pq.getD k AD.zero).w5=(pq.getD (k-1) AD.zero).w5) :
  Gf np ws (pq.take (k+1)) M:=by
 intro q hq i j hi hj;rw [Cw AD.zero hk] at hq;rcases List.mem_append.1 hq with h1 | h1
 ·exact h q h1 i j hi hj
 ·rw [List.mem_singleton.1 h1,e,SL hw e];refine h _ ?_ i j hi hj;rw [CX AD.zero aA];exact List.mem_take_iff_getElem.2 ⟨k-1,aA,rfl⟩
def ET(h:GH)(r np:Nat)(ws:List AB)(pq:List AD):Prop:=∃pm M,MapAt h r pm FD D5 M/\Gf np ws pq M
theorem ET.le{h h':GH}{r np:Nat}{ws:List AB}{pq:List AD}(x:ET h r np ws pq)(l:h.Le h'):ET h' r np ws pq:=by
 obtain ⟨pm,M,⟨es,clk,hb,hl⟩,hM⟩:=x;exact ⟨pm,M,⟨es,clk,l.keep hb rfl,hl⟩,hM⟩
structure Dk(hB:GH)(r:Nat)(M:FU->Option Int)(h hc:GH):Prop where
 ok:Co hc r FD D5 M
 keep:Bc (λb=>b=r) h hc
 base:hB.Le hc
def FRes(hB:GH)(r:Nat)(M:FU->Option Int)(h h':GH):Prop:=Co h' r FD D5 M/\Bc (λb=>b=r) h h'/\hB.Le h'
section
variable {hB h hc h':GH} {r:Nat} {M M':FU->Option Int}
theorem Co.some(x:Co h r FD D5 M):∃o,h r=some (true,o)/\J2 o=false:=by obtain ⟨es,clk,hb,_⟩:=x;exact ⟨_,hb,rfl⟩
theorem Dk.start(x:Co h r FD D5 M)(l:hB.Le h):Dk hB r M h h:=⟨x,Bc.refl _ _,l⟩
theorem Dk.le(y:Dk hB r M h hc)(l:hc.Le h'):Dk hB r M h h':=by
 obtain ⟨o,ho,_⟩:=y.ok.some;exact ⟨y.ok.le_other ((l.keep ho rfl).trans ho.symm),y.keep.trans (λ_ q=>.inl q) (l.keepX _),y.base.trans l⟩
theorem Dk.store(y:Dk hB r M h hc){q:Nat}(hq:h q=none)(qB:hB q=none)(hn:q≠r)(ho:∀b,b≠q->h' b=hc b):Dk hB r M h h':=
 ⟨y.ok.le_other (ho r (Ne.symm hn)),y.keep.store hq ho,y.base.upd qB ho⟩
theorem Dk.put(y:Dk hB r M h hc)(rB:hB r=none)(x:Co h' r FD D5 M')(ho:∀b,b≠r->h' b=hc b):Dk hB r M' h h':=⟨x,y.keep.store' (.inl rfl) ho,y.base.upd rB ho⟩
theorem Dk.call(y:Dk hB r M h hc)(m:FRes hB r M' hc h'):Dk hB r M' h h':=⟨m.1,y.keep.trans (λ_ q=>.inl q) m.2.1,m.2.2⟩
theorem Dk.ne(y:Dk hB r M h hc){q:Nat}(hq:hc q=none):q≠r:=λe=>by
 obtain ⟨o,ho,_⟩:=y.ok.some;rw [e,ho] at hq;cases hq
theorem Dk.nothing(y:Dk hB r M h hc){q:Nat}(hq:hc q=none):h q=none:=by
 cases hx:h q with
 | none=>rfl
 | some x=>
  obtain ⟨o',h1,_⟩:=y.keep q x.1 x.2 hx (y.ne hq);rw [h1] at hq;cases hq
theorem OR(x:h r=some (true,.map #[] 0)):Co h r FD D5 VP:=Co.empty x
theorem Co.slDel{V:Type}(x:Co h r FD D5 M){v:Value}{n:Nat}{enc:V->Array Value}{xs:List V}(y:AO h v n enc xs):AO (h.del r) v n enc xs:=by
 obtain ⟨es,clk,hb,_⟩:=x;exact AO.slDel y hb
theorem Co.leF(x:Co h r FD D5 M)(l:h.Le h'):Co h' r FD D5 M:=by
 obtain ⟨o,ho,e⟩:=x.some;exact x.le_other ((l.keep ho e).trans ho.symm)
theorem Dk.res(y:Dk hB r M h hc):FRes hB r M h hc:=⟨y.ok,y.keep,y.base⟩
end
theorem OS{bag kinds:Int}{ps:List ByteArray}{ws:List AB}{js:List AM}{ns:List AJ}(b:A6 bag kinds ps ws js ns){ag:AD->Bool}:∀{f i:Nat}{p:AD},i+f=ws.length+js.length->BJ p->∀q ∈ CJ ag ws js f i p,BJ q
 | 0,_,p,_,hp,q,hq=>by rw [List.mem_singleton.1 hq];exact hp
 | f+1,i,p,h,hp,q,hq=>by
  rw [EM] at hq;obtain ⟨n,hn,hq⟩:=List.mem_flatMap.1 hq;have h1:=b.few (i:=i) aA;have h2:=mem_spanL.1 hn;unfold B9 at hq;split at hq
  ·cases hq
  ·exact OS b (f:=f) aA (hp.put aA) q hq
section
variable {bag kinds:Int} {ps:List ByteArray} {ws:List AB} {js:List AM} {ns:List AJ}
theorem GY(b:A6 bag kinds ps ws js ns):∀q ∈ AE ws js ns,BJ q:=by
 intro q hq;unfold AE at hq;split at hq
 ·exact OS b aA BJ.zero q hq
 ·cases hq
theorem QI(b:A6 bag kinds ps ws js ns)(k:Nat):BJ ((AE ws js ns).getD k AD.zero):=by
 rcases Nat.lt_or_ge k (AE ws js ns).length with h | h
 ·exact GY b _ (Bf h)
 ·rw [BW h];exact BJ.zero
def Ac(bag kinds:Int)(ps:List ByteArray)(ws:List AB)(js:List AM)(ns:List AJ)(s:Int):Int:=
 if¬BX bag kinds ps ws js ns=0 then BX bag kinds ps ws js ns else if¬s=0 then s else if (AE ws js ns).length=0 then 9 else 0
variable {s:Int}
theorem Zh(h:¬BX bag kinds ps ws js ns=0):Ac bag kinds ps ws js ns s=BX bag kinds ps ws js ns:=if_pos h
theorem Zi(h:¬¬BX bag kinds ps ws js ns=0)(h2:¬s=0):Ac bag kinds ps ws js ns s=s:=by unfold Ac;rw [if_neg h,if_pos h2]
theorem Zj(h:¬¬BX bag kinds ps ws js ns=0)(h2:¬¬s=0)(h3:(AE ws js ns).length=0):Ac bag kinds ps ws js ns s=9:=by unfold Ac;rw [if_neg h,if_neg h2,if_pos h3]
theorem openB_4(h:¬¬BX bag kinds ps ws js ns=0)(h2:¬¬s=0)(h3:¬(AE ws js ns).length=0):Ac bag kinds ps ws js ns s=0:=by unfold Ac;rw [if_neg h,if_neg h2,if_neg h3]
theorem FE(h:Ac bag kinds ps ws js ns s=0):A6 bag kinds ps ws js ns/\s=0/\0<(AE ws js ns).length:=by
 unfold Ac at h;split at h
 ·rename_i a;exact absurd h a
 ·split at h
  ·rename_i a b;exact absurd h b
  ·split at h
   ·cases h
   ·rename_i a b c
    exact ⟨Cy (Decidable.not_not.1 a),Decidable.not_not.1 b,aA⟩
theorem w5_eq{p q:AD}(h:(!((p.ways 0==q.ways 0 && (p.ways 1==q.ways 1 && (p.ways 2==q.ways 2 && (p.ways 3==q.ways 3 && (p.ways 4==q.ways 4 && true)))))))=false):p.w5=q.w5:=by
 simp only [Bool.not_eq_false',Bool.and_eq_true,beq_iff_eq,and_true] at h;obtain ⟨e0,e1,e2,e3,e4⟩:=h;simp only [AD.w5,e0,e1,e2,e3,e4]
theorem Gf.is{h:GH}{r np:Nat}{ws:List AB}{pq:List AD}{M:FU->Option Int}{k:Nat}(x:Co h r FD D5 M)(hM:Gf np ws (pq.take k) M)(hk:pq.length<=k):ET h r np ws pq:=by
 rw [List.take_of_length_le hk] at hM;exact ⟨true,M,x,hM⟩
theorem SM{a b c d e f w:Value}{r:Nat}(h:w.cells=#[w]):Instr.fill (λx=>#[(0,6),(6,1),(7,1)][x]?) #[.int .i64 0,.int .i64 0,.slice none 0 0,.slice none 0 0,.slice none 0 0,.slice none 0 0,.slice none 0 0,.map none] [(0,.agg #[a,b,c,d,e,f]),(1,w),(2,.map (some r))]=some #[a,b,c,d,e,f,w,.map (some r)]:=by
 have e1:∀cs,(Value.agg cs).cells=cs:=λ_=>rfl;have e2:∀q,(Value.map q).cells=#[.map q]:=λ_=>rfl;simp [Instr.fill,h,e1,e2]
end
end Go.Ns
namespace Go.Ns
open Go.Conc
section
variable {P:Program} {E:Gh P} {O:Nat->Value} {ds:List Deferred} {h:GH} {T:(Nat->Value)->List Deferred->GH->Prop}
variable {dst:Option Nat} {ty:TypeId} {pos:String} {af:Array Edge} {gd:Option (Nat×Bool)}
def Md(P:Program)(e:TypeId):Option Nat:=(P.info? e).map (·.bytes)
theorem UH(z:Value)(n:Nat):(Array.range n).map (λi=>(#[z]:Array Value)[i%(#[z]:Array Value).size]!)=Array.replicate n z:=by
 apply Array.ext
 ·simp
 ·intro i h1 h2;simp [Nat.mod_one]
theorem JW{t:TypeId}{l c:Operand}{N by_:Nat}{z:Value}{e:TypeId}(hs:DU P t=some (1,#[z],e))(hby:Md P e=some by_)(hl:AR O l=.int .i64 N)(hc:AR O c=.int .i64 N)(hb:by_*N<=281474976710656)(hN2:N<=16777216)
  (k:∀r h',h r=none->h.Le h'->h' r=some (true,.cells (Array.replicate N z) e (0,0))->(∀b,b≠r->h' b=h b)->T (putS O dst (.slice (some ⟨r,0,none⟩) N N)) ds h'):BT E ⟨dst,.makeSlice t l c,ty,pos,af,gd⟩ O ds h T:=by
 unfold BT execOp;refine GJ ?_;unfold DU at hs;unfold Instr.makeSlice;rw [hl,hc];cases hu:P.underlying t with
 | none=>rw [hu] at hs;cases hs
 | some d=>
  rw [hu] at hs;cases d <;> first | (cases hs;done) | skip
  rename_i e'
  simp only at hs;cases ht:Cc P e' with
  | none=>rw [ht] at hs;cases hs
  | some x=>
   cases hz:By P e' with
   | none=>rw [ht,hz] at hs;cases hs
   | some z'=>
    rw [ht,hz] at hs;simp only [Option.some.injEq,Prod.mk.injEq] at hs;obtain ⟨hx2,rfl,rfl⟩:=hs;refine AF _ _ (Ao hu ?_);refine AF _ _ (Ay ?_);refine AF _ _ (Ay ?_);unfold Md at hby;unfold By at hz;cases hi:P.info? e' with
    | none=>rw [hi] at hz;cases hz
    | some i=>
    rw [hi] at hz hby;simp only [Option.map_some,Option.some.injEq] at hby;simp only [Option.map_eq_some_iff] at hz;obtain ⟨v,hv,hvz⟩:=hz;refine AF _ _ (Ck hi ?_);have hw:IntKind.i64.wrap (N:Int)=N:=IntWalk.i64_in _ aA;simp only [hw,hby];have hb':((by_:Int)*(N:Int))<=281474976710656:=by rw [<-Int.natCast_mul];exact Int.ofNat_le.2 hb
    rw [if_neg (by simp;omega)];simp only [Int.toNat_natCast];have hask:∀(m:Nat)(Q:Unit->GH->Prop),Q () h->(askRoom m).gh P h Q:=λm Q q=>by
     unfold askRoom;split
     ·exact ⟨rfl,q⟩
     ·exact q
    refine AF _ _ (hask _ _ ?_);refine AF _ _ (Gk (by rw [ht];rfl) ?_);dsimp only;rw [hx2,Nat.mul_one];by_cases hN:N=0
    ·subst hN;rw [if_pos rfl];refine AF _ _ (Ay ?_);rw [show (Array.range 0).map (λi=>(#[]:Array Value)[i%(#[]:Array Value).size]!)=Array.replicate 0 z from aD];refine AF _ _ ?_;unfold newRow;refine AF _ _ (λr hr=>?_);exact k r _ hr (GH.Le.new hr _ _) (GH.set_same _ _ _ _) λb hb=>GH.set_ne _ _ _ hb
    rw [if_neg hN];unfold zeroValue;refine AF _ _ (AF _ _ (AF _ _ (Ck hi ?_)));rw [hv];refine Ay ?_;refine AF _ _ (Ay ?_);rw [hvz,UH];refine AF _ _ ?_;unfold newRow;refine AF _ _ (λr hr=>?_);exact k r _ hr (GH.Le.new hr _ _) (GH.set_same _ _ _ _) λb hb=>GH.set_ne _ _ _ hb
theorem KK{V:Type}{enc:V->Array Value}{x:V}{z:Value}(he:enc x=#[z]):∀N:Nat,Dm enc (List.replicate N x)=List.replicate N z
 | 0=>rfl
 | N+1=>by
  have:=KK he N
  unfold Dm at this ⊢;rw [List.replicate_succ,List.flatMap_cons,this,he];rfl
theorem AQ.made{V:Type}{h h':GH}{r N:Nat}{t:TypeId}{enc:V->Array Value}{x:V}{z:Value}(hr:h r=none)(hb:h' r=some (true,.cells (Array.replicate N z) t (0,0)))(hN:N<=16777216)(he:enc x=#[z]) :
  AQ h h' (.slice (some ⟨r,0,none⟩) N N) t 1 enc (List.replicate N x):=
 .inr ⟨r,N,_,by rw [List.length_replicate],hr,hb,aD,aD,by rw [List.length_replicate];omega,by rw [KK he,List.length_replicate,Nat.mul_one];simp,λy hy=>by rw [(List.mem_replicate.1 hy).2,he];rfl⟩
end
def FV(nj:Nat)(k:Int):Int:=if¬(0<=k/\k<=(nj:Int)-1) then 6 else 0
def Hr(nj:Nat)(l:List Int)(k:Nat):Int:=if¬FV nj (l.getD k 0)=0 then FV nj (l.getD k 0) else if (l.take k).any (λx=>decide (l.getD k 0=x))=true then 5 else 0
def Aj(nj:Nat)(l:List Int):Int:=Cz (Hr nj l) 0 l.length
def GD(bag kinds:Int)(ps:List ByteArray)(ws:List AB)(js:List AM)(ns:List AJ)(l:List Int):Int:=
 if¬BX bag kinds ps ws js ns=0 then BX bag kinds ps ws js ns else Aj js.length l
theorem OT{nj:Nat}{k:Int}(h:FV nj k=0):0<=k/\k<nj:=by
 unfold FV at h;split at h
 ·cases h
 ·omega
theorem FX{nj:Nat}{l:List Int}(h:Aj nj l=0)(k:Nat)(hk:k<l.length):0<=l.getD k 0/\l.getD k 0<nj:=by
 have h1:=DY h k (Nat.zero_le _) aA;unfold Hr at h1;split at h1
 ·rename_i a;exact absurd h1 a
 ·rename_i a;exact OT (Decidable.not_not.1 a)
def Gx(out ps:List Int):Nat->List Int
 | 0=>out
 | i+1=>(Gx out ps i).set i ((Gx out ps i).getD i 0+ps.getD i 0)
def Cj(kinds:Int)(js:List AM)(l:List Int):Nat->List Int
 | 0=>List.replicate kinds.toNat 0
 | q+1=>Gx (Cj kinds js l q) (js.getD (l.getD q 0).toNat AM.z).parts (js.getD (l.getD q 0).toNat AM.z).parts.length
def DN(kinds:Int)(js:List AM)(l:List Int):List Int:=Cj kinds js l l.length
theorem Me(out ps:List Int):∀i,(Gx out ps i).length=out.length
 | 0=>rfl
 | i+1=>by rw [Gx,List.length_set,Me out ps i]
theorem QJ(out ps:List Int)(hl:ps.length=out.length):∀i,i<=ps.length->∀j,(Gx out ps i).getD j 0=if j<i then out.getD j 0+ps.getD j 0 else out.getD j 0
 | 0,_,j=>by rw [if_neg aA];rfl
 | i+1,h,j=>by
  have e:=QJ out ps hl i aA;have hn:=Me out ps i;unfold Gx;rw [List.getD_eq_getElem?_getD,List.getElem?_set];by_cases hij:i=j
  ·subst hij;rw [if_pos rfl,if_pos aA,if_pos aA,Option.getD_some,e i,if_neg aA]
  ·rw [if_neg hij,<-List.getD_eq_getElem?_getD,e j];by_cases h1:j<i
   ·rw [if_pos h1,if_pos aA]
   ·rw [if_neg h1,if_neg aA]
section
variable {bag kinds:Int} {ps:List ByteArray} {ws:List AB} {js:List AM} {ns:List AJ} {l:List Int}
theorem NS(b:A6 bag kinds ps ws js ns){k:Int}(h:0<=k/\k<js.length):JobOK ps.length kinds (js.getD k.toNat AM.z):=KF (b.job k.toNat aA)
theorem JX(b:A6 bag kinds ps ws js ns):∀q,(Cj kinds js l q).length=kinds.toNat
 | 0=>List.length_replicate
 | q+1=>by rw [Cj,Me,JX b q]
theorem Lp(b:A6 bag kinds ps ws js ns)(hr:∀k,k<l.length->0<=l.getD k 0/\l.getD k 0<js.length):∀q,q<=l.length->∀j,0<=(Cj kinds js l q).getD j 0/\(Cj kinds js l q).getD j 0<=5*(q:Int)
 | 0,_,j=>by
  unfold Cj;rw [List.getD_eq_getElem?_getD,List.getElem?_replicate];split <;> simp
 | q+1,h,j=>by
  have e:=Lp b hr q aA j;have x:=NS b (hr q aA);have x2:=x.part j;have x3:=x.len;unfold Cj;rw [QJ _ _ (by rw [JX b q];omega) _ (Nat.le_refl _)];split <;> omega
theorem addP_rng(b:A6 bag kinds ps ws js ns)(hr:∀k,k<l.length->0<=l.getD k 0/\l.getD k 0<js.length){q:Nat}(hq:q<l.length){i:Nat}(hi:i<(js.getD (l.getD q 0).toNat AM.z).parts.length) :
  (Gx (Cj kinds js l q) (js.getD (l.getD q 0).toNat AM.z).parts i).length=(js.getD (l.getD q 0).toNat AM.z).parts.length/\0<=(Gx (Cj kinds js l q) (js.getD (l.getD q 0).toNat AM.z).parts i).getD i 0/\(Gx (Cj kinds js l q) (js.getD (l.getD q 0).toNat AM.z).parts i).getD i 0<=5*(q:Int)/\
  0<=(js.getD (l.getD q 0).toNat AM.z).parts.getD i 0/\(js.getD (l.getD q 0).toNat AM.z).parts.getD i 0<=5:=by
 have x:=NS b (hr q hq);have e:=Lp b hr q aA i;have x3:=x.len;have hl:=JX (l:=l) b q;refine ⟨by rw [Me,hl];omega,?_⟩;rw [QJ _ _ (by rw [hl];omega) i aA,if_neg aA];exact ⟨e.1,e.2,x.part i⟩
theorem XR(b:A6 bag kinds ps ws js ns):(DN kinds js l).length=kinds.toNat:=JX b _
theorem XS(b:A6 bag kinds ps ws js ns)(hr:∀k,k<l.length->0<=l.getD k 0/\l.getD k 0<js.length)(j:Nat):0<=(DN kinds js l).getD j 0/\(DN kinds js l).getD j 0<=5*(l.length:Int):=Lp b hr _ (Nat.le_refl _) j
theorem sum_take(xs:List Int){k:Nat}(h:k<xs.length):(xs.take (k+1)).sum=(xs.take k).sum+xs.getD k 0:=by
 rw [List.take_add_one,List.sum_append,List.getD_eq_getElem?_getD,List.getElem?_eq_getElem h];simp
theorem sum_all(xs:List Int){k:Nat}(h:xs.length<=k):(xs.take k).sum=xs.sum:=by rw [List.take_of_length_le h]
theorem VQ(h:GD bag kinds ps ws js ns l=0):A6 bag kinds ps ws js ns/\∀k,k<l.length->0<=l.getD k 0/\l.getD k 0<js.length:=by
 unfold GD at h;split at h
 ·rename_i a;exact absurd h a
 ·rename_i a;exact ⟨Cy (Decidable.not_not.1 a),FX h⟩
def SN(bag kinds:Int)(ps:List ByteArray)(ws:List AB)(js:List AM)(ns:List AJ)(l:List Int):List Int:=if¬GD bag kinds ps ws js ns l=0 then [] else DN kinds js l
def Df(bag kinds:Int)(ps:List ByteArray)(ws:List AB)(js:List AM)(ns:List AJ)(l:List Int):Bool:=if¬GD bag kinds ps ws js ns l=0 then false else decide ((DN kinds js l).sum<=bag)
end
end Go.Ns
namespace Go.Ns
open Go.Conc
section
variable {P:Program} {E:Gh P} {O:Nat->Value} {ds:List Deferred} {h:GH} {T:(Nat->Value)->List Deferred->GH->Prop}
variable {dst:Option Nat} {ty:TypeId} {pos:String} {af:Array Edge} {gd:Option (Nat×Bool)}
theorem Lq{t kt vt:TypeId}{x ix:Operand}{r np:Nat}{ws:List AB}{pq:List AD}{q:AD}{a b:Int}{z:Value}(ht:MN P t=some (kt,vt))(hx:AR O x=.map (some r))(hk:AR O ix=FD (q.w5,a,b))(hm:ET h r np ws pq)
  (hc:∀a:FU,ckP P 4 kt (FD a)=true)
  (he:∀a b:FU,Pb P 4 kt (FD a) (FD b)=some ((a.1.1==b.1.1 && (a.1.2.1==b.1.2.1 && (a.1.2.2.1==b.1.2.2.1 && (a.1.2.2.2.1==b.1.2.2.2.1 && (a.1.2.2.2.2==b.1.2.2.2.2 && true))))) && (a.2.1==b.2.1 && (a.2.2==b.2.2 && true))))
  (hz:(P.info? vt).bind (·.zero)=some z) (hq:q ∈ pq) (ha:0<=a/\a<np) (hb:0<=b/\b<np)
  (k:T (putS O dst (.int .i64 (Aw np ws q a.toNat b.toNat))) ds h):BT E ⟨dst,.lookup t x ix false,ty,pos,af,gd⟩ O ds h T:=by
 obtain ⟨pm,M,hM,hF⟩:=hm;have e:=hF q hq a.toNat b.toNat aA aA;rw [Int.toNat_of_nonneg ha.1,Int.toNat_of_nonneg hb.1] at e;refine R8 (d:=3) (a:=(q.w5,a,b)) ht hx hk hM rfl (hc _) (λb=>by rw [he,FU.eq_iff]) hz ?_;rw [e];exact k
theorem SO{V:Type}{t:TypeId}{x:Operand}{olo ohi:Option Operand}{n:Nat}{enc:V->Array Value}{xs:List V}{v:Value}{hk:GH}(lo hi:Nat)(ht:E2 P t=some n)(hs:AO hk v n enc xs)(hx:AR O x=v)
  (hlo:match olo with | none=>lo=0 | some o=>∃kd,AR O o=.int kd lo) (hhi:match ohi with | none=>hi=xs.length | some o=>∃kd,AR O o=.int kd hi) (h1:lo<=hi) (h2:hi<=xs.length)
  (k:∀v',AO hk v' n enc ((xs.take hi).drop lo)->T (putS O dst v') ds h):BT E ⟨dst,.slice t x olo ohi none,ty,pos,af,gd⟩ O ds h T:=by
 have hs':=hs;obtain ⟨a,cap,rfl,hc,_,_⟩:=hs';exact Kq lo hi ht hc hx hlo hhi h1 h2 (k _ (hs.part h1 h2))
end
def PE(F:AD->Int)(l:List AD):Nat->Int
 | 0=>F (l.getD 0 AD.zero)
 | k+1=>min (PE F l k) (F ((l.drop 1).getD k AD.zero))
def Re(F:AD->Int)(l:List AD):Nat->Int
 | 0=>F (l.getD 0 AD.zero)
 | k+1=>max (Re F l k) (F ((l.drop 1).getD k AD.zero))
def Cp(F:AD->Int)(l:List AD):Int:=PE F l (l.length-1)
def Bw(F:AD->Int)(l:List AD):Int:=Re F l (l.length-1)
theorem drop1_mem{l:List AD}{k:Nat}(h:k<l.length-1):(l.drop 1).getD k AD.zero ∈ l:=List.mem_of_mem_drop (Bf (by rw [List.length_drop];exact h))
def JJ(s v:Int):Int:=if s=0 then v else 0
theorem Mf(v:Int):JJ 0 v=v:=if_pos rfl
theorem OU{s v:Int}(h:¬s=0):JJ s v=0:=if_neg h
end Go.Ns
namespace Go.Ns
open Go.Conc
theorem UI:∀(n m:Nat)(f:Nat->Nat),(∀i,i<m->f i<n)->(∀i j,i<j->j<m->f i≠f j)->m<=n
 | 0,m,f,h,_=>by
  rcases Nat.eq_zero_or_pos m with e | e
  ·omega
  ·exact absurd (h 0 e) (Nat.not_lt_zero _)
 | n+1,m,f,h,d=>by
  rcases Nat.eq_zero_or_pos m with e | e
  ·omega
  ·have x:=UI n (m-1) (λi=>if f i=n then f (m-1) else f i) (λi hi=>by
    have h1:=h i aA;have h2:=h (m-1) aA;have h3:=d i (m-1) hi aA;show (if f i=n then f (m-1) else f i)<n;split <;> omega) (λi j hij hj=>by
    have h1:=d i j hij aA;have h2:=d i (m-1) aA aA;have h3:=d j (m-1) aA aA;show (if f i=n then f (m-1) else f i)≠(if f j=n then f (m-1) else f j);split <;> split <;> omega)
   omega
theorem H5{nj:Nat}{l:List Int}(h:Aj nj l=0):l.length<=nj:=by
 refine UI nj l.length (λk=>(l.getD k 0).toNat) (λi hi=>?_) λi j hij hj=>?_
 ·have:=FX h i hi
  show (l.getD i 0).toNat<nj;omega
 ·have hi:=FX h i aA;have hj':=FX h j hj;have h1:=DY h j (Nat.zero_le _) aA;unfold Hr at h1;split at h1
  ·rename_i a;exact absurd h1 a
  ·split at h1
   ·cases h1
   ·rename_i a b
    show (l.getD i 0).toNat≠(l.getD j 0).toNat;intro e;refine b (List.any_eq_true.2 ⟨l.getD i 0,?_,decide_eq_true aA⟩);rw [List.mem_iff_getElem];refine ⟨i,by rw [List.length_take];omega,?_⟩;rw [List.getElem_take,List.getD_eq_getElem?_getD,List.getElem?_eq_getElem aA];rfl
def D0(js:List AM)(l:List Int):Nat->Int
 | 0=>0
 | q+1=>(js.getD (l.getD q 0).toNat AM.z).place
def Al(np:Nat)(ws:List AB)(js:List AM)(p:AD)(l:List Int):Nat->Int
 | 0=>0
 | q+1=>Al np ws js p l q+(Aw np ws p (D0 js l q).toNat (js.getD (l.getD q 0).toNat AM.z).place.toNat+p.works (l.getD q 0).toNat)
def Bt(np:Nat)(ws:List AB)(js:List AM)(p:AD)(l:List Int):Nat->List Int
 | 0=>[]
 | q+1=>Bt np ws js p l q++[Al np ws js p l (q+1)]
def AZ(np:Nat)(ws:List AB)(js:List AM)(p:AD)(l:List Int):Int:=Al np ws js p l l.length+Aw np ws p (D0 js l l.length).toNat 0
theorem Gy(np:Nat)(ws:List AB)(js:List AM)(p:AD)(l:List Int):∀q,(Bt np ws js p l q).length=q
 | 0=>rfl
 | q+1=>by rw [Bt,List.length_append,Gy np ws js p l q];rfl
theorem Ls(np:Nat)(ws:List AB)(js:List AM)(p:AD)(l:List Int):∀q i,i<q->(Bt np ws js p l q).getD i 0=Al np ws js p l (i+1)
 | 0,i,h=>absurd h (Nat.not_lt_zero _)
 | q+1,i,h=>by
  have hl:=Gy np ws js p l q;rw [Bt,List.getD_eq_getElem?_getD];by_cases e:i<q
  ·rw [List.getElem?_append_left aA,<-List.getD_eq_getElem?_getD];exact Ls np ws js p l q i e
  ·have e2:i=q:=aA
   subst e2;rw [List.getElem?_append_right aA,hl,Nat.sub_self];rfl
section
variable {bag kinds:Int} {ps:List ByteArray} {ws:List AB} {js:List AM} {ns:List AJ} {l:List Int} {p:AD}
theorem NT{np:Nat}(hp:BJ p):(Aw np ws p).ok:=VO (Lm hp)
theorem VR(b:A6 bag kinds ps ws js ns)(hr:∀k,k<l.length->0<=l.getD k 0/\l.getD k 0<js.length):∀q,q<=l.length->0<=D0 js l q/\D0 js l q<ps.length
 | 0,_=>by have:=b.plen;show (0:Int)<=0/\(0:Int)<_;omega
 | q+1,h=>by have:=(NS b (hr q aA)).place;show 0<=(js.getD (l.getD q 0).toNat AM.z).place/\(js.getD (l.getD q 0).toNat AM.z).place<ps.length;omega
theorem Ku(hp:BJ p):∀q,0<=Al ps.length ws js p l q/\Al ps.length ws js p l q<=1048606*(q:Int)
 | 0=>⟨Int.le_refl 0,Int.le_refl 0⟩
 | q+1=>by
  have e:=Ku hp q;have f:=NT (np:=ps.length) (ws:=ws) hp (D0 js l q).toNat (js.getD (l.getD q 0).toNat AM.z).place.toNat;have w:=hp.works (l.getD q 0).toNat;unfold Al;omega
end
end Go.Ns
namespace Go.Ns
open Go.Conc
theorem ET.store{h h':GH}{q r np:Nat}{ws:List AB}{pq:List AD}(x:ET h r np ws pq)(ho:∀b,b≠q->h' b=h b)(n:r≠q):ET h' r np ws pq:=by
 obtain ⟨pm,M,⟨es,clk,hb,hl⟩,hM⟩:=x;exact ⟨pm,M,⟨es,clk,(ho r n).trans hb,hl⟩,hM⟩
def Wn(x:Int×Int):Array Value:=#[.int .i64 x.1,.int .i64 x.2]
section
variable (np:Nat) (ws:List AB) (js:List AM) (pq:List AD) (l:List Int)
def endLo(i:Nat):Int:=Cp (λx=>Al np ws js x l (i+1)) pq
def Zk(i:Nat):Int:=Bw (λx=>Al np ws js x l (i+1)) pq
def Hb:Nat->List (Int×Int)
 | 0=>[]
 | q+1=>Hb q++[(endLo np ws js pq l q,Zk np ws js pq l q)]
theorem JY:∀q,(Hb np ws js pq l q).length=q
 | 0=>rfl
 | q+1=>by rw [Hb,List.length_append,JY q];rfl
def DZ(i:Nat):Bool:=decide (Zk np ws js pq l i<=(js.getD (l.getD i 0).toNat AM.z).due)
def CH(bag kinds:Int):Bool:=decide ((DN kinds js l).sum<=bag) && (List.range l.length).all (DZ np ws js pq l)
variable {np ws js pq l}
theorem onTime_of{q:Nat}(h:¬(js.getD (l.getD q 0).toNat AM.z).due<Bw (λx=>Al np ws js x l ((q:Int).toNat+1)) pq):DZ np ws js pq l q=true:=decide_eq_true (Int.not_lt.1 h)
theorem onTime_no{q:Nat}(h:(js.getD (l.getD q 0).toNat AM.z).due<Bw (λx=>Al np ws js x l ((q:Int).toNat+1)) pq):DZ np ws js pq l q=false:=decide_eq_false (Int.not_le.2 h)
variable {bag kinds:Int}
theorem XT(h:¬(DN kinds js l).sum<=bag):CH np ws js pq l bag kinds=false:=by unfold CH;rw [decide_eq_false h];rfl
theorem safe_late{k:Nat}(hk:k<l.length)(h:(js.getD (l.getD k 0).toNat AM.z).due<Bw (λx=>Al np ws js x l ((k:Int).toNat+1)) pq):CH np ws js pq l bag kinds=false:=by
 unfold CH;rw [Bool.and_eq_false_iff];refine .inr (Bool.eq_false_iff.2 λe=>?_)
 have:=List.all_eq_true.1 e k (List.mem_range.2 hk)
 rw [onTime_no h] at this;cases this
theorem safe_all{k:Nat}(h:¬¬(DN kinds js l).sum<=bag)(hs:∀j,j<k->DZ np ws js pq l j=true)(hk:l.length<=k):CH np ws js pq l bag kinds=true:=by
 unfold CH;rw [decide_eq_true (Decidable.not_not.1 h),Bool.true_and];exact List.all_eq_true.2 λj hj=>hs j (by have:=List.mem_range.1 hj;omega)
end
def Cq:Nat->List Int
 | 0=>[]
 | k+1=>Cq k++[(k:Int)]
theorem DO:∀n,(Cq n).length=n
 | 0=>rfl
 | n+1=>by rw [Cq,List.length_append,DO n];rfl
def EU(nj:Nat)(l:List Int)(i:Int):Int:=if¬Aj nj l=0 then Aj nj l else if¬(0<=i/\i<=(l.length:Int)-1) then 1 else 0
theorem VS{nj:Nat}{l:List Int}{i:Int}(h:EU nj l i=0):Aj nj l=0/\0<=i/\i<l.length:=by
 unfold EU at h;split at h
 ·rename_i a;exact absurd h a
 ·rename_i a
  split at h
  ·cases h
  ·exact ⟨Decidable.not_not.1 a,aA⟩
section
variable (bag kinds:Int) (ps:List ByteArray) (ws:List AB) (js:List AM) (ns:List AJ) (l:List Int)
def DG:List (Int×Int):=if¬Ac bag kinds ps ws js ns (Aj js.length l)=0 then [] else Hb ps.length ws js (AE ws js ns) l l.length
def DT:Bool:=if¬Ac bag kinds ps ws js ns (Aj js.length l)=0 then false else CH ps.length ws js (AE ws js ns) l bag kinds
def Fu(i:Int):Int:=
 if¬Ac bag kinds ps ws js ns (EU js.length l i)=0 then 0 else if (js.getD (l.getD i.toNat 0).toNat AM.z).due<endLo ps.length ws js (AE ws js ns) l i.toNat then 1
 else if Zk ps.length ws js (AE ws js ns) l i.toNat<=(js.getD (l.getD i.toNat 0).toNat AM.z).due then 2 else 0
variable {bag kinds ps ws js ns l} {i:Int}
theorem late_yes(h0:Ac bag kinds ps ws js ns (EU js.length l i)=0)(h:(js.getD (l.getD i.toNat 0).toNat AM.z).due<Cp (λx=>Al ps.length ws js x l (i.toNat+1)) (AE ws js ns)):(1:Int)=Fu bag kinds ps ws js ns l i:=by
 unfold Fu;rw [if_neg (λx=>x h0)];exact (if_pos h).symm
theorem late_no(h0:Ac bag kinds ps ws js ns (EU js.length l i)=0)(h:¬(js.getD (l.getD i.toNat 0).toNat AM.z).due<Cp (λx=>Al ps.length ws js x l (i.toNat+1)) (AE ws js ns))
  (h2:Bw (λx=>Al ps.length ws js x l (i.toNat+1)) (AE ws js ns)<=(js.getD (l.getD i.toNat 0).toNat AM.z).due):(2:Int)=Fu bag kinds ps ws js ns l i:=by
 unfold Fu;rw [if_neg (λx=>x h0)];exact ((if_neg h).trans (if_pos h2)).symm
theorem late_open(h0:Ac bag kinds ps ws js ns (EU js.length l i)=0)(h:¬(js.getD (l.getD i.toNat 0).toNat AM.z).due<Cp (λx=>Al ps.length ws js x l (i.toNat+1)) (AE ws js ns))
  (h2:¬Bw (λx=>Al ps.length ws js x l (i.toNat+1)) (AE ws js ns)<=(js.getD (l.getD i.toNat 0).toNat AM.z).due):(0:Int)=Fu bag kinds ps ws js ns l i:=by
 unfold Fu;rw [if_neg (λx=>x h0)];exact ((if_neg h).trans (if_neg h2)).symm
theorem late_bad(h0:¬Ac bag kinds ps ws js ns (EU js.length l i)=0):(0:Int)=Fu bag kinds ps ws js ns l i:=by unfold Fu;rw [if_pos h0]
end
end Go.Ns
namespace Go.Ns
open Go.Conc
def HC(i:Nat)(pq:List AD):Nat->List Int
 | 0=>[]
 | k+1=>HC i pq k++[(pq.getD k AD.zero).works i]
theorem HL(i:Nat)(pq:List AD):∀k,(HC i pq k).length=k
 | 0=>rfl
 | k+1=>by rw [HC,List.length_append,HL i pq k];rfl
theorem QK{i:Nat}{pq:List AD}{k:Nat}(h:0<k):HC i pq k≠[]:=λe=>by
 have:=HL i pq k
 rw [e] at this;simp at this;omega
def NU(bag kinds:Int)(ps:List ByteArray)(ws:List AB)(js:List AM)(ns:List AJ)(i:Int):List Int:=
 if¬Ac bag kinds ps ws js ns (FV js.length i)=0 then [] else Dx (E3 (HC i.toNat (AE ws js ns) (AE ws js ns).length))
end Go.Ns
namespace Go.Ns
open Go.Conc
theorem VT{h:GH}{r:Nat}{M:Int->Option Int}(x:Co h r D5 D5 M):∃y,h r=some y:=by
 obtain ⟨es,clk,hb,_⟩:=x;exact ⟨_,hb⟩
def EE(ns:List AJ)(mask:Int)(k:Nat):List AJ:=((List.range k).filter (OE mask)).map λ(i:Nat)=>ns.getD i AJ.z
section
variable {ns:List AJ} {mask:Int} {k:Nat} {h:GH}
theorem pickN_t(hb:mask.fdiv (2 ^ k)%2=1):EE ns mask (k+1)=EE ns mask k++[ns.getD k AJ.z]:=by
 unfold EE;rw [J9 (by unfold OE;rw [decide_eq_true hb]),List.map_append];rfl
theorem pickN_f(hb:¬mask.fdiv (2 ^ k)%2=1):EE ns mask (k+1)=EE ns mask k:=by
 unfold EE;rw [KA (by unfold OE;rw [decide_eq_false hb])]
theorem SP(ns:List AJ)(mask:Int)(k:Nat):(EE ns mask k).length<=k:=by
 unfold EE;rw [List.length_map]
 have:=List.length_filter_le (OE mask) (List.range k)
 rwa [List.length_range] at this
theorem VU(ns:List AJ)(mask:Int)(k q:Nat)(hq:q<(EE ns mask k).length):∃i,i<k/\(EE ns mask k).getD q AJ.z=ns.getD i AJ.z:=by
 have hm:(EE ns mask k).getD q AJ.z ∈ EE ns mask k:=Bf hq;unfold EE at hm ⊢;obtain ⟨i,hi,e⟩:=List.mem_map.1 hm;exact ⟨i,List.mem_range.1 (List.mem_filter.1 hi).1,e.symm⟩
theorem Ax.pick(x:Ax h ns)(mask:Int)(k:Nat):Ax h (EE ns mask k):=λq=>by
 by_cases hq:q<(EE ns mask k).length
 ·obtain ⟨i,_,e⟩:=VU ns mask k q hq;rw [e];exact x i
 ·rw [List.getD_eq_getElem?_getD,List.getElem?_eq_none aA];exact Ax.nil h 0
theorem Ax.fine1(x:Ax h ns)(k:Nat):(CD (ns.getD k AJ.z)).toList.all (·.oneCell')=true:=by
 show (((ns.getD k AJ.z).wv.oneCell') && (true && (true && true)))=true;rw [(AO.one (x k)).2];rfl
theorem Ax.fine(x:Ax h ns):∀y ∈ ns,(CD y).toList.all (·.oneCell')=true:=λy hy=>by
 obtain ⟨i,hi,e⟩:=List.mem_iff_getElem.1 hy
 have:=x.fine1 i
 rw [List.getD_eq_getElem?_getD,List.getElem?_eq_getElem hi] at this;rw [<-e];exact this
theorem UJ{nw:Nat}{ns ns':List AJ}{k i:Nat}(e:ns'.getD k AJ.z=ns.getD i AJ.z):Dz nw ns' k=Dz nw ns i:=by unfold Dz;rw [e]
theorem A6.pick{bag kinds:Int}{ps:List ByteArray}{ws:List AB}{js:List AM}(b:A6 bag kinds ps ws js ns)(mask:Int):A6 bag kinds ps ws js (EE ns mask ns.length):=
 { b with
  nlen:=Nat.le_trans (SP ns mask ns.length) b.nlen
  note:=λk hk=>by
   obtain ⟨i,hi,e⟩:=VU ns mask ns.length k hk;rw [UJ e];exact b.note i hi }
end
section
variable (ws:List AB) (js:List AM) (ns:List AJ)
def F4(x:Bool×List Int)(l:List Int):Bool:=x.1 && (decide ((x.2.length:Int)<l.length) || (decide ((l.length:Int)=x.2.length) && decide (0<U8 l x.2)))
def CB:Nat->Bool×List Int
 | 0=>(false,[])
 | q+1=>if F4 (CB q) (D6 (q:Int) ns.length)=true then CB q else if (AE ws js (EE ns (q:Int) ns.length)).length=0 then (true,D6 (q:Int) ns.length) else CB q
variable {ws js ns} {q:Nat}
theorem Ie(h:F4 (CB ws js ns q) (D6 (q:Int) ns.length)=true):CB ws js ns (q+1)=CB ws js ns q:=if_pos h
theorem OV(h:F4 (CB ws js ns q) (D6 (q:Int) ns.length)=false)(h2:((AE ws js (EE ns (q:Int) ns.length)).length:Int)=0):CB ws js ns (q+1)=(true,D6 (q:Int) ns.length):=by
 rw [CB,if_neg (by rw [h];simp),if_pos aA]
theorem OW(h:F4 (CB ws js ns q) (D6 (q:Int) ns.length)=false)(h2:¬((AE ws js (EE ns (q:Int) ns.length)).length:Int)=0):CB ws js ns (q+1)=CB ws js ns q:=by
 rw [CB,if_neg (by rw [h];simp),if_neg aA]
theorem tWorse_f1{x:Bool×List Int}{l:List Int}(h:x.1=false):F4 x l=false:=by unfold F4;rw [h];rfl
theorem tWorse_f2{x:Bool×List Int}{l:List Int}(h:¬(x.2.length:Int)<l.length)(h2:¬(l.length:Int)=x.2.length):F4 x l=false:=by
 unfold F4;rw [decide_eq_false h,decide_eq_false h2];simp
theorem tWorse_f3{x:Bool×List Int}{l:List Int}(h:¬(x.2.length:Int)<l.length)(h2:¬0<U8 l x.2):F4 x l=false:=by
 unfold F4;rw [decide_eq_false h,decide_eq_false h2];simp
theorem SQ{x:Bool×List Int}{l:List Int}(h:x.1=true)(h1:(x.2.length:Int)<l.length):F4 x l=true:=by
 unfold F4;rw [h,decide_eq_true h1];simp
theorem SR{x:Bool×List Int}{l:List Int}(h:x.1=true)(h1:(l.length:Int)=x.2.length)(h2:0<U8 l x.2):F4 x l=true:=by
 unfold F4;rw [h,decide_eq_true h1,decide_eq_true h2];simp
theorem pow_16:∀{n:Nat},n<=4->(1:Int)<=(2:Int) ^ n/\(2:Int) ^ n<=16
 | 0,_=>aC
 | 1,_=>aC
 | 2,_=>aC
 | 3,_=>aC
 | 4,_=>aC
theorem QL:∀q,(CB ws js ns q).2.length<=ns.length
 | 0=>Nat.zero_le _
 | q+1=>by
  have e:=QL q;unfold CB;split
  ·exact e
  ·split
   ·exact SE _ _
   ·exact e
def HD(bag kinds:Int)(ps:List ByteArray)(ws:List AB)(js:List AM)(ns:List AJ):List Int:=
 if¬BX bag kinds ps ws js ns=0 then [] else if (0:Int)<(AE ws js ns).length then [] else (CB ws js ns (2 ^ ns.length)).2
end
section
variable {bag kinds:Int} {ps:List ByteArray} {ws:List AB} {js:List AM} {ns:List AJ} {q:Nat}
theorem VV(h:¬BX bag kinds ps ws js ns=0):HD bag kinds ps ws js ns=[]:=if_pos h
theorem UK(h:(0:Int)<(AE ws js ns).length):HD bag kinds ps ws js ns=[]:=by
 unfold HD;rw [if_pos h];exact ite_self _
theorem VW(h:BX bag kinds ps ws js ns=0)(h1:¬(0:Int)<(AE ws js ns).length)(hq:¬(q:Int)<(2:Int) ^ ((ns.length:Int)).toNat)(hq2:(q:Int)<=(2:Int) ^ ((ns.length:Int)).toNat):HD bag kinds ps ws js ns=(CB ws js ns q).2:=by
 have e:((2 ^ ns.length:Nat):Int)=(2:Int) ^ ((ns.length:Int)).toNat:=by rw [Int.toNat_natCast,Int.natCast_pow];rfl
 rw [<-e] at hq hq2
 have:2 ^ ns.length=q:=aA
 unfold HD;rw [if_neg (λx=>x h),if_neg h1,this]
end
section
variable (ws:List AB) (js:List AM) (ns:List AJ)
abbrev LG(pq:List AD)(i:Nat):Nat->Int:=λk=>(pq.getD k AD.zero).ways i
def VX(pq:List AD)(i:Nat):Int:=LO (LG pq i) pq.length
def Hs(pq:List AD)(k:Nat):Int×Int:=askTo (VX pq) (pq.length:Int) k
theorem SS{pq:List AD}{k:Nat}(h:VX pq k<(Hs pq k).2):Hs pq (k+1)=((k:Int),VX pq k):=if_pos h
theorem ST{pq:List AD}{k:Nat}(h:¬VX pq k<(Hs pq k).2):Hs pq (k+1)=Hs pq k:=if_neg h
def UL(bag kinds:Int)(ps:List ByteArray)(ws:List AB)(js:List AM)(ns:List AJ):Int:=if¬Ac bag kinds ps ws js ns 0=0 then 0 else (Hs (AE ws js ns) ws.length).1
def PG(bag kinds:Int)(ps:List ByteArray)(ws:List AB)(js:List AM)(ns:List AJ):Int:=if¬Ac bag kinds ps ws js ns 0=0 then 0 else (Hs (AE ws js ns) ws.length).2
end
end Go.Ns
namespace Go.Ns
open Go.Conc
def O1(hs:GH)(k0 ln:Nat)(c:Array Value)(t:TypeId)(k:Nat)(v:Value)(h:GH):Prop:=k=k0->∃r,v=.slice (some ⟨r,0,none⟩) ln ln/\hs r=none/\h r=some (true,.cells c t (0,0))
theorem O1.mono(hs:GH)(k0 ln:Nat)(c:Array Value)(t:TypeId):∀k v h1 h2,GH.Le h1 h2->O1 hs k0 ln c t k v h1->O1 hs k0 ln c t k v h2:=λ_ _ _ _ l x e=>by
 obtain ⟨r,q1,q2,q3⟩:=x e;exact ⟨r,q1,q2,l.keep q3 rfl⟩
theorem NV{P:Program}{E:Gh P}{O:Nat->Value}{ds:List Deferred}{hs hx:GH}{dst:Option Nat}{ty:TypeId}{pos:String}{af:Array Edge}{gd:Option (Nat×Bool)}{t:TypeId}{len n k0 k:Nat}{z cells:Array Value}{e:TypeId}{parts:Array (Nat×Operand)}
  (h0:DU P t=some (n,z,e)) (hl:len*n<=2 ^ 24) (hn:(len*n=0)=False) (hf:Instr.fill (λi=>some (i*n,n)) ((Array.range (len*n)).map (z[·%z.size]!)) (parts.map λ(i,x)=>(i,AR O x)).toList=some cells) (l:hs.Le hx) :
  BT E ⟨dst,.buildSlice t len parts,ty,pos,af,gd⟩ O ds hx λσ' ds' h'=>ds'=ds/\∃v,σ'=putS O dst v/\hx.Le h'/\O1 hs k0 len cells e k v h':=
 AW h0 hl hn hf λr h' hr le bx _=>⟨rfl,_,rfl,le,λ_=>⟨r,rfl,GH.Le.nothing l hr,bx⟩⟩
def LfW(hs:GH)(k0 ln:Nat)(c:Array Value)(t:TypeId)(n:Nat)(Fr:GH->Prop)(k:Nat)(v:Value)(h:GH):Prop:=O1 hs k0 ln c t k v h/\(k=n->Fr h)
theorem LfW.mono(hs:GH)(k0 ln:Nat)(c:Array Value)(t:TypeId)(n:Nat){Fr:GH->Prop}(m:∀h1 h2,GH.Le h1 h2->Fr h1->Fr h2):∀k v h1 h2,GH.Le h1 h2->LfW hs k0 ln c t n Fr k v h1->LfW hs k0 ln c t n Fr k v h2:=λ_ _ _ _ l x=>⟨O1.mono _ _ _ _ _ _ _ _ _ l x.1,λe=>m _ _ l (x.2 e)⟩
theorem XU{P:Program}{E:Gh P}{O:Nat->Value}{ds:List Deferred}{hs hx:GH}{dst:Option Nat}{ty:TypeId}{pos:String}{af:Array Edge}{gd:Option (Nat×Bool)}{t:TypeId}{len n k0 N:Nat}{z cells:Array Value}{e:TypeId}{parts:Array (Nat×Operand)}{Fr:GH->Prop}(hk:k0≠N)
  (h0:DU P t=some (n,z,e)) (hl:len*n<=2 ^ 24) (hn:(len*n=0)=False) (hf:Instr.fill (λi=>some (i*n,n)) ((Array.range (len*n)).map (z[·%z.size]!)) (parts.map λ(i,x)=>(i,AR O x)).toList=some cells) (l:hs.Le hx) :
  BT E ⟨dst,.buildSlice t len parts,ty,pos,af,gd⟩ O ds hx λσ' ds' h'=>ds'=ds/\∃v,σ'=putS O dst v/\hx.Le h'/\LfW hs k0 len cells e N Fr k0 v h':=
 AW h0 hl hn hf λr h' hr le bx _=>⟨rfl,_,rfl,le,λ_=>⟨r,rfl,GH.Le.nothing l hr,bx⟩,λe=>absurd e hk⟩
theorem tFg{P:Program}{E:Gh P}{l:List Oper}{n:Nat}{fl:Bool}{hs:GH}{ds:List Deferred}{Lw:Nat->Value->GH->Prop}{F:(Nat->Value)->GH->Prop}{π:List Nat}{O:Nat->Value}{h:GH}{m k g d:Nat}{dst:Option Nat}{op:Op}{ty:TypeId}{pos:String}{af:Array Edge}{v:Value}{w:Bool}{og:Oper}
  (hk:LK m=(.p,k)) (ho:l[k]? =some ⟨dst,op,ty,pos,af,some (g,w)⟩) (h1:l[g]? =some og) (h2:og.dst=some d) (h3:O d=.bool w) (x:∀hx,Lw n undef hx->Ts E ⟨dst,op,ty,pos,af,some (g,w)⟩ O ds hx v)
  (y:TD E l n fl hs ds Lw F (dK π) (putS O dst v) h):TD E l n fl hs ds Lw F (dK (m ::π)) O h:=by
 unfold dK;rw [hk];exact ⟨_,true,ho,Ho h1 h2 h3,λe=>(by cases e),λ_=>⟨v,x,y⟩⟩
theorem tWLg{P:Program}{E:Gh P}{l:List Oper}{n:Nat}{hs:GH}{ds:List Deferred}{Lw:Nat->Value->GH->Prop}{F:(Nat->Value)->GH->Prop}{π:List Nat}{O:Nat->Value}{h:GH}{m k g d:Nat}{dst:Option Nat}{op:Op}{ty:TypeId}{pos:String}{af:Array Edge}{w:Bool}{og:Oper}(hk:LK m=(.w,k))(ho:l[k]? =some ⟨dst,op,ty,pos,af,some (g,w)⟩)(h1:l[g]? =some og)(h2:og.dst=some d)(h3:O d=.bool w)
  (x:BT E ⟨dst,op,ty,pos,af,some (g,w)⟩ O ds h λσ' ds' h'=>ds'=ds/\∃v,σ'=putS O dst v/\Lw n undef h'/\TD E l n false hs ds Lw F (dK π) (putS O dst v) h'):TD E l n false hs ds Lw F (dK (m ::π)) O h:=by
 unfold dK;rw [hk];exact ⟨_,true,ho,Ho h1 h2 h3,λe=>(by cases e),λ_ hx hg=>by rw [hg.2 rfl];exact x⟩
def Ty(h:GH)(t:TypeId)(v:Value):Prop:=∀b,CV v=some b->∃p c f,h b=some (p,.cells c t f)
def Dg(h:GH)(t:TypeId)(v:Value)(xs:List Int):Prop:=AO h v 1 eI xs/\Ty h t v
theorem Dg.le{h h':GH}{t:TypeId}{v:Value}{xs:List Int}(x:Dg h t v xs)(l:h.Le h'):Dg h' t v xs:=⟨x.1.le l,λb hb=>by
 obtain ⟨p,c,f,q⟩:=x.2 b hb;exact ⟨p,c,f,l.keep q rfl⟩⟩
theorem Dg.nil(h:GH)(t:TypeId):Dg h t (.slice none 0 0) []:=⟨AO.nil _ _ _,λb hb=>by cases hb⟩
theorem Dg.own{h0 h:GH}{t:TypeId}{v:Value}{xs:List Int}(o:AQ h0 h v t 1 eI xs):Dg h t v xs:=⟨o.sl,λb hb=>by
 rcases o with ⟨rfl,_⟩ | ⟨b1,cap,c,rfl,_,h2,_⟩
 ·cases hb
 ·simp only [CV,Option.some.injEq] at hb;subst hb;exact ⟨_,_,_,h2⟩⟩
theorem Dg.same{h h':GH}{t:TypeId}{w:Value}{xs:List Int}(x:Dg h t w xs)(key:∀b,CV w=some b->h' b=h b):Dg h' t w xs:=by
 refine ⟨?_,λb hb=>by rw [key b hb];exact x.2 b hb⟩;obtain ⟨a,cap,hv,hc,hm,he⟩:=x.1;refine ⟨a,cap,hv,hc,hm,λi hi=>?_⟩;obtain ⟨b,off,h1,h2⟩:=he i hi;exact ⟨b,off,h1,h2.same (key b (by rw [hv,h1];rfl))⟩
theorem Dg.grown{V:Type}{h h' h0:GH}{v v':Value}{t t':TypeId}{n:Nat}{enc:V->Array Value}{ys:List V}(g:GN h h' v v')(o:AQ h0 h v t' n enc ys)(ne:t'≠t){w:Value}{xs:List Int}(x:Dg h t w xs):Dg h' t w xs:=
 x.same λb hb=>by
  obtain ⟨p,c,f,q⟩:=x.2 b hb;rw [q];refine g.1 b _ q λe=>?_;rcases o with ⟨rfl,_⟩ | ⟨b1,cap,c1,rfl,_,h2,_⟩
  ·cases e
  ·simp only [CV,Option.some.injEq] at e;subst e;rw [q] at h2;cases h2;exact ne rfl
theorem Dg.keepX{X:Nat->Prop}{h h':GH}{t:TypeId}{w:Value}{xs:List Int}(x:Dg h t w xs)(k:Bc X h h')(n:∀b,CV w=some b->¬X b):Dg h' t w xs:=
 x.same λb hb=>by
  obtain ⟨p,c,f,q⟩:=x.2 b hb;rw [q];exact k.box q (n b hb) rfl
theorem Dg.store{h h':GH}{t t':TypeId}{w:Value}{xs:List Int}{r:Nat}{p:Bool}{c:Array Value}{f:Nat×Nat}(x:Dg h t w xs)(hr:h r=some (p,.cells c t' f))(ne:t'≠t)(ho:∀b,b≠r->h' b=h b):Dg h' t w xs:=
 x.same λb hb=>ho b λe=>by
  obtain ⟨p2,c2,f2,q⟩:=x.2 b hb;rw [e,hr] at q;cases q;exact ne rfl
def Bj(h:GH)(t:TypeId)(l:List Sl):Prop:=∀k,Dg h t (l.getD k Sl.z).1 (l.getD k Sl.z).2
theorem Bj.le{h h':GH}{t:TypeId}{l:List Sl}(x:Bj h t l)(e:h.Le h'):Bj h' t l:=λk=>(x k).le e
theorem Bj.nil(h:GH)(t:TypeId):Bj h t []:=λk=>by
 rw [BW aD];exact Dg.nil _ _
theorem KL{V:Type}(z:V)(a b:List V)(k:Nat):(a++b).getD k z=if k<a.length then a.getD k z else b.getD (k-a.length) z:=by
 simp only [List.getD_eq_getElem?_getD,List.getElem?_append];split <;> rfl
theorem Bj.app{h:GH}{t:TypeId}{l l':List Sl}(a:Bj h t l)(b:Bj h t l'):Bj h t (l++l'):=λk=>by
 rw [KL];split
 ·exact a k
 ·exact b _
theorem Bj.one{h:GH}{t:TypeId}{x:Sl}(a:Dg h t x.1 x.2):Bj h t [x]:=λk=>by
 cases k with
 | zero=>exact a
 | succ k=>rw [BW aD];exact Dg.nil _ _
theorem Bj.fine{h:GH}{t:TypeId}{l:List Sl}(a:Bj h t l):∀y ∈ l,(H4 y).toList.all (·.oneCell')=true:=λy hy=>by
 obtain ⟨i,hi,e⟩:=List.mem_iff_getElem.1 hy;have z:=a i;rw [List.getD_eq_getElem?_getD,List.getElem?_eq_getElem hi] at z;have z2:Dg h t l[i].1 l[i].2:=z;rw [<-e];show ((l[i].1.oneCell') && true)=true;rw [(AO.one z2.1).2];rfl
theorem Kv(a b:List Sl):A1 (a++b)=A1 a++A1 b:=by simp [A1]
section
variable {V:Type} {hB:GH} {I:List V->(Nat->Prop)->GH->Prop} {S:GH->Prop} {X0 X X1:Nat->Prop} {h hc h':GH} {pre l:List V} {v v':Value}
def JZ(hB:GH)(X0 X:Nat->Prop)(h:GH)(v:Value):Prop:=∀b,CV v=some b->¬X b/\(X0 b\/h b=none)/\hB b=none
theorem Em.old(y:Em hB I X0 h pre X hc){b:Nat}(e:hc b=none):X0 b\/h b=none:=by
 by_cases q:X0 b
 ·exact .inl q
 ·refine .inr ?_;cases hb:h b with
  | none=>rfl
  | some x=>
   obtain ⟨o',h1,_⟩:=y.keep b x.1 x.2 hb q;rw [e] at h1;cases h1
theorem Em.fresh(P:Gb hB I)(y:Em hB I X0 h pre X hc)(o:∀b,CV v=some b->hc b=none):JZ hB X0 X h v:=λb hb=>⟨P.off y.inv (o b hb),y.old (o b hb),y.base.nothing (o b hb)⟩
theorem JZ.grown(f:JZ hB X0 X h v)(P:Gb hB I)(y:Em hB I X0 h pre X hc)(g:GN hc h' v v'):JZ hB X0 X h v':=λb hb=>by
 rcases g.2 with e | ⟨⟨r,e1,e2⟩,_⟩
 ·exact f b (e▸hb)
 ·rw [e1] at hb;cases hb;exact ⟨P.off y.inv e2,y.old e2,y.base.nothing e2⟩
theorem Em.app(P:Gb hB I)(y:Em hB I X0 h pre X hc)(g:GN hc h' v v')(f:JZ hB X0 X h v):Em hB I X0 h pre X h':=by
 have lB:hB.Le h':=λb p o hb=>by
  obtain ⟨o1,h1,h2⟩:=y.base b p o hb;exact ⟨o1,g.1 b _ h1 λe=>(by rw [(f b e).2.2] at hb;cases hb),h2⟩
 refine ⟨P.stable _ _ hc h' y.inv (λb hb=>?_) lB,y.sub,λb p o hb hn=>?_,lB⟩
 ·obtain ⟨p,o,h1,_⟩:=P.dom _ _ _ b y.inv hb;rw [h1];exact g.1 b _ h1 λe=>(f b e).1 hb
 ·obtain ⟨o1,h1,h2⟩:=y.keep b p o hb hn;exact ⟨o1,g.1 b _ h1 λe=>(f b e).2.1.elim hn λq=>(by rw [q] at hb;cases hb),h2⟩
theorem Em.callL(y:Em hB I X0 h pre X hc)(f:JZ hB X0 X h v){u:Value}(r:Ez hB I S pre (λb=>X b\/CV v=some b) hc l u h') :
  ∃ok X',u=.bool ok/\(∀b,X' b->(X b\/CV v=some b)\/hc b=none)/\Bc (λb=>X b\/CV v=some b) hc h'/\(ok=true->Em hB I X0 h (pre++l) X' h')/\(ok=false->∀l',Ez hB I S pre X0 h l' (.bool false) h'):=by
 obtain ⟨ok,X',hv,hs,hk,hl,h1,h2⟩:=r;have s:∀b,(X b\/CV v=some b)->X0 b\/h b=none:=λb q=>q.elim (y.sub b) λe=>(f b e).2.1;have kk:Bc X0 h h':=y.keep.trans s hk;have ss:=subX s y.keep hs;exact ⟨ok,X',hv,hs,hk,λe=>⟨h1 e,ss,kk,hl⟩,λe l'=>⟨false,X',rfl,ss,kk,hl,(λx=>by cases x),λ_=>h2 e⟩⟩
end
structure QM{P:Program}(W:Wk P)(hB:GH)(yv:Value)(t:TypeId)(I:List (List Int)->(Nat->Prop)->GH->Prop)(S:GH->Prop)(all:List (List Int)):Prop where
 prom:Gb hB I
 one:yv.cells=#[yv]
 call:∀pre p post X h v,all=pre++p ::post->I pre X h->hB.Le h->Dg h t v p->(∀b,CV v=some b->¬X b/\hB b=none)->Bz W yv #[v] h (Ez hB I S pre (λb=>X b\/CV v=some b) h [p])
section
variable {P:Program} {E:Gh P} {O:Nat->Value} {ds:List Deferred}
theorem SU{t0:TypeId}{all:List (List Int)}{hB hc:GH}{J:List (List Int)->(Nat->Prop)->GH->Prop}{Stop:Code->GH->Prop}{Y0:Nat->Prop}{par:Tmp}{f:Operand}{assign body:Code}{Q:Post}
  (hrd:E.rd=none) (hpar:Nat.blt par E.N=true) (hJ:Gb hB J) (hB0:hB.Le hc) (j0:J [] Y0 hc)
  (hS:∀c (h h':GH) l lo,Stop c h->h l=some (true,.loop lo)->(∀b,b≠l->h' b=h b)->Stop c h')
  (src:∀(yv:Value)(I:List (List Int)->(Nat->Prop)->GH->Prop)(Sp:GH->Prop)(X:Nat->Prop)(h:GH),QM E.wk hB yv t0 I Sp all->hB.Le h->I [] X h->Bz E.wk (AR O f) #[yv] h λ_ h'=>YEnd hB I Sp all X h h')
  (round:∀(l d:Nat)(lo:Loop)(pre:List (List Int))(p:List Int)(post:List (List Int))(Y:Nat->Prop)(h:GH)(v:Value),all=pre++p ::post->J pre Y h->hB.Le h->hB l=none->¬Y l->h l=some (true,.loop lo)->Dg h t0 v p->(∀b,CV v=some b->¬Y b/\hB b=none)->
   Tr ⟨E.wk,E.fn,some l,E.N⟩ assign (upd O par v) [] h λe σ' ds' h1=>e=.normal/\h1 l=some (true,.loop lo)/\∀h2,h2 l=some (true,.loop { lo with state:=.busy })->(∀b,b≠l->h2 b=h1 b)->
    Tr ⟨E.wk,E.fn,some l,E.N⟩ body σ' ds' h2 (U7 hB J Stop (pre++[p]) (λb=>Y b\/CV v=some b) h l lo))
  (fin:∀(d l:Nat)(h':GH),hB.Le h'->hB d=none->hB l=none->hc d=none->h' d=some (true,.deferred (some []))->
   (∀Y,J all Y h'->(∀b,Y b->b≠d)->Q .normal O ({ target:=.collected d,args:=#[] } ::ds) h')/\
   (∀c,Stop c h'->match c with
    | .exit id=>Q (.exit id) O ({ target:=.collected d,args:=#[] } ::ds) h'
    | .ret=>Q .ret O ({ target:=.collected d,args:=#[] } ::ds) h'
    | _=>False)):Tr E (.rangeFunc f #[par] assign body) O ds hc Q:=by
 refine MP hrd λt d l hs hd hl hne=>?_;have hl':hB l=none:=hB0.nothing hl;have hd':hB d=none:=hB0.nothing hd;let lo:Loop:={ state:=.ready,pending:=none,fn:=E.fn,tmps:=t,params:=#[par],assign,body,defers:=d };have nYl:¬Y0 l:=hJ.off j0 hl;have nYd:¬Y0 d:=hJ.off j0 hd;have hL1:((hc.set d true (.deferred (some []))).set l true (.loop lo)) l=some (true,.loop lo):=GH.set_same _ _ _ _;have hL2:((hc.set d true (.deferred (some []))).set l true (.loop lo)) d=some (true,.deferred (some [])):=by rw [GH.set_ne _ _ _ (Ne.symm hne)];exact GH.set_same _ _ _ _
 have hL3:∀b,b≠l->b≠d->((hc.set d true (.deferred (some []))).set l true (.loop lo)) b=hc b:=λb h1 h2=>by rw [GH.set_ne _ _ _ h1,GH.set_ne _ _ _ h2]
 have hLB:hB.Le ((hc.set d true (.deferred (some []))).set l true (.loop lo)):=(hB0.trans (GH.Le.new hd _ _)).trans (GH.Le.new (by rw [GH.set_ne _ _ _ hne];exact hl) _ _);have hI0:OD J l d lo [] (λb=>Y0 b\/b=l\/b=d) ((hc.set d true (.deferred (some []))).set l true (.loop lo)):=by
  refine ⟨Y0,hJ.stable _ _ hc _ j0 (λb hb=>hL3 b (λe=>nYl (e▸hb)) (λe=>nYd (e▸hb))) hLB,λb=>Iff.rfl,nYl,nYd,hL1,hL2⟩
 have prom:Gb hB (OD J l d lo):=by
  refine ⟨?_,?_⟩
  ·rintro pre X h b ⟨Y,j,hX,_,_,h1,h2⟩ hb;rcases (hX b).1 hb with h3 | rfl | rfl
   ·exact hJ.dom _ _ _ _ j h3
   ·exact ⟨_,_,h1,rfl⟩
   ·exact ⟨_,_,h2,rfl⟩
  ·rintro pre X h h' ⟨Y,j,hX,n1,n2,h1,h2⟩ same lB;refine ⟨Y,hJ.stable _ _ h h' j (λb hb=>same b ((hX b).2 (.inl hb))) lB,hX,n1,n2,?_,?_⟩
   ·rw [same l ((hX l).2 (.inr (.inl rfl)))];exact h1
   ·rw [same d ((hX d).2 (.inr (.inr rfl)))];exact h2
 have yk:QM E.wk hB (.func (.yield l) #[] #[]) t0 (OD J l d lo) (SC Stop l d lo) all:=by
  refine ⟨prom,rfl,?_⟩;rintro pre p post X h v hall ⟨Y,j,hX,n1,n2,h1,h2⟩ lB hsv hvX;have nvl:CV v≠some l:=λe=>by obtain ⟨_,_,_,q⟩:=hsv.2 l e;rw [h1] at q;cases q
  have nvd:CV v≠some d:=λe=>by obtain ⟨_,_,_,q⟩:=hsv.2 d e;rw [h2] at q;cases q
  refine Pe h1 rfl ?_;have ef:(lo.params.zip #[v]).foldl (λtmps x=>tmps.setIfInBounds x.1 x.2) lo.tmps=t.setIfInBounds par v:=by simp [lo]
  rw [ef];show BV E.wk l E.fn (t.setIfInBounds par v) assign body h _;have hs':=hs.put hpar v;refine N9 (N:=E.N) hs'.1 ?_;have e0:(λi=>(t.setIfInBounds par v).getD i undef)=upd O par v:=funext hs'.2;rw [e0];refine Kk ?_ (round l d lo pre p post Y h v hall j lB hl' n1 h1 hsv λb hb=>⟨λq=>(hvX b hb).1 ((hX b).2 (.inl q)),(hvX b hb).2⟩);rintro e σ' ds' ha ⟨rfl,ha1,hb⟩;refine ⟨rfl,lo,ha1,rfl,?_⟩;refine Kk ?_ (hb _ (GH.set_same _ _ _ _) λb hb=>GH.set_ne _ _ _ hb);rintro e σ2 ds2 h3 ⟨g1,Y',g2,g3,g4,g5⟩;have hd3:h3 d=some (true,.deferred (some [])):=g3.box h2 (λq=>q.elim (λq=>q.elim n2 nvd) (λe=>hne e.symm)) rfl;have nl:¬Y' l:=λq=>(g2 l q).elim (λq=>q.elim n1 nvl) λe=>by rw [h1] at e;cases e
  have nd:¬Y' d:=λq=>(g2 d q).elim (λq=>q.elim n2 nvd) λe=>by rw [h2] at e;cases e
  have key:∀(lo2:Loop)(ok:Bool),(if ok then J (pre++[p]) Y' (h3.set l true (.loop lo2))/\lo2=lo else SC Stop l d lo (h3.set l true (.loop lo2)))->Ez hB (OD J l d lo) (SC Stop l d lo) pre (λb=>X b\/CV v=some b) h [p] (.bool ok) (h3.set l true (.loop lo2)):=by
   intro lo2 ok hok;refine ⟨ok,λb=>Y' b\/b=l\/b=d,rfl,?_,?_,?_,?_,?_⟩
   ·rintro b (hb | rfl | rfl)
    ·exact (g2 b hb).imp (λq=>q.imp (λq=>(hX b).2 (.inl q)) id) id
    ·exact .inl (.inl ((hX _).2 (.inr (.inl rfl))))
    ·exact .inl (.inl ((hX _).2 (.inr (.inr rfl))))
   ·intro b q o hb hn;have nb:b≠l:=λe=>hn (.inl ((hX b).2 (.inr (.inl e))));rw [GH.set_ne _ _ _ nb];exact g3 b q o hb λq=>q.elim (λz=>z.elim (λz=>hn (.inl ((hX b).2 (.inl z)))) λz=>hn (.inr z)) nb
   ·exact g4.upd hl' λb hb=>GH.set_ne _ _ _ hb
   ·rintro rfl;simp only [if_true] at hok;obtain ⟨hj,rfl⟩:=hok;exact ⟨Y',hj,λb=>Iff.rfl,nl,nd,GH.set_same _ _ _ _,by rw [GH.set_ne _ _ _ (Ne.symm hne)];exact hd3⟩
   ·rintro rfl;simpa using hok
  have js:∀(lo2:Loop),J (pre++[p]) Y' h3->J (pre++[p]) Y' (h3.set l true (.loop lo2)):=λlo2 hj=>hJ.store hj nl (λb hb=>GH.set_ne _ _ _ hb) (g4.upd hl' λb hb=>GH.set_ne _ _ _ hb);have ss:∀c (lo2:Loop),Stop c h3->Stop c (h3.set l true (.loop lo2)):=λc lo2 hc=>hS c h3 _ l _ hc g1 λb hb=>GH.set_ne _ _ _ hb;refine ⟨_,g1,?_⟩;cases e with
  | normal=>exact key _ true (by simp only [if_true];exact ⟨js _ g5,rfl⟩)
  | exit id=>exact key _ false (by simp only [Bool.false_eq_true,if_false];exact ⟨_,ss _ _ g5,GH.set_same _ _ _ _,by rw [GH.set_ne _ _ _ (Ne.symm hne)];exact hd3⟩)
  | ret=>exact key _ false (by simp only [Bool.false_eq_true,if_false];exact ⟨_,ss _ _ g5,GH.set_same _ _ _ _,by rw [GH.set_ne _ _ _ (Ne.symm hne)];exact hd3⟩)
  | goto _=>exact g5.elim
  | panic _=>exact g5.elim
  | outgrown=>exact g5.elim
 refine (src _ _ _ _ _ yk hLB hI0).mono ?_;rintro v h' ⟨X',hs',hk,hl2,hor⟩;rcases hor with ⟨Y,j,hX,n1,n2,h1,h2⟩ | ⟨c,hst,h1,h2⟩
 ·refine ⟨lo,h1,rfl,?_⟩;show Q .normal O _ _;have hB':=hl2.upd hl' (λb hb=>GH.set_ne h' true (.loop { lo with state:=.exhausted }) hb);refine (fin d l _ hB' hd' hl' hd (by rw [GH.set_ne _ _ _ (Ne.symm hne)];exact h2)).1 Y (hJ.store j n1 (λb hb=>GH.set_ne _ _ _ hb) hB') λb hb e=>n2 (e▸hb)
 ·refine ⟨_,h1,rfl,?_⟩;have hB':=hl2.upd hl' (λb hb=>GH.set_ne h' true (.loop { { lo with state:=.done,pending:=some c } with state:=.exhausted }) hb)
  have:=(fin d l _ hB' hd' hl' hd (by rw [GH.set_ne _ _ _ (Ne.symm hne)];exact h2)).2 c (hS c h' _ l _ hst h1 λb hb=>GH.set_ne _ _ _ hb)
  cases c with
  | exit id=>exact this
  | ret=>exact this
  | _=>exact this.elim
end
def Iw(l:List Int)(k:Int):Bool:=l.any (λx=>decide (k=x))
def BU(jobs:List Int):Nat->List Int->List (List Int)
 | 0,l=>[l]
 | f+1,l=>l ::jobs.flatMap λk=>if Iw l k=true then [] else BU jobs f (l++[k])
def CK(jobs:List Int):Nat->List Int->Int->List (List Int)
 | 0,_,_=>[]
 | f+1,l,k=>if Iw l k=true then [] else BU jobs f (l++[k])
theorem HE(jobs:List Int)(f:Nat)(l:List Int):BU jobs f l=l ::jobs.flatMap (CK jobs f l):=by
 cases f with
 | zero=>simp [BU,CK]
 | succ f=>rfl
def Da(jobs:List Int):List (List Int):=BU jobs jobs.length []
def Lt(jobs l:List Int):Nat:=(jobs.filter λk=> !Iw l k).length
theorem hasI_app(l:List Int)(k j:Int):Iw (l++[k]) j=(Iw l j || decide (j=k)):=by simp [Iw]
theorem OX{jobs l:List Int}{k:Int}(hk:k ∈ jobs)(h:Iw l k=false):Lt jobs (l++[k])<Lt jobs l:=by
 unfold Lt;have key:∀js:List Int,(js.filter λj=> !Iw (l++[k]) j).length<=(js.filter λj=> !Iw l j).length/\(k ∈ js->(js.filter λj=> !Iw (l++[k]) j).length<(js.filter λj=> !Iw l j).length):=by
  intro js
  induction js with
  | nil=>exact ⟨Nat.le_refl _,λe=>by cases e⟩
  | cons j js ih=>
   obtain ⟨ih1,ih2⟩:=ih;rw [List.filter_cons,List.filter_cons,hasI_app];by_cases e:j=k
   ·subst e;simp only [h,Bool.false_or,decide_true,Bool.not_true,Bool.false_eq_true,if_false,Bool.not_false,if_true,List.length_cons];exact ⟨aA,λ_=>aA⟩
   ·rw [decide_eq_false e,Bool.or_false];split
    ·simp only [List.length_cons];exact ⟨aA,λq=>by have:=ih2 ((List.mem_cons.1 q).resolve_left λz=>e z.symm);omega⟩
    ·exact ⟨ih1,λq=>ih2 ((List.mem_cons.1 q).resolve_left λz=>e z.symm)⟩
 exact (key jobs).2 hk
theorem XV{jobs:List Int}{i:Nat}{F:Int->List (List Int)}(hi:i<jobs.length):(jobs.take (i+1)).flatMap F=(jobs.take i).flatMap F++F (jobs.getD i 0):=by
 rw [Cw 0 hi,List.flatMap_append];simp
theorem CU.job{all pre:List (List Int)}{jobs:List Int}{f i:Nat}{l:List Int}(w:CU all pre (BU jobs f l))(hi:i<jobs.length):CU all (pre++[l]++(jobs.take i).flatMap (CK jobs f l)) (CK jobs f l (jobs.getD i 0)):=by
 rw [HE] at w;have w2:CU all pre ([l]++((jobs.take i).flatMap (CK jobs f l)++(CK jobs f l (jobs.getD i 0)++(jobs.drop (i+1)).flatMap (CK jobs f l)))):=by
  rw [<-List.append_assoc (List.flatMap _ _),<-XV hi,<-List.flatMap_append,List.take_append_drop];exact w
 exact (w2.right.right).left
theorem CU.head{all pre:List (List Int)}{jobs:List Int}{f:Nat}{l:List Int}(w:CU all pre (BU jobs f l)):CU all pre [l]:=by
 rw [HE] at w;exact CU.left (a:=[l]) w
section
variable {jobs l:List Int} {f f' i:Nat} {k:Int} {all pre:List (List Int)}
theorem XW(hk:k ∈ jobs)(h:Iw l k=false)(hu:Lt jobs l<=f):∃f',f=f'+1:=⟨f-1,by have:=OX hk h;omega⟩
theorem Mg(hf:f=f'+1)(h:Iw l k=false):CK jobs f l k=BU jobs f' (l++[k]):=by
 subst hf;exact if_neg (by rw [h];simp)
theorem Rf(h:Iw l k=true):CK jobs f l k=[]:=by
 cases f with
 | zero=>rfl
 | succ f=>exact if_pos h
theorem Rh(hi:i<jobs.length)(h:Iw l (jobs.getD i 0)=true):pre++[l]++(jobs.take (i+1)).flatMap (CK jobs f l)=pre++[l]++(jobs.take i).flatMap (CK jobs f l):=by
 rw [XV hi,Rf h,List.append_nil]
theorem UM(hi:i<jobs.length)(hf:f=f'+1)(h:Iw l (jobs.getD i 0)=false):pre++[l]++(jobs.take (i+1)).flatMap (CK jobs f l)=(pre++[l]++(jobs.take i).flatMap (CK jobs f l))++BU jobs f' (l++[jobs.getD i 0]):=by
 rw [XV hi,Mg hf h,<-List.append_assoc]
theorem roundsEnd(hi:jobs.length<=i):pre++BU jobs f l=pre++[l]++(jobs.take i).flatMap (CK jobs f l):=by
 rw [List.take_of_length_le hi,HE];simp
theorem CU.go(w:CU all pre (BU jobs f l))(hi:i<jobs.length)(hf:f=f'+1)(h:Iw l (jobs.getD i 0)=false):CU all (pre++[l]++(jobs.take i).flatMap (CK jobs f l)) (BU jobs f' (l++[jobs.getD i 0])):=by
 have z:=w.job hi
 rwa [Mg hf h] at z
end
end Go.Ns
namespace Go.Ns
open Go.Conc
theorem Hf.mem{h:GH}{l:List Sl}(a:Hf h l){x:Sl}(hx:x ∈ l):AO h x.1 1 eI x.2:=by
 obtain ⟨i,hi,e⟩:=List.mem_iff_getElem.1 hx;have z:=a i;rw [List.getD_eq_getElem?_getD,List.getElem?_eq_getElem hi] at z;have z2:AO h l[i].1 1 eI l[i].2:=z;rw [<-e];exact z2
theorem Bj.all{h:GH}{t:TypeId}{l:List Sl}(a:Bj h t l):Hf h l:=λk=>(a k).1
theorem Bj.drop1{h:GH}{t:TypeId}{l:List Sl}(a:Bj h t l):Bj h t (l.drop 1):=λk=>by
 rw [List.getD_eq_getElem?_getD,List.getElem?_drop,<-List.getD_eq_getElem?_getD];exact a (1+k)
theorem XX{l:List Sl}{k:Nat}(h:k<l.length-1):(l.drop 1).getD k Sl.z ∈ l:=List.mem_of_mem_drop (Bf (by rw [List.length_drop];exact h))
section
variable (G:List Int->Int) (l:List (List Int))
def EF:Nat->List Int×Int
 | 0=>(l.getD 0 [],G (l.getD 0 []))
 | k+1=>if G ((l.drop 1).getD k [])<(EF k).2 then ((l.drop 1).getD k [],G ((l.drop 1).getD k [])) else EF k
def Db:List Int:=(EF G l (l.length-1)).1
end
section
variable {G:List Int->Int} {l:List Sl} {k:Nat}
theorem C8(l:List Sl):(A1 l).length=l.length:=List.length_map _
theorem OY(hk:k<l.length-1):((A1 l).drop 1).getD k []=((l.drop 1).getD k Sl.z).2:=by
 have e:(A1 l).drop 1=A1 (l.drop 1):=by unfold A1;rw [List.map_drop]
 rw [e,EJ (by rw [List.length_drop];exact hk)]
theorem Mh(hk:k<l.length-1)(h:G ((l.drop 1).getD k Sl.z).2<(EF G (A1 l) k).2):EF G (A1 l) (k+1)=(((l.drop 1).getD k Sl.z).2,G ((l.drop 1).getD k Sl.z).2):=by
 rw [EF,OY hk,if_pos h]
theorem Mi(hk:k<l.length-1)(h:¬G ((l.drop 1).getD k Sl.z).2<(EF G (A1 l) k).2):EF G (A1 l) (k+1)=EF G (A1 l) k:=by
 rw [EF,OY hk,if_neg h]
theorem VY(hk:k=l.length-1):Db G (A1 l)=(EF G (A1 l) k).1:=by unfold Db;rw [C8,hk]
end
theorem QN:∀(n k:Nat),k<n->(Cq n).getD k 0=(k:Int)
 | 0,k,h=>absurd h (Nat.not_lt_zero _)
 | n+1,k,h=>by
  have hl:=DO n;rw [Cq,List.getD_eq_getElem?_getD];by_cases e:k<n
  ·rw [List.getElem?_append_left aA,<-List.getD_eq_getElem?_getD];exact QN n k e
  ·have e2:k=n:=aA
   subst e2;rw [List.getElem?_append_right aA,hl,Nat.sub_self];rfl
theorem QO{n:Nat}{x:Int}(h:x ∈ Cq n):0<=x/\x<n:=by
 obtain ⟨i,hi,e⟩:=List.mem_iff_getElem.1 h;have hl:=DO n
 have:=QN n i aA
 rw [List.getD_eq_getElem?_getD,List.getElem?_eq_getElem hi,Option.getD_some,e] at this;omega
theorem KM{jobs:List Int}:∀(f:Nat)(l:List Int),(∀x ∈ l,x ∈ jobs)->∀r ∈ BU jobs f l,(∀x ∈ r,x ∈ jobs)/\r.length<=l.length+f
 | 0,l,h,r,hr=>by
  rw [BU,List.mem_singleton] at hr;subst hr;exact ⟨h,Nat.le_refl _⟩
 | f+1,l,h,r,hr=>by
  rw [BU,List.mem_cons] at hr;rcases hr with rfl | hr
  ·exact ⟨h,aA⟩
  ·obtain ⟨k,hk,hr⟩:=List.mem_flatMap.1 hr;split at hr
   ·cases hr
   ·have:=KM f (l++[k]) (λx hx=>by
     rcases List.mem_append.1 hx with hx | hx
     ·exact h x hx
     ·rw [List.mem_singleton.1 hx];exact hk) r hr
    refine ⟨this.1,?_⟩;have e:=this.2;rw [List.length_append,List.length_singleton] at e;omega
theorem UN{jobs r:List Int}(h:r ∈ Da jobs):(∀x ∈ r,x ∈ jobs)/\r.length<=jobs.length:=by
 have:=KM jobs.length [] (λx hx=>by cases hx) r h
 simpa using this
def UO(nj:Nat)(l:List Int):Prop:=(∀k,k<l.length->0<=l.getD k 0/\l.getD k 0<nj)/\l.length<=4
theorem KN{n:Nat}{jobs r:List Int}(hj:∀x ∈ jobs,0<=x/\x<(n:Int))(hl:jobs.length<=4)(h:r ∈ Da jobs):UO n r:=by
 obtain ⟨h1,h2⟩:=UN h;exact ⟨λk hk=>hj _ (h1 _ (Bf hk)),aA⟩
theorem KO{jobs:List Int}(hj:jobs.length<=4):∀(f:Nat)(l:List Int),f<=4->(BU jobs f l).length<=5 ^ f*1
 | 0,l,_=>Nat.le_refl _
 | f+1,l,hf=>by
  have key:∀js:List Int,(js.flatMap λk=>if Iw l k=true then [] else BU jobs f (l++[k])).length<=js.length*5 ^ f:=by
   intro js
   induction js with
   | nil=>simp
   | cons j js ih=>
    rw [List.flatMap_cons,List.length_append,List.length_cons,Nat.add_mul,Nat.one_mul,Nat.add_comm];refine Nat.add_le_add ih ?_;split
    ·exact Nat.zero_le _
    ·have:=KO hj f (l++[j]) aA;omega
  rw [BU,List.length_cons];have h1:=key jobs;have h2:jobs.length*5 ^ f<=4*5 ^ f:=Nat.mul_le_mul_right _ hj;have h3:1<=5 ^ f:=Nat.one_le_pow _ _ aC;rw [Nat.pow_succ];omega
theorem Ht{jobs:List Int}(hj:jobs.length<=4):(Da jobs).length<=625:=by
 have h:=KO hj jobs.length [] hj;have h2:5 ^ jobs.length<=5 ^ 4:=Nat.pow_le_pow_right aC hj;unfold Da;omega
end Go.Ns
namespace Go.Ns
open Go.Conc
section
variable {P:Program} {M:Type} {F:NO P M} {i:Option (Cn M)} {O:Nat->Value} {ds:List Deferred} {h:GH} {Q:P6 M}
theorem trI_td{id:Nat}{l:List Oper}(n:Nat)(fl:Bool)(π:List Nat)(hm:P.follows .mixedOrders=true)
  (ok:Pm l (l.take n) 0 [] (λcls=>Pn P F.N l n cls fl (dK π))=true) (x:TD (F.env i) l n fl h ds (λ_ _ _=>True) (λσ' h'=>Gc F l.toArray (l.drop n) i σ' ds h' Q) (dK π) O h):Oz F (.region id l.toArray true) i O ds h Q:=by
 obtain ⟨cls,h1⟩:=IC ok;intro b k cs L t hb hr hl hs hq;exact ZX (E:=F.env i) n cls fl (dK π) hm (λ_ _ _ _ _ y=>y) trivial h1 x hb hr hs λσ' h' f t' ht'=>f n b k cs L t' (λj=>aD) hb hr hl ht' hq
def Ja(P:Program):Frame:={ (default:Frame) with fn:=P.funcs.size,defers:=[],mode:=.panicking [goexitEntry] }
theorem quit_bot:QuitsIn P 1 (G (Ja P) []):=.inr ⟨rfl,{ G (Ja P) [] with status:=.finished },λw=>by
 show unwind P false (Ja P) [] none w=_;have hcat:(Ja P).catches P=false:=by
  unfold Frame.catches
  have:P.funcs[(Ja P).fn]? =none:=Array.getElem?_eq_none (Nat.le_refl _)
  rw [this];rfl
 have hd:(Ja P).defers=[]:=rfl;have hmd:(Ja P).mode=.panicking [goexitEntry]:=rfl;unfold unwind;simp only [hd,hmd,hcat]
 rfl,rfl⟩
theorem VZ{fn:Func}{f:FuncId}{args:Array Value}{t:Array Value}{ops:Array Oper}(hf:P.funcs[f]? =some fn)(hres:fn.results=#[]):QuitsIn P 4 (G (Cg (Frame.enter P f args .deferred) t [] [.inRegion ops []]) [Ja P]):=by
 refine .inr ⟨rfl,G (Cg (Frame.enter P f args .deferred) t [] []) [Ja P],λw=>by rw [A7];simp [stepG.exec,Cg,G],?_⟩;refine .inr ⟨rfl,G (Ew (Frame.enter P f args .deferred) t [] []) [Ja P],λw=>by rw [A7];simp [stepG.exec,Cg,Ew,G,Frame.enter],?_⟩;refine .inr ⟨rfl,G (Ja P) [],λw=>?_,quit_bot⟩;show unwind P false (Ew (Frame.enter P f args .deferred) t [] []) [Ja P] none w=_;have hfn:(Ew (Frame.enter P f args .deferred) t [] []).fn=f:=rfl;have hk:(Ew (Frame.enter P f args .deferred) t [] []).kind=.deferred:=rfl;have hmd:(Ew (Frame.enter P f args .deferred) t [] []).mode=.returning:=rfl;have hd:(Ew (Frame.enter P f args .deferred) t [] []).defers=[]:=rfl;have r1:∀t,(results fn t).runT P w #[]=(.ok (.tuple #[]) w,#[]):=λt=>by
  unfold results;rw [hres];simp only [Array.mapM_empty];rfl
 unfold unwind;simp only [hd,hmd,hfn,hf,r1,GStep.after,doReturn,hk,seen_none];rfl
def Jb(F:NO P M)(R:Code)(args:Array Value)(i:Option (Cn M))(O:Nat->Value)(h:GH):Prop:=∀t,Ba t F.N O->(F.wk i).K (G (Cg (Frame.enter P F.fn args .deferred) t [] [.code R]) [Ja P]) h
theorem NW{fn:Func}{c R:Code}{s:Cn M}{ars cap args:Array Value}(hm:F.main=false)(hrd:F.rd=none)(ha:ars++cap=args)(hf:P.funcs[F.fn]? =some fn)(hc:AN fn=true)(hb:fn.body=some (.seq c R))(hN:F.N=fn.ntmps)(hsz:args.size<=fn.ntmps)(hs:¬s.isDone)
  (x:Oz F c (some s) (λi=>args.getD i undef) [] h λi e O ds h=>e=.normal/\ds=[]/\Jb F R args i O h):Fk P F.Rep F.W.K s false (born P { target:=.fn (.func F.fn) cap,args:=ars }) h:=by
 have hwk:∀s,(F.wk (some s)).K=EY P false (Im P F.Rep F.W.K s false):=λs=>by show EY P F.main (Im P F.Rep F.W.K s F.main)=_;rw [hm]
 rw [HF hs];refine MH _ _ _ _ rfl λw f=>⟨G (Frame.enter P F.fn args .deferred) [Ja P],w,#[],h,?_,Bp.refl f,?_⟩
 ·subst ha;have hi:(invoke (.fn (.func F.fn) cap) ars).runT P w #[]=(.ok (.enter F.fn (ars++cap)) w,#[]):=UC hf hc w;show callDeferred P (Ja P) [] none { target:=.fn (.func F.fn) cap,args:=ars } w=_;unfold callDeferred;rw [if_neg aD];simp only [hi,seen_none];rfl
 have e0:Frame.enter P F.fn args .deferred=Cg (Frame.enter P F.fn args .deferred) (args++Array.replicate (fn.ntmps-args.size) undef) [] [.code (.seq c R)]:=by simp [Frame.enter,Cg,hf,hb]
 rw [e0,<-hwk s];refine Wk.go (Cg (Frame.enter P F.fn args .deferred) (args++Array.replicate (fn.ntmps-args.size) undef) [] (.code c ::.code R ::[])) (λw=>by rw [A7];simp [stepG.exec,Cg,G]) ?_;refine x (Frame.enter P F.fn args .deferred) [.code R] [Ja P] (λ_ _ _ _ _=>False) _ rfl hrd.symm (λi=>⟨λ_ _ _ q=>q.elim,λ_ _ _ _ q=>q.elim,λ_ _ _ _ _ _ q=>q.elim⟩) ⟨by rw [hN];simp;omega,λi=>?_⟩ ?_
 ·by_cases hi:i<args.size
  ·simp [Array.getD_eq_getD_getElem?,Array.getElem?_append_left hi]
  ·simp only [Array.getD_eq_getD_getElem?];rw [Array.getElem?_append_right aA,Array.getElem?_eq_none (show args.size<=i by omega),Array.getElem?_replicate];split <;> rfl
 ·rintro i e O ds h' ⟨rfl,rfl,z⟩ t' ht';exact z t' ht'
theorem last_send{fn:Func}{id:Nat}{o1 o2:Oper}{args:Array Value}{c:Nat}{m:M}{v z:Value}{hm:GH}{h1:GH}(hmn:F.main=false)(hrd:F.rd=none)(hf:P.funcs[F.fn]? =some fn)(hres:fn.results=#[])
  (hg1:o1.guard=none) (hd1:C0 o1.dst F.N=true) (hg2:o2.guard=none) (hdf1:C4 o1.op=false) (hdf:C4 o2.op=false) (hd2:C0 o2.dst F.N=true)
  (x:BT (F.env (some (.send c m .done))) o1 O [] h λσ' ds' h'=>ds'=[]/\(∀w,(execOp (AR σ') o2).runT P w #[]=(.ok (.comm #[scase c v z] true .send) w,#[]))/\GH.Split h' h1 hm/\F.Rep c m v hm) :
  Jb F (.region id [o1,o2].toArray false) args (some (.send c m .done)) O h:=by
 intro t hs;refine Wk.go (Cg (Frame.enter P F.fn args .deferred) t [] (.inRegion [o1,o2].toArray [0,1] ::[])) (λw=>by rw [A7];simp [stepG.exec,Cg,G,List.range_eq_range',Array.range];rfl) ?_;refine Km (E:=F.env (some (.send c m .done))) (o:=o1) (rest:=[1]) rfl (by simp [Region.wanted,hg1]) (.inr hdf1) hd1 hs x ?_;rintro σ' ds' h' ⟨rfl,hr,hsp,hrep⟩ t' ht';refine EY.stop ⟨_,[Ja P],v,z,hm,h1,rfl,⟨λw fw=>?_,hsp,hrep,4,?_⟩⟩
 ·rw [hmn];exact UA ht' rfl (by simp [Region.wanted,hg2]) (.inr hdf) (hr w)
 ·rw [C5 (ops:=[o1,o2].toArray) (i:=1) (o:=o2) rfl];exact VZ hf hres
theorem run_close{dst:Option Nat}{x:Operand}{tys:Array TypeId}{ty:TypeId}{pos:String}{af:Array Edge}{gd:Option (Nat×Bool)}{ch s r:Nat}{w:World}(hx:AR O x=.chan (some ch))(hw:w.heap[ch]? =some (.chan 0 #[] false s r false)) :
  (execOp (AR O) ⟨dst,.call ⟨.builtin .close,#[x],tys⟩,ty,pos,af,gd⟩).runT P w #[]=(.ok (.value (.tuple #[])) { w with heap:=w.heap.setIfInBounds ch (.chan 0 #[] true s r false) },#[⟨.obj ch,false,true⟩,⟨.obj ch,true,true⟩]):=by
 have q:execOp (AR O) ⟨dst,.call ⟨.builtin .close,#[x],tys⟩,ty,pos,af,gd⟩=builtin .close tys ty (#[x].map fun | .const _=>true | _=>false) (#[x].map (AR O)):=by
  show (resolve (AR O) _ ty).bind _=_;unfold resolve;rfl
 have e:(#[x].map (AR O))=#[Value.chan (some ch)]:=by simp [hx]
 rw [q,e];show Sem.runT P (.getObj ch λo=>_) w #[]=_;unfold Sem.runT;rw [hw];show Sem.runT P (.setObj ch (.chan 0 #[] true s r false) _) w _=_;unfold Sem.runT;rw [hw];rfl
theorem QP{fn:Func}{id:Nat}{o1:Oper}{dst:Option Nat}{xo:Operand}{tys:Array TypeId}{ty:TypeId}{pos:String}{af:Array Edge}{args:Array Value}{c:Nat}(hmn:F.main=false)(hf:P.funcs[F.fn]? =some fn)(hres:fn.results=#[])
  (hg1:o1.guard=none) (hd1:C0 o1.dst F.N=true) (hdf1:C4 o1.op=false)
  (x:BT (F.env (some (.close c .done))) o1 O [] h λσ' ds' _=>ds'=[]/\AR σ' xo=.chan (some c)) :
  Jb F (.region id [o1,⟨dst,.call ⟨.builtin .close,#[xo],tys⟩,ty,pos,af,none⟩].toArray false) args (some (.close c .done)) O h:=by
 intro t hs;refine Wk.go (Cg (Frame.enter P F.fn args .deferred) t [] (.inRegion [o1,⟨dst,.call ⟨.builtin .close,#[xo],tys⟩,ty,pos,af,none⟩].toArray [0,1] ::[])) (λw=>by rw [A7];simp [stepG.exec,Cg,G,List.range_eq_range',Array.range];rfl) ?_;refine Km (E:=F.env (some (.close c .done))) (o:=o1) (rest:=[1]) rfl (by simp [Region.wanted,hg1]) (.inr hdf1) hd1 hs x ?_;rintro σ' ds' h' ⟨rfl,hx⟩ t' ht';refine EY.stop ⟨_,[Ja P],Cg (Frame.enter P F.fn args .deferred) (Wp t' dst (.tuple #[])) [] [.inRegion [o1,⟨dst,.call ⟨.builtin .close,#[xo],tys⟩,ty,pos,af,none⟩].toArray []],[Ja P],rfl,⟨λw s r fw hw=>?_,rfl,4,VZ hf hres⟩⟩;rw [hmn,P7 ht' (ops:=[o1,⟨dst,.call ⟨.builtin .close,#[xo],tys⟩,ty,pos,af,none⟩].toArray) (n:=1) (o:=⟨dst,.call ⟨.builtin .close,#[xo],tys⟩,ty,pos,af,none⟩) rfl (by simp [Region.wanted]) (.inr rfl)];simp only [stepG.apply,run_close hx hw,if_true];have hk:((Cg (Frame.enter P F.fn args .deferred) t' [] [.inRegion [o1,⟨dst,.call ⟨.builtin .close,#[xo],tys⟩,ty,pos,af,none⟩].toArray [1]]).kind==CallKind.early)=false:=rfl;rw [C5 (ops:=[o1,⟨dst,.call ⟨.builtin .close,#[xo],tys⟩,ty,pos,af,none⟩].toArray) (i:=1) rfl];simp only [hk,Bool.false_eq_true,if_false];show GStep.go _ _ (seen P _ _++ #[])=_;rw [XF];rfl
end
end Go.Ns
namespace Go.Ns
open Go.Conc
theorem Bj.at{h:GH}{t:TypeId}{l:List Sl}(a:Bj h t l){x:Sl}(hx:x ∈ l):Dg h t x.1 x.2:=by
 obtain ⟨i,hi,e⟩:=List.mem_iff_getElem.1 hx;have z:=a i;rw [List.getD_eq_getElem?_getD,List.getElem?_eq_getElem hi] at z;have z2:Dg h t l[i].1 l[i].2:=z;rw [<-e];exact z2
theorem Bj.of{h:GH}{t:TypeId}{l:List Sl}(a:∀x ∈ l,Dg h t x.1 x.2):Bj h t l:=λk=>by
 by_cases hk:k<l.length
 ·exact a _ (Bf hk)
 ·rw [BW aA];exact Dg.nil _ _
theorem Bj.grown{V:Type}{h h' h0:GH}{v v':Value}{t t':TypeId}{n:Nat}{enc:V->Array Value}{ys:List V}(g:GN h h' v v')(o:AQ h0 h v t' n enc ys)(ne:t'≠t){l:List Sl}(x:Bj h t l):Bj h' t l:=λk=>(x k).grown g o ne
theorem Bj.store{h h':GH}{t t':TypeId}{l:List Sl}{r:Nat}{p:Bool}{c:Array Value}{f:Nat×Nat}(x:Bj h t l)(hr:h r=some (p,.cells c t' f))(ne:t'≠t)(ho:∀b,b≠r->h' b=h b):Bj h' t l:=λk=>(x k).store hr ne ho
theorem Dg.storeL{h h':GH}{t:TypeId}{w:Value}{xs:List Int}{r:Nat}{p:Bool}{lo:Loop}(x:Dg h t w xs)(hr:h r=some (p,.loop lo))(ho:∀b,b≠r->h' b=h b):Dg h' t w xs:=
 x.same λb hb=>ho b λe=>by
  obtain ⟨p2,c2,f2,q⟩:=x.2 b hb;rw [e,hr] at q;cases q
def SV(hB:GH)(r:Nat)(T t t0:TypeId)(F:List Int->Bool)(pre:List (List Int))(Y:Nat->Prop)(h:GH):Prop:=
 ∃w l',h r=some (true,.cells #[w] T (0,0))/\AQ hB h w t 1 H4 l'/\BH w r/\hB r=none/\A1 l'=pre.filter F/\Bj h t0 l'/\∀b,Y b↔b=r\/CV w=some b\/∃x ∈ l',CV x.1=some b
section
variable {hB h h' ha hb:GH} {r:Nat} {T t t0:TypeId} {F:List Int->Bool} {pre:List (List Int)} {p:List Int} {w w' v:Value} {Y:Nat->Prop} {l':List Sl}
theorem QQ(hB:GH)(r:Nat)(T t t0:TypeId)(F:List Int->Bool):Gb hB (SV hB r T t t0 F):=by
 refine ⟨?_,?_⟩
 ·rintro pre Y h b ⟨w,l',h1,h2,h3,h0,h5,h6,h4⟩ hb;rcases (h4 b).1 hb with rfl | h7 | ⟨x,hx,h7⟩
  ·exact ⟨_,_,h1,rfl⟩
  ·obtain ⟨c,hc⟩:=h2.cellsAt b h7;exact ⟨_,_,hc,rfl⟩
  ·obtain ⟨q,c,f,hc⟩:=(h6.at hx).2 b h7;exact ⟨_,_,hc,rfl⟩
 ·rintro pre Y h h' ⟨w,l',h1,h2,h3,h0,h5,h6,h4⟩ same lB;refine ⟨w,l',by rw [same r ((h4 r).2 (.inl rfl))];exact h1,h2.keep λb o hb ho=>by rw [same b ((h4 b).2 (.inr (.inl hb)))];exact ho,h3,h0,h5,.of λx hx=>(h6.at hx).same λb hb=>same b ((h4 b).2 (.inr (.inr ⟨x,hx,hb⟩))),h4⟩
theorem OZ(x:h r=some (true,.cells #[.slice none 0 0] T (0,0)))(h0:hB r=none):SV hB r T t t0 F [] (λb=>b=r) h:=
 ⟨_,[],x,AQ.nil _ _ _ _ _,BH.nil,h0,rfl,Bj.nil _ _,λ_=>⟨.inl,λq=>q.elim id λe=>e.elim (λe=>by cases e) λ⟨_,e,_⟩=>by cases e⟩⟩
theorem SW(hY:∀b,Y b↔b=r\/CV w=some b\/∃x ∈ l',CV x.1=some b)(g:GN ha hb w w')(hn:∀q,ha q=none->h q=none)(x:h' r=some (true,.cells #[w'] T (0,0)))(o:AQ hB h' w' t 1 H4 (l'++[(v,p)]))(f:BH w' r)(h0:hB r=none)
  (hl:A1 l'=pre.filter F) (hp:F p=true) (ta:Bj h' t0 (l'++[(v,p)])):∃Y',(∀b,Y' b->(Y b\/CV v=some b)\/h b=none)/\SV hB r T t t0 F (pre++[p]) Y' h':=by
 refine ⟨λb=>b=r\/CV w'=some b\/∃x ∈ l'++[(v,p)],CV x.1=some b,?_,w',_,x,o,f,h0,?_,ta,λ_=>Iff.rfl⟩
 ·rintro b (rfl | hb | ⟨y,hy,hb⟩)
  ·exact .inl (.inl ((hY _).2 (.inl rfl)))
  ·rcases g.2 with e | ⟨⟨q,e1,e2⟩,_⟩
   ·exact .inl (.inl ((hY _).2 (.inr (.inl (by rw [<-e];exact hb)))))
   ·rw [e1] at hb;cases hb;exact .inr (hn _ e2)
  ·rcases List.mem_append.1 hy with hy | hy
   ·exact .inl (.inl ((hY _).2 (.inr (.inr ⟨y,hy,hb⟩))))
   ·rw [List.mem_singleton.1 hy] at hb;exact .inl (.inr hb)
 ·rw [Kv,hl,List.filter_append];simp [A1,hp]
theorem XY(hY:∀b,Y b↔b=r\/CV w=some b\/∃x ∈ l',CV x.1=some b)(x:h' r=some (true,.cells #[w] T (0,0)))(o:AQ hB h' w t 1 H4 l')(f:BH w r)(h0:hB r=none)(hl:A1 l'=pre.filter F)(hp:F p=false)(ta:Bj h' t0 l') :
  ∃Y',(∀b,Y' b->(Y b\/CV v=some b)\/h b=none)/\SV hB r T t t0 F (pre++[p]) Y' h':=
 ⟨Y,λ_ q=>.inl (.inl q),w,l',x,o,f,h0,by rw [hl,List.filter_append];simp [hp],ta,hY⟩
end
def tVal:Dy->Value
 | .job i=>.int .i64 i
 | .res i b=>.agg #[.int .i64 i,.bool b]
 | .tick=>.bool true
def tOK(n:Nat):Dy->Prop
 | .job i=>i<n
 | .res i _=>i<n
 | .tick=>True
def O2(n:Nat):Nat->Dy->Value->GH->Prop:=λ_ m v hm=>v=tVal m/\tOK n m/\hm=λ_=>none
theorem GH.split_none(h:GH):GH.Split h h (λ_=>none) where
 left:=λb p o hb=>⟨p,hb,id⟩
 right:=λb p o hb=>by cases hb
 one:=λ_ _ _ _ hb=>by cases hb
 two:=λ_ _ _ hb _=>by cases hb
section
variable {cj co cd n k:Nat} {ok:Nat->Bool}
theorem feed_some(h:k<n):some (Hg cj (n-k) k)=some (.send cj (.job k) (Hg cj (n-(k+1)) (k+1))):=by
 rw [show n-k=(n-(k+1))+1 by omega];rfl
theorem feed_end(h:n<=k):some (Hg cj (n-k) k)=some (.close cj .done):=by rw [show n-k=0 by omega];rfl
theorem Va:∀m k,¬(Hg cj m k).isDone
 | 0,_=>id
 | _+1,_=>id
theorem Vb:∀m,¬(Fq cj co cd ok m).isDone
 | 0=>id
 | _+1=>id
theorem workF_not{m:Nat}:∀o,¬(VL co cd ok (Fq cj co cd ok m) o).isDone
 | none=>id
 | some (.job _)=>id
 | some (.res _ _)=>id
 | some .tick=>id
theorem SX:∀t,¬(ES co cd t).isDone
 | 0=>id
 | _+1=>id
theorem XZ{t:Nat}:∀o,¬(NP (ES co cd t) o).isDone
 | none=>id
 | some (.job _)=>id
 | some (.res _ _)=>id
 | some .tick=>SX t
theorem Vc:∀m R,¬(Fs co ok m R).isDone
 | 0,_=>id
 | _+1,_=>id
theorem Zl{c:Prop}[Decidable c]{a b:Cn Dy}(ha:¬a.isDone)(hb:¬b.isDone):¬(if c then a else b).isDone:=by split <;> assumption
theorem mainF_not{m:Nat}{R:List Nat}:∀o,¬(Id ok R (Fs co ok m) o).isDone
 | none=>Zl id id
 | some (.job _)=>id
 | some .tick=>id
 | some (.res _ _)=>Zl (Vc _ _) id
theorem Vd:∀m,¬(IJ cj co cd n ok m).isDone
 | 0=>id
 | _+1=>id
theorem Xa(h:k<3):some (ES co cd (3-k))=some (.recv cd (NP (ES co cd (3-(k+1))))):=by
 rw [show 3-k=(3-(k+1))+1 by omega];rfl
theorem close_end(h:3<=k):some (ES co cd (3-k))=some (.close co .done):=by rw [show 3-k=0 by omega];rfl
theorem crew_some(h:k<3):some (IJ cj co cd n ok (3-k))=some (.spawn (Fq cj co cd ok (n+1)) (IJ cj co cd n ok (3-(k+1)))):=by
 rw [show 3-k=(3-(k+1))+1 by omega];rfl
theorem crew_end(h:3<=k):some (IJ cj co cd n ok (3-k))=some (.spawn (ES co cd 3) (Fs co ok (n+1) (List.range n))):=by rw [show 3-k=0 by omega];rfl
end
def UP(n:Nat)(ok:Nat->Bool)(R:List Nat):List Bool:=(List.range n).map λi=>if i ∈ R then false else ok i
theorem Zm(n:Nat)(ok:Nat->Bool)(R:List Nat):(UP n ok R).length=n:=by unfold UP;rw [List.length_map,List.length_range]
theorem isL_start(n:Nat)(ok:Nat->Bool):UP n ok (List.range n)=List.replicate n false:=by
 unfold UP;refine List.ext_getElem aD λi h1 h2=>?_
 have:i<n:=by simpa using h1
 simp [this]
theorem isL_put{n i:Nat}{ok:Nat->Bool}{R:List Nat}(hR:R.Nodup):(UP n ok R).set i (ok i)=UP n ok (R.erase i):=by
 unfold UP;refine List.ext_getElem aD λj h1 h2=>?_;rw [List.getElem_set];simp only [List.getElem_map,List.getElem_range,List.Nodup.mem_erase_iff hR];by_cases e:i=j
 ·subst e;simp
 ·rw [if_neg e]
  have:j≠i:=λq=>e q.symm
  simp [this]
theorem Zn{n:Nat}{ok:Nat->Bool}{k:Nat}(hk:k<n):(UP n ok []).getD k false=ok k:=by
 unfold UP;rw [List.getD_eq_getElem?_getD,List.getElem?_map,List.getElem?_range hk];simp
def Jc(fl:List Sl)(ok:Nat->Bool):Nat->List Sl
 | 0=>[]
 | k+1=>if ok k=true then Jc fl ok k++[fl.getD k Sl.z] else Jc fl ok k
theorem selS_t{fl:List Sl}{ok:Nat->Bool}{k:Nat}(h:ok k=true):Jc fl ok (k+1)=Jc fl ok k++[fl.getD k Sl.z]:=if_pos h
theorem selS_f{fl:List Sl}{ok:Nat->Bool}{k:Nat}(h:ok k=false):Jc fl ok (k+1)=Jc fl ok k:=if_neg (by rw [h];simp)
theorem Ve(fl:List Sl)(ok:Nat->Bool):∀k,(Jc fl ok k).length<=k
 | 0=>Nat.le_refl _
 | k+1=>by
  have:=Ve fl ok k
  unfold Jc;split
  ·rw [List.length_append,List.length_singleton];omega
  ·omega
theorem QR{fl:List Sl}{G:List Int->Bool}:∀k,k<=fl.length->A1 (Jc fl (λi=>G (fl.getD i Sl.z).2) k)=((A1 fl).take k).filter G
 | 0,_=>rfl
 | k+1,h=>by
  have ih:=QR (fl:=fl) (G:=G) k aA;have e:(A1 fl).take (k+1)=(A1 fl).take k++[(fl.getD k Sl.z).2]:=by rw [Cw [] (by rw [CE];omega),EJ (l:=fl) aA]
  unfold Jc;rw [e,List.filter_append];by_cases q:G (fl.getD k Sl.z).2=true
  ·rw [if_pos q,Kv,ih,List.filter_cons_of_pos q];rfl
  ·rw [if_neg q,ih,List.filter_cons_of_neg q,List.filter_nil,List.append_nil]
end Go.Ns
namespace Go.Ns
open Go.Conc
section
variable {P:Program} {M:Type} {F:NO P M} {i i':Option (Cn M)} {O:Nat->Value} {ds:List Deferred} {h:GH} {Q:P6 M}
theorem trI_ix{c:Code}(e:i=i')(x:Oz F c i' O ds h Q):Oz F c i O ds h Q:=e▸x
theorem Jd{ops:Array Oper}{l:List Oper}(e:i=i')(x:Gc F ops l i' O ds h Q):Gc F ops l i O ds h Q:=e▸x
theorem tr_of_trI{c:Code}{Q:Post}(x:Oz F c none O ds h λi e O ds h=>i=none/\Q e O ds h):Tr ⟨F.W,F.fn,F.rd,F.N⟩ c O ds h Q:=by
 intro b k cs L t hb hr hl hs hc;refine x b k cs (λi=>match i with | none=>L | some _=>λ_ _ _ _=>False) t hb hr (λi=>?_) hs λi e σ' ds' h' q t' ht'=>?_
 ·cases i with
  | none=>exact hl
  | some s=>exact ⟨λ_ _ _ x=>x.elim,λ_ _ _ _ x=>x.elim,λ_ _ _ _ _ _ x=>x.elim⟩
 ·obtain ⟨rfl,q⟩:=q;exact hc e σ' ds' h' q t' ht'
theorem trI_end{c:Code}{Q:Post}(x:Tr (F.env none) c O ds h Q):Oz F c none O ds h λi e O ds h=>i=none/\Q e O ds h:=
 I7 (Kk (λ_ _ _ _ q=>⟨rfl,q⟩) x)
variable {dst:Option Nat} {ty:TypeId} {pos:String} {af:Array Edge} {gd:Option (Nat×Bool)}
theorem QS{a x:Operand}{c:Nat}{v:Value}(ha:AR O a=.chan (some c))(hx:AR O x=v)(w:World):(execOp (AR O) ⟨dst,.send a x,ty,pos,af,gd⟩).runT P w #[]=(.ok (.comm #[scase c v (.tuple #[])] true .send) w,#[]):=by
 subst hx;show (Result.ok (Next.comm #[{ chan:=AR O a,send:=some (AR O x),zero:=.tuple #[] }] true .send) w,#[])=_;rw [ha];rfl
theorem run_recv{a:Operand}{c:Nat}{t e:TypeId}{d:ChanDir}{ok:Bool}{z:Value}{inf:TypeInfo}(ht:P.underlying t=some (.chan d e))(hi:P.info? e=some inf)(hz:inf.zero=some z)(ha:AR O a=.chan (some c))(w:World) :
  (execOp (AR O) ⟨dst,.recv t a ok,ty,pos,af,gd⟩).runT P w #[]=(.ok (.comm #[rcase c z] true (.recv ok)) w,#[]):=by
 have h1:(zeroValue e).run P w=.ok z w:=by
  unfold zeroValue typeInfo;simp only [Sem.run_bind,program,hi];simp [Sem.run,hi,hz]
 have h2:(underlying t).run P w=.ok (.chan d e) w:=run_underlying ht w;rw [Sem.runT_eq];unfold execOp;simp [h1,h2,ha,rcase]
theorem NX{a:Operand}{c:Nat}{t e:TypeId}{d:ChanDir}{ok:Bool}{z:Value}(ht:P.underlying t=some (.chan d e))(hz:(P.info? e).map (·.zero)=some (some z))(ha:AR O a=.chan (some c))(w:World) :
  (execOp (AR O) ⟨dst,.recv t a ok,ty,pos,af,gd⟩).runT P w #[]=(.ok (.comm #[rcase c z] true (.recv ok)) w,#[]):=by
 obtain ⟨inf,hi,h2⟩:=Option.map_eq_some_iff.1 hz;exact run_recv ht hi h2 ha w
theorem Xb{x:Operand}{f:Fn}{cap:Array Value}{tys:Array TypeId}(hx:AR O x=.func f #[] cap)(w:World):(execOp (AR O) ⟨dst,.go ⟨.value x,#[],tys⟩,ty,pos,af,gd⟩).runT P w #[]=(.ok (.spawn { target:=.fn f cap,args:=#[] }) w,#[]):=by
 have e:resolve (AR O) ⟨.value x,#[],tys⟩ ty=(pure { target:=.fn f cap,args:=#[] }:Sem Deferred):=by
  unfold resolve;simp only [hx,Deferred.ofValue];simp
 unfold execOp;simp only [e];rfl
variable {E:Gh P} {T:(Nat->Value)->List Deferred->GH->Prop}
theorem KP{t e:TypeId}{d:ChanDir}{n:Operand}(ht:P.underlying t=some (.chan d e))(hi0:(P.info? e).isSome=true)(hn:AR O n=.int .i64 0)
  (k:∀r h',h r=none->h.Le h'->h' r=some (true,.chan 0 #[] false 0 0 false)->(∀b,b≠r->h' b=h b)->T (putS O dst (.chan (some r))) ds h'):BT E ⟨dst,.makeChan t n,ty,pos,af,gd⟩ O ds h T:=by
 unfold BT execOp;refine GJ ?_;unfold Instr.makeChan;rw [hn];refine AF _ _ (Ay ?_);refine AF _ _ (Ao ht ?_);simp only [];obtain ⟨inf,hi⟩:=Option.isSome_iff_exists.1 hi0;refine AF _ _ (Ck hi ?_);rw [if_neg (by simp [IntKind.max];decide)];refine AF _ _ ?_;exact λr hr=>k r _ hr (GH.Le.new hr _ _) (GH.set_same _ _ _ _) λb hb=>GH.set_ne _ _ _ hb
end
section
variable {P:Program} {F:NO P Dy} {i i':Option (Cn Dy)} {O:Nat->Value} {ds:List Deferred} {h:GH} {Q:P6 Dy} {ops:Array Oper} {o:Oper} {l:List Oper} {n:Nat} {cj co cd c m k:Nat} {ok:Nat->Bool} {R:List Nat} {z:Value}
theorem Jb.ix{X:Code}{args:Array Value}(e:i=i')(x:Jb F X args i' O h):Jb F X args i O h:=e▸x
theorem Hu:Gc F ops l (some .never) O ds h Q:=λ_ _ _ _ _ _ _ _ _ _ _ _=>EY.stop rfl
theorem GH.join_none(h:GH):h.join (λ_=>none)=h:=by
 funext b;unfold GH.join;cases h b <;> rfl
theorem Vf{s:Dy}{nx:Cn Dy}(hR:F.Rep=O2 n)(hg:o.guard=none)(hdf:C4 o.op=false)(hd:C0 o.dst F.N=true)(hr:∀w,(execOp (AR O) o).runT P w #[]=(.ok (.comm #[scase c (tVal s) z] true .send) w,#[]))(hs:tOK n s)(hnx:¬nx.isDone)
  (x:Gc F ops l (some nx) (putS O o.dst undef) ds h Q):Gc F ops (o ::l) (some (.send c s nx)) O ds h Q:=
 trLI_send hg hdf hd hr (GH.split_none h) (by rw [hR];exact ⟨rfl,hs,rfl⟩) hnx x
theorem NY{f:Option Dy->Cn Dy}{r:Bool}(hR:F.Rep=O2 n)(hg:o.guard=none)(hdf:C4 o.op=false)(hd:C0 o.dst F.N=true)(hr:∀w,(execOp (AR O) o).runT P w #[]=(.ok (.comm #[rcase c z] true (.recv r)) w,#[]))(hnx:∀o,¬(f o).isDone)
  (x:∀s,tOK n s->Gc F ops l (some (f (some s))) (putS O o.dst (recvd r (tVal s) true)) ds h Q) (y:Gc F ops l (some (f none)) (putS O o.dst (recvd r z false)) ds h Q):Gc F ops (o ::l) (some (.recv c f)) O ds h Q:=
 trLI_recv hg hdf hd hr hnx (λs v hm hrep _=>by
  rw [hR] at hrep;obtain ⟨rfl,h2,rfl⟩:=hrep;rw [GH.join_none];exact x s h2) y
theorem Vg(hR:F.Rep=O2 n)(hg:o.guard=none)(hdf:C4 o.op=false)(hd:C0 o.dst F.N=true)(hr:∀w,(execOp (AR O) o).runT P w #[]=(.ok (.comm #[rcase cj z] true (.recv true)) w,#[]))
  (x:∀i,i<n->Gc F ops l (some (.send co (.res i (ok i)) (Fq cj co cd ok m))) (putS O o.dst (.tuple #[.int .i64 i,.bool true])) ds h Q) (y:Gc F ops l (some (.send cd .tick .done)) (putS O o.dst (.tuple #[z,.bool false])) ds h Q) :
  Gc F ops (o ::l) (some (Fq cj co cd ok (m+1))) O ds h Q:=
 NY (f:=VL co cd ok (Fq cj co cd ok m)) hR hg hdf hd hr workF_not (λs hs=>by
  cases s with
  | job i=>exact x i hs
  | res i b=>exact Hu
  | tick=>exact Hu) y
theorem Vh(hR:F.Rep=O2 n)(hg:o.guard=none)(hdf:C4 o.op=false)(hd:C0 o.dst F.N=true)(hr:∀w,(execOp (AR O) o).runT P w #[]=(.ok (.comm #[rcase cd z] true (.recv false)) w,#[]))(hk:k<3)
  (x:Gc F ops l (some (ES co cd (3-(k+1)))) (putS O o.dst (.bool true)) ds h Q):Gc F ops (o ::l) (some (ES co cd (3-k))) O ds h Q:=
 Jd (Xa hk) (NY (f:=NP (ES co cd (3-(k+1)))) hR hg hdf hd hr XZ (λs _=>by
  cases s with
  | job i=>exact Hu
  | res i b=>exact Hu
  | tick=>exact x) Hu)
theorem trLI_main(hR:F.Rep=O2 n)(hg:o.guard=none)(hdf:C4 o.op=false)(hd:C0 o.dst F.N=true)(hr:∀w,(execOp (AR O) o).runT P w #[]=(.ok (.comm #[rcase co z] true (.recv true)) w,#[]))
  (x:∀i,i<n->i ∈ R->Gc F ops l (some (Fs co ok m (R.erase i))) (putS O o.dst (.tuple #[.agg #[.int .i64 i,.bool (ok i)],.bool true])) ds h Q) (y:R=[]->Gc F ops l (some .stop) (putS O o.dst (.tuple #[z,.bool false])) ds h Q) :
  Gc F ops (o ::l) (some (Fs co ok (m+1) R)) O ds h Q:=
 NY (f:=Id ok R (Fs co ok m)) hR hg hdf hd hr mainF_not (λs hs=>by
  cases s with
  | job i=>exact Hu
  | tick=>exact Hu
  | res i b=>
   by_cases e:i ∈ R/\b=ok i
   ·obtain ⟨e1,rfl⟩:=e;exact Jd (show some (Id ok R (Fs co ok m) (some (.res i (ok i))))=some (Fs co ok m (R.erase i)) by unfold Id;simp [e1]) (x i hs e1)
   ·exact Jd (show some (Id ok R (Fs co ok m) (some (.res i b)))=some .never by show some (if i ∈ R/\b=ok i then _ else _)=_;rw [if_neg e]) Hu) (by
  by_cases e:R=[]
  ·exact Jd (show some (Id ok R (Fs co ok m) none)=some .stop by unfold Id;rw [if_pos e]) (y e)
  ·exact Jd (show some (Id ok R (Fs co ok m) none)=some .never by unfold Id;rw [if_neg e]) Hu)
end
theorem CY.flags{h h':GH}{js:List AM}(s:h.Same h')(x:CY h js):CY h' js:=λk=>(x k).flags s
theorem Ax.flags{h h':GH}{ns:List AJ}(s:h.Same h')(x:Ax h ns):Ax h' ns:=λk=>(x k).flags s
theorem Hf.flags{h h':GH}{l:List Sl}(s:h.Same h')(a:Hf h l):Hf h' l:=λk=>(a k).flags s
theorem ET.flags{h h':GH}{r np:Nat}{ws:List AB}{pq:List AD}(s:h.Same h')(x:ET h r np ws pq):ET h' r np ws pq:=by
 obtain ⟨pm,M,⟨es,clk,hb,hl⟩,hM⟩:=x;obtain ⟨p',hb'⟩:=s _ _ _ hb;exact ⟨p',M,⟨es,clk,hb',hl⟩,hM⟩
theorem tr_lays5{P:Program}{E:Gh P}{id:Nat}{a0 a1 a2 a3 a4:Oper}{rest:List Oper}{d0 d1 d2 d3:Nat}{O:Nat->Value}{ds:List Deferred}{h:GH}{Q:Post}(o0 o1 o2 o3:Obj)(o4:Nat->Obj)(v0 v1 v2 v3:Nat->Value)(hm:P.follows .mixedOrders=true)
  (ok:GK E.N (a0 ::a1 ::a2 ::a3 ::a4 ::rest) 5 [[],[],[],[],[0,2,3]]=true)
  (g0:a0.guard=none) (g1:a1.guard=none) (g2:a2.guard=none) (g3:a3.guard=none) (g4:a4.guard=none) (e0:a0.dst=some d0) (e1:a1.dst=some d1) (e2:a2.dst=some d2) (e3:a3.dst=some d3)
  (l0:∀σ' h',BT E a0 σ' ds h' λσ'' ds'' h''=>ds''=ds/\∃r,σ''=putS σ' a0.dst (v0 r)/\h' r=none/\h'.Le h''/\h'' r=some (true,o0)) (l1:∀σ' h',BT E a1 σ' ds h' λσ'' ds'' h''=>ds''=ds/\∃r,σ''=putS σ' a1.dst (v1 r)/\h' r=none/\h'.Le h''/\h'' r=some (true,o1))
  (l2:∀σ' h',BT E a2 σ' ds h' λσ'' ds'' h''=>ds''=ds/\∃r,σ''=putS σ' a2.dst (v2 r)/\h' r=none/\h'.Le h''/\h'' r=some (true,o2)) (l3:∀σ' h',BT E a3 σ' ds h' λσ'' ds'' h''=>ds''=ds/\∃r,σ''=putS σ' a3.dst (v3 r)/\h' r=none/\h'.Le h''/\h'' r=some (true,o3))
  (l4:∀r0 r2 σ' h',σ' d0=v0 r0->σ' d2=v2 r2->h' r2=some (true,o2)->BT E a4 σ' ds h' λσ'' ds'' h''=>ds''=ds/\σ''=σ'/\h'' r2=some (true,o4 r0)/\∀b,b≠r2->h'' b=h' b)
  (fin:∀(r0 r1 r2 r3:Nat) σ' h',h.Le h'->(h r0=none/\h' r0=some (true,o0)/\σ' d0=v0 r0)->(h r1=none/\h' r1=some (true,o1)/\σ' d1=v1 r1)->(h r2=none/\h' r2=some (true,o4 r0)/\σ' d2=v2 r2)->(h r3=none/\h' r3=some (true,o3)/\σ' d3=v3 r3)->
   (r0≠r1/\r0≠r2/\r0≠r3/\r1≠r2/\r1≠r3/\r2≠r3)->(∀t,(Dj (a0 ::a1 ::a2 ::a3 ::a4 ::rest) 5).contains t=false->σ' t=O t)->DS E (a0 ::a1 ::a2 ::a3 ::a4 ::rest).toArray rest σ' ds h' Q):Tr E (.region id (a0 ::a1 ::a2 ::a3 ::a4 ::rest).toArray true) O ds h Q:=by
 let l:=a0 ::a1 ::a2 ::a3 ::a4 ::rest;let obj:Nat->Obj:=λi=>match i with | 0=>o0 | 1=>o1 | 2=>o2 | _=>o3
 let val:Nat->Nat->Value:=λi=>match i with | 0=>v0 | 1=>v1 | 2=>v2 | _=>v3
 have lay:∀i o,i<4->l[i]? =some o->∀σ' h',BT E o σ' ds h' λσ'' ds'' h''=>ds''=ds/\∃r,σ''=putS σ' o.dst (val i r)/\h' r=none/\h'.Le h''/\h'' r=some (true,obj i):=by
  intro i o hi ho σ' h';rcases i with _ | _ | _ | _ | i
  ·cases ho;exact l0 σ' h'
  ·cases ho;exact l1 σ' h'
  ·cases ho;exact l2 σ' h'
  ·cases ho;exact l3 σ' h'
  ·omega
 have nd:(Dj l 5).Nodup:=by
  have:=ok
  unfold GK at this;simp only [Bool.and_eq_true] at this;exact of_decide_eq_true this.1.2
 refine U2 5 [[],[],[],[],[0,2,3]] (λD σ' h'=>h.Le h'/\(D 4=true->D 0=true/\D 2=true)/\∃rs:Nat->Nat,(∀i,i<4->D i=true->h (rs i)=none/\h' (rs i)=some (true,if i=2/\D 4=true then o4 (rs 0) else obj i)/\∀o d,l[i]? =some o->o.dst=some d->σ' d=val i (rs i))/\
  (∀i j,i<4->j<4->D i=true->D j=true->i≠j->rs i≠rs j)/\∀t,(Dj l 5).contains t=false->σ' t=O t) hm ok ⟨GH.Le.refl _,(λe=>by cases e),λ_=>0,(λ_ _ q=>by cases q),(λ_ _ _ _ q=>by cases q),λ_ _=>rfl⟩ ?_ ?_
 ·rintro D σ' h' i o ⟨l1',hD4,rs,h1,h2,h3⟩ hi hD ho hcl _;have hgd:o.guard=none:=by
   rcases i with _ | _ | _ | _ | _ | i
   ·cases ho;exact g0
   ·cases ho;exact g1
   ·cases ho;exact g2
   ·cases ho;exact g3
   ·cases ho;exact g4
   ·omega
  refine ⟨λ_=>?_,λq=>absurd (by unfold DV;rw [hgd];trivial) q⟩;by_cases hi4:i=4
  ·subst hi4;have c0:D 0=true:=hcl 0 aD;have c2:D 2=true:=hcl 2 aD;cases ho;obtain ⟨q1,q2,q3⟩:=h1 0 aC c0;obtain ⟨p1,p2,p3⟩:=h1 2 aC c2;rw [if_neg (λe=>by rw [hD] at e;cases e.2)] at p2;refine (l4 (rs 0) (rs 2) σ' h' (q3 a0 d0 rfl e0) (p3 a2 d2 rfl e2) p2).mono λσ'' ds'' h'' q=>?_;obtain ⟨rfl,rfl,k1,k2⟩:=q;refine ⟨rfl,λb p x hb=>?_,λ_=>⟨by rw [Bm aC];exact c0,by rw [Bm aC];exact c2⟩,rs,λj hj hDj=>?_,λa b ha hb hDa hDb hab=>?_,h3⟩
   ·rw [k2 b λe=>by subst e;rw [p1] at hb;cases hb];exact l1' b p x hb
   ·rw [Bm aA] at hDj;obtain ⟨u1,u2,u3⟩:=h1 j hj hDj;refine ⟨u1,?_,u3⟩;by_cases ej:j=2
    ·subst ej;rw [if_pos ⟨rfl,if_pos rfl⟩];exact k1
    ·rw [if_neg (λe=>ej e.1),k2 _ (h2 j 2 hj aC hDj c2 ej)];rw [if_neg (λe=>ej e.1)] at u2;exact u2
   ·rw [Bm aA] at hDa hDb;exact h2 a b ha hb hDa hDb hab
  ·have hi':i<4:=aA
   refine (lay i o hi' ho σ' h').mono λσ'' ds'' h'' q=>?_;obtain ⟨rfl,r,rfl,hr,l2',hr2⟩:=q;have h4e:HY D i 4=D 4:=Bm (λe=>hi4 e.symm);have hne:∀j,j<4->D j=true->rs j≠r:=λj hj hDj e=>by
    have:=(h1 j hj hDj).2.1
    rw [e,hr] at this;cases this
   refine ⟨rfl,l1'.trans l2',λe=>?_,λj=>if j=i then r else rs j,λj hj hDj=>?_,λa b ha hb hDa hDb hab=>?_,λt ht=>?_⟩
   ·rw [h4e] at e;obtain ⟨c0,c2⟩:=hD4 e;exact ⟨by rw [Bm (λq=>by subst q;rw [hD] at c0;cases c0)];exact c0,by rw [Bm (λq=>by subst q;rw [hD] at c2;cases c2)];exact c2⟩
   ·by_cases e:j=i
    ·subst e;dsimp only;rw [if_pos rfl];refine ⟨l1'.nothing hr,?_,λo' d ho' hd=>?_⟩
     ·rw [if_neg (λe=>by have e2:=e.2;rw [h4e] at e2;have e3:=(hD4 e2).2;rw [<-e.1,hD] at e3;cases e3)];exact hr2
     ·obtain rfl:o'=o:=Option.some.inj (ho'.symm.trans ho);rw [hd];exact upd_same _ _ _
    ·dsimp only;rw [if_neg e];rw [Bm e] at hDj;obtain ⟨q1,q2,q3⟩:=h1 j hj hDj;refine ⟨q1,?_,λo' d ho' hd=>by rw [Cu λd' hd'=>EI nd hi (aA:j<5) (λq=>e q.symm) ho ho' hd' hd];exact q3 o' d ho' hd⟩;rw [h4e];by_cases hc:j=2/\D 4=true
     ·rw [if_pos hc] at q2 ⊢;rw [if_neg (λq=>by have c0:=(hD4 hc.2).1;rw [q,hD] at c0;cases c0)];exact l2'.keep q2 rfl
     ·rw [if_neg hc] at q2 ⊢;exact l2'.keep q2 rfl
   ·show (if a=i then r else rs a)≠(if b=i then r else rs b);by_cases ea:a=i
    ·by_cases eb:b=i
     ·exact absurd (ea.trans eb.symm) hab
     ·rw [if_pos ea,if_neg eb];rw [Bm eb] at hDb;exact (hne b hb hDb).symm
    ·rw [Bm ea] at hDa;by_cases eb:b=i
     ·rw [if_neg ea,if_pos eb];exact hne a ha hDa
     ·rw [if_neg ea,if_neg eb];rw [Bm eb] at hDb;exact h2 a b ha hb hDa hDb hab
   ·rw [Cu (Hm hi ho ht)];exact h3 t ht
 ·rintro D σ' h' ⟨l1',hD4,rs,h1,h2,h3⟩ hall;have A:∀i,i<5->D i=true:=hall;have f0:=h1 0 aC (A 0 aC);have f1:=h1 1 aC (A 1 aC);have f2:=h1 2 aC (A 2 aC);have f3:=h1 3 aC (A 3 aC);rw [if_neg (λe=>by have:=e.1;omega)] at f0;rw [if_neg (λe=>by have:=e.1;omega)] at f1;rw [if_pos ⟨rfl,A 4 aC⟩] at f2;rw [if_neg (λe=>by have:=e.1;omega)] at f3;have ne:=λi j (hi:i<4) (hj:j<4)=>h2 i j hi hj (A i aA) (A j aA);exact fin (rs 0) (rs 1) (rs 2) (rs 3) σ' h' l1' ⟨f0.1,f0.2.1,f0.2.2 a0 d0 rfl e0⟩ ⟨f1.1,f1.2.1,f1.2.2 a1 d1 rfl e1⟩ ⟨f2.1,f2.2.1,f2.2.2 a2 d2 rfl e2⟩ ⟨f3.1,f3.2.1,f3.2.2 a3 d3 rfl e3⟩
   ⟨ne 0 1 aC aC aC,ne 0 2 aC aC aC,ne 0 3 aC aC aC,ne 1 2 aC aC aC,ne 1 3 aC aC aC,ne 2 3 aC aC aC⟩ h3
section
variable {h h' h0:GH} {r:Nat}
theorem GH.cut_ne{b:Nat}(e:b≠r):h.cut r b=h b:=if_neg e
theorem GH.Le.cut(l:h0.Le h)(n:h0 r=none):h0.Le (h.cut r):=λb p o hb=>by
 rw [GH.cut_ne λe=>by subst e;rw [n] at hb;cases hb];exact l b p o hb
theorem AQ.cut{V:Type}{v:Value}{t:TypeId}{n:Nat}{enc:V->Array Value}{xs:List V}(x:AQ h0 h v t n enc xs)(f:BH v r):AQ h0 (h.cut r) v t n enc xs:=
 x.keep λb o hb ho=>by rw [GH.cut_ne λe=>by subst e;exact f hb];exact ho
theorem AQ.del'{V:Type}{v:Value}{t:TypeId}{n:Nat}{enc:V->Array Value}{xs:List V}(x:AQ h0 h v t n enc xs)(f:BH v r):AQ h0 (h.del r) v t n enc xs:=
 x.keep λb o hb ho=>by rw [GH.del_ne λe=>by subst e;exact f hb];exact ho
theorem Dg.keep3{X:Nat->Prop}{t0 T t:TypeId}{n l:Nat}{w v:Value}{p q:Bool}{c:Array Value}{f:Nat×Nat}{lo:Loop}{ys:List Sl}{hB:GH}{ys':List Int}(x:Dg h t0 v ys')(k:Bc X h h')(hX:∀b,X b->(b=r\/CV w=some b)\/b=l)(hr:h r=some (p,.cells c T f))(ow:AQ hB h w t n H4 ys)(hl:h l=some (q,.loop lo))(n1:T≠t0)(n2:t≠t0):Dg h' t0 v ys':=
 x.keepX k λb hb q2=>by
  obtain ⟨p2,c2,f2,e⟩:=x.2 b hb;rcases hX b q2 with (rfl | q3) | rfl
  ·rw [hr] at e;cases e;exact n1 rfl
  ·rcases ow with ⟨rfl,_⟩ | ⟨b1,cap,c1,rfl,_,h2,_⟩
   ·cases q3
   ·simp only [CV,Option.some.injEq] at q3;subst q3;rw [h2] at e;cases e;exact n2 rfl
  ·rw [hl] at e;cases e
theorem Bc.mono{X Y:Nat->Prop}(k:Bc X h h')(s:∀b,X b->Y b):Bc Y h h':=λb p o hb hn=>k b p o hb λx=>hn (s b x)
end
theorem rounds_ok{n:Nat}{fl:List Sl}(h:A1 fl=Da (Cq n))(hn:n<=4)(i:Nat):UO n (fl.getD i Sl.z).2:=by
 by_cases hi:i<fl.length
 ·refine KN (λx hx=>QO hx) (by rw [DO];exact hn) (r:=(fl.getD i Sl.z).2) ?_;rw [<-h,<-EJ hi];exact Bf (by rw [CE];exact hi)
 ·rw [BW aA];exact ⟨λk hk=>absurd hk (Nat.not_lt_zero _),Nat.zero_le _⟩
theorem Dg.storeD{h h':GH}{t:TypeId}{v:Value}{xs:List Int}{r:Nat}{p:Bool}{q:Option (List Deferred)}(x:Dg h t v xs)(hr:h r=some (p,.deferred q))(ho:∀b,b≠r->h' b=h b):Dg h' t v xs:=
 x.same λb hb=>ho b λe=>by
  obtain ⟨p2,c2,f2,z⟩:=x.2 b hb;rw [e,hr] at z;cases z
theorem Bj.storeD{h h':GH}{t:TypeId}{l:List Sl}{r:Nat}{p:Bool}{q:Option (List Deferred)}(x:Bj h t l)(hr:h r=some (p,.deferred q))(ho:∀b,b≠r->h' b=h b):Bj h' t l:=λk=>
 (x k).same λb hb=>ho b λe=>by
  obtain ⟨p2,c2,f2,z⟩:=(x k).2 b hb;rw [e,hr] at z;cases z
theorem selS_all{fl:List Sl}{G:List Int->Bool}{all:List (List Int)}{k:Nat}(h:A1 fl=all)(h1:k<=fl.length)(h2:fl.length<=k):A1 (Jc fl (λi=>G (fl.getD i Sl.z).2) k)=all.filter G:=by
 rw [QR k h1,List.take_of_length_le (by rw [CE];exact h2),h]
theorem Bj.sel{h:GH}{t:TypeId}{fl:List Sl}{ok:Nat->Bool}{k:Nat}(a:Bj h t fl):Bj h t (Jc fl ok k):=by
 induction k with
 | zero=>exact Bj.nil h t
 | succ k ih=>
  unfold Jc;split
  ·exact Bj.app ih (Bj.one (a k))
  ·exact ih
end Go.Ns
namespace Go.Ns
theorem UQ{P:Program}{O:Nat->Value}{h:GH}{fn:Func}{R:Value->GH->Prop}{a u s:Tmp}{t:TypeId}{b off:Nat}{v v' v2:Value}(hr:fn.results=#[.tmp u,.cell a t,.tmp s])(hv:O u=v)(ha:O a=.pointer (some ⟨b,off,none⟩))(hv':Rd P h t b off v')(hv2:O s=v2)(x:R (.tuple #[v,v',v2]) h):Gi P fn O R [] h:=by
 unfold Gi;rw [hr];subst hv;subst hv2;exact ⟨b,off,v',ha,hv',x⟩
section
variable (np:Nat) (ws:List AB) (js:List AM) (pq:List AD) (bag kinds:Int)
def IO:List (List Int):=(Da (Cq js.length)).filter (λq=>CH np ws js pq q bag kinds)
end
def PH(g:List (List Int))(x:List Int):List (List Int):=if 0<g.length/\(g.getD 0 []).length<x.length then [] else g
def PI(g:List (List Int))(x:List Int):List (List Int):=if g.length=0\/x.length=(g.getD 0 []).length then g++[x] else g
def Vi(g:List (List Int))(x:List Int):List (List Int):=PI (PH g x) x
def UR(l:List (List Int)):Nat->List (List Int)
 | 0=>[]
 | k+1=>Vi (UR l k) (l.getD k [])
def HM(g:List Sl)(x:Sl):List Sl:=if 0<g.length/\(g.getD 0 Sl.z).2.length<x.2.length then [] else g
def IP(g:List Sl)(x:Sl):List Sl:=if g.length=0\/x.2.length=(g.getD 0 Sl.z).2.length then g++[x] else g
def DB(g:List Sl)(x:Sl):List Sl:=IP (HM g x) x
def BG(l:List Sl):Nat->List Sl
 | 0=>[]
 | k+1=>DB (BG l k) (l.getD k Sl.z)
section
variable {l g:List Sl} {x:Sl} {k:Nat}
theorem QT(h0:0<g.length)(h1:(g.getD 0 Sl.z).2.length<x.2.length):DB g x=[x]:=by
 unfold DB HM;rw [if_pos ⟨h0,h1⟩];rfl
theorem QU(h0:0<g.length)(h1:x.2.length=(g.getD 0 Sl.z).2.length):DB g x=g++[x]:=by
 unfold DB HM;rw [if_neg (λe=>by have:=e.2;omega)];unfold IP;rw [if_pos (.inr h1)]
theorem QV(h0:0<g.length)(h1:x.2.length<(g.getD 0 Sl.z).2.length):DB g x=g:=by
 unfold DB HM;rw [if_neg (λe=>by have:=e.2;omega)];unfold IP;rw [if_neg];rintro (e | e) <;> omega
theorem QW(h0:g.length=0):DB g x=g++[x]:=by
 unfold DB HM;rw [if_neg (λe=>by have:=e.1;omega)];unfold IP;rw [if_pos (.inl h0)]
theorem goodS_a(h0:0<(BG l k).length)(h1:((BG l k).getD 0 Sl.z).2.length<(l.getD k Sl.z).2.length):BG l (k+1)=[l.getD k Sl.z]:=QT h0 h1
theorem goodS_b(h0:0<(BG l k).length)(h1:(l.getD k Sl.z).2.length=((BG l k).getD 0 Sl.z).2.length):BG l (k+1)=BG l k++[l.getD k Sl.z]:=QU h0 h1
theorem goodS_c(h0:0<(BG l k).length)(h1:¬((BG l k).getD 0 Sl.z).2.length<(l.getD k Sl.z).2.length)(h2:¬(l.getD k Sl.z).2.length=((BG l k).getD 0 Sl.z).2.length):BG l (k+1)=BG l k:=QV h0 aA
theorem goodS_d(h0:(BG l k).length=0):BG l (k+1)=BG l k++[l.getD k Sl.z]:=QW h0
theorem goodS_t(h1:¬(0<(BG l k).length/\((BG l k).getD 0 Sl.z).2.length<(l.getD k Sl.z).2.length))(h2:(BG l k).length=0\/(l.getD k Sl.z).2.length=((BG l k).getD 0 Sl.z).2.length):BG l (k+1)=BG l k++[l.getD k Sl.z]:=by
 by_cases h0:(BG l k).length=0
 ·exact goodS_d h0
 ·exact goodS_b aA aA
theorem goodS_f(h1:¬(0<(BG l k).length/\((BG l k).getD 0 Sl.z).2.length<(l.getD k Sl.z).2.length))(h2:¬((BG l k).length=0\/(l.getD k Sl.z).2.length=((BG l k).getD 0 Sl.z).2.length)):BG l (k+1)=BG l k:=goodS_c aA aA aA
theorem IQ(g:List Sl)(x:Sl):DB g x=[x]\/DB g x=g++[x]\/(DB g x=g/\0<g.length):=by
 by_cases h0:g.length=0
 ·exact .inr (.inl (QW h0))
 ·by_cases h1:(g.getD 0 Sl.z).2.length<x.2.length
  ·exact .inl (QT aA h1)
  ·by_cases h2:x.2.length=(g.getD 0 Sl.z).2.length
   ·exact .inr (.inl (QU aA h2))
   ·exact .inr (.inr ⟨QV aA aA,aA⟩)
theorem goodS_pos:∀k,0<k->0<(BG l k).length
 | k+1,_=>by
  show 0<(DB (BG l k) (l.getD k Sl.z)).length;rcases IQ (BG l k) (l.getD k Sl.z) with e | e | ⟨e,h⟩ <;> rw [e]
  ·exact Nat.zero_lt_one
  ·rw [List.length_append];exact Nat.succ_pos _
  ·exact h
theorem SY:∀k,(BG l k).length<=k
 | 0=>Nat.le_refl _
 | k+1=>by
  have ih:=SY k;show (DB (BG l k) (l.getD k Sl.z)).length<=_;rcases IQ (BG l k) (l.getD k Sl.z) with e | e | ⟨e,_⟩ <;> rw [e]
  ·simp
  ·rw [List.length_append,List.length_singleton];omega
  ·omega
theorem NZ:∀k,k<=l.length->∀y ∈ BG l k,y ∈ l
 | 0,_,y,hy=>by cases hy
 | k+1,hk,y,hy=>by
  have ih:=NZ k aA;have hx:l.getD k Sl.z ∈ l:=Bf aA;change y ∈ DB (BG l k) (l.getD k Sl.z) at hy;rcases IQ (BG l k) (l.getD k Sl.z) with e | e | ⟨e,_⟩ <;> rw [e] at hy
  ·rw [List.mem_singleton.1 hy];exact hx
  ·rcases List.mem_append.1 hy with hy | hy
   ·exact ih y hy
   ·rw [List.mem_singleton.1 hy];exact hx
  ·exact ih y hy
theorem Oa:∀k,k<=l.length->A1 (BG l k)=UR (A1 l) k
 | 0,_=>rfl
 | k+1,hk=>by
  have ih:=Oa k aA;have hg:∀g:List Sl,(g.getD 0 Sl.z).2=(A1 g).getD 0 []:=λg=>by cases g <;> rfl
  show A1 (DB (BG l k) (l.getD k Sl.z))=Vi (UR (A1 l) k) ((A1 l).getD k []);rw [<-ih,EJ aA];have hc:A1 (HM (BG l k) (l.getD k Sl.z))=PH (A1 (BG l k)) (l.getD k Sl.z).2:=by
   unfold HM PH;rw [hg,CE];split <;> rfl
  have ha:∀g:List Sl,A1 (IP g (l.getD k Sl.z))=PI (A1 g) (l.getD k Sl.z).2:=λg=>by
   unfold IP PI;rw [hg,CE];split
   ·rw [Kv];rfl
   ·rfl
  show A1 (IP (HM (BG l k) (l.getD k Sl.z)) (l.getD k Sl.z))=PI (PH (A1 (BG l k)) _) _;rw [ha,hc]
end
theorem Bj.good{h:GH}{t:TypeId}{l:List Sl}{k:Nat}(a:Bj h t l)(hk:k<=l.length):Bj h t (BG l k):=.of λx hx=>a.at (NZ k hk x hx)
section
variable {np:Nat} {ws:List AB} {js:List AM} {pq:List AD} {bag kinds:Int} {fs:List Sl}
theorem Zo(h:A1 fs=IO np ws js pq bag kinds)(hn:js.length<=4):∀x ∈ fs,UO js.length x.2:=λx hx=>by
 have:x.2 ∈ A1 fs:=List.mem_map_of_mem hx
 rw [h] at this;exact KN (λy hy=>QO hy) (by rw [DO];exact hn) (List.mem_filter.1 this).1
theorem Vj(h:A1 fs=IO np ws js pq bag kinds)(hn:js.length<=4)(i:Nat):UO js.length (fs.getD i Sl.z).2:=by
 by_cases hi:i<fs.length
 ·exact Zo h hn _ (Bf hi)
 ·rw [BW aA];exact ⟨λk hk=>absurd hk (Nat.not_lt_zero _),Nat.zero_le _⟩
theorem safe_nil(hb:0<=bag):CH np ws js pq [] bag kinds=true:=by
 unfold CH;have e:(DN kinds js []).sum=0:=by
  show (List.replicate kinds.toNat (0:Int)).sum=0;generalize kinds.toNat=n
  induction n with
  | zero=>rfl
  | succ n ih=>rw [List.replicate_succ,List.sum_cons,ih];rfl
 rw [e,decide_eq_true hb];rfl
theorem Xc(hb:0<=bag):0<(IO np ws js pq bag kinds).length:=by
 refine List.length_pos_of_mem (a:=[]) (List.mem_filter.2 ⟨?_,safe_nil hb⟩);unfold Da;rw [HE];exact List.mem_cons_self
theorem QX(hn:js.length<=4):(IO np ws js pq bag kinds).length<=625:=
 Nat.le_trans (List.length_filter_le _ _) (Ht (by rw [DO];exact hn))
theorem SZ{G:List Int->Int}:∀(l:List (List Int)),0<l.length->∀k,k<=l.length-1->(EF G l k).1 ∈ l
 | l,h,0,_=>Bf h
 | l,h,k+1,hk=>by
  unfold EF;split
  ·exact List.mem_of_mem_drop (Bf (by rw [List.length_drop];omega))
  ·exact SZ l h k aA
theorem Mj{n:Nat}{G:List Int->Int}{l:List Sl}(h:∀x ∈ l,UO n x.2)(hl:0<l.length):UO n (Db G (A1 l)):=by
 have:=SZ (G:=G) (A1 l) (by rw [CE];exact hl) ((A1 l).length-1) (Nat.le_refl _)
 obtain ⟨x,hx,e⟩:=List.mem_map.1 this;unfold Db;rw [<-e];exact h x hx
end
section
variable (bag kinds:Int) (ps:List ByteArray) (ws:List AB) (js:List AM) (ns:List AJ)
def Xd:List Int:=Db (λl=>Bw (λx=>AZ ps.length ws js x l) (AE ws js ns)) (UR (IO ps.length ws js (AE ws js ns) bag kinds) (IO ps.length ws js (AE ws js ns) bag kinds).length)
def LQ:List Int:=if¬Ac bag kinds ps ws js ns 0=0 then [] else Xd bag kinds ps ws js ns
end
section
variable {bag kinds:Int} {ps:List ByteArray} {ws:List AB} {js:List AM} {ns:List AJ} {fs:List Sl} {k:Nat}
theorem best_end(h:A1 fs=IO ps.length ws js (AE ws js ns) bag kinds)(h1:k<=fs.length)(h2:fs.length<=k):Xd bag kinds ps ws js ns=Db (λl=>Bw (λx=>AZ ps.length ws js x l) (AE ws js ns)) (A1 (BG fs k)):=by
 unfold Xd;rw [Oa k h1,h,<-h,CE,show fs.length=k by omega]
theorem Vk(h0:¬¬Ac bag kinds ps ws js ns 0=0)(h:A1 fs=IO ps.length ws js (AE ws js ns) bag kinds)(h1:k<=fs.length)(h2:fs.length<=k):LQ bag kinds ps ws js ns=Db (λl=>Bw (λx=>AZ ps.length ws js x l) (AE ws js ns)) (A1 (BG fs k)):=(if_neg h0).trans (best_end h h1 h2)
end
def US(c:Gr)(l:List Int):Nat->Gr
 | 0=>c
 | i+1=>(US c l i).set (l.getD i 0).toNat true
def Gz(ls:List (List Int)):Nat->Gr
 | 0=>Gr.none
 | k+1=>US (Gz ls k) (ls.getD k []) (ls.getD k []).length
def FF(c:Gr):Nat->List Int
 | 0=>[]
 | q+1=>if c q=true then FF c q else FF c q++[(q:Int)]
theorem neverL_t{c:Gr}{q:Nat}(h:c q=true):FF c (q+1)=FF c q:=if_pos h
theorem neverL_f{c:Gr}{q:Nat}(h:c q=false):FF c (q+1)=FF c q++[(q:Int)]:=if_neg (by rw [h];simp)
theorem QY(c:Gr):∀q,(FF c q).length<=q
 | 0=>Nat.le_refl _
 | q+1=>by
  have:=QY c q
  unfold FF;split
  ·omega
  ·rw [List.length_append,List.length_singleton];omega
section
variable (bag kinds:Int) (ps:List ByteArray) (ws:List AB) (js:List AM) (ns:List AJ)
def Na:List Int:=if¬Ac bag kinds ps ws js ns 0=0 then [] else FF (Gz (IO ps.length ws js (AE ws js ns) bag kinds) (IO ps.length ws js (AE ws js ns) bag kinds).length) js.length
end
section
variable {bag kinds:Int} {ps:List ByteArray} {ws:List AB} {js:List AM} {ns:List AJ} {fs:List Sl} {k q:Nat}
theorem inTo_next{i:Nat}(hk:k<fs.length)(h1:i<=(fs.getD k Sl.z).2.length)(h2:(fs.getD k Sl.z).2.length<=i):Gz (A1 fs) (k+1)=US (Gz (A1 fs) k) (fs.getD k Sl.z).2 i:=by
 unfold Gz;rw [EJ hk,show (fs.getD k Sl.z).2.length=i by omega];cases k <;> rfl
theorem neverR_ok(h0:¬¬Ac bag kinds ps ws js ns 0=0)(h:A1 fs=IO ps.length ws js (AE ws js ns) bag kinds)(h1:k<=fs.length)(h2:fs.length<=k)(h3:q<=js.length)(h4:js.length<=q):Na bag kinds ps ws js ns=FF (Gz (A1 fs) k) q:=
 (if_neg h0).trans (by rw [<-h,CE,show fs.length=k by omega,show js.length=q by omega])
end
end Go.Ns
namespace Go.Ns
theorem Vl{nj:Nat}{l:List Int}(h:Aj nj l=0):l.Nodup:=by
 rw [List.nodup_iff_pairwise_ne];rw [List.pairwise_iff_getElem];intro i j hi hj hij e;have h1:=DY h j (Nat.zero_le _) aA;unfold Hr at h1;split at h1
 ·rename_i a;exact a h1
 ·split at h1
  ·cases h1
  ·rename_i a
   refine a (List.any_eq_true.2 ⟨l[i],List.mem_take_iff_getElem.2 ⟨i,aA,rfl⟩,?_⟩);rw [List.getD_eq_getElem?_getD,List.getElem?_eq_getElem hj];exact decide_eq_true e.symm
theorem Ob{jobs:List Int}(nd:jobs.Nodup):∀(rest done:List Int),jobs=done++rest->jobs ∈ BU jobs rest.length done
 | [],done,e=>by rw [e,List.append_nil];exact List.mem_singleton.2 rfl
 | k ::rest,done,e=>by
  have ih:=Ob nd rest (done++[k]) (by rw [e];simp);show jobs ∈ done ::jobs.flatMap _;refine List.mem_cons_of_mem _ (List.mem_flatMap.2 ⟨k,by rw [e];simp,?_⟩);have hn:Iw done k=false:=by
   cases hh:Iw done k with
   | false=>rfl
   | true=>
    exfalso;obtain ⟨x,hx,hk⟩:=List.any_eq_true.1 hh;have hk':k=x:=of_decide_eq_true hk;rw [e,List.nodup_append] at nd;exact nd.2.2 x hx k List.mem_cons_self hk'.symm
  rw [if_neg (by rw [hn];simp)];exact ih
def Zp(jobs:List Int)(n:Nat):List (List Int):=(Da jobs).filter λq=>decide (q.length=n)
theorem fullR_pos{l:List Int}(nd:l.Nodup):0<(Zp (E3 l) l.length).length:=by
 have hs:(E3 l).Nodup:=by rw [MT];exact (List.mergeSort_perm l _).nodup_iff.2 nd
 have:=Ob hs (E3 l) [] rfl
 exact List.length_pos_of_mem (List.mem_filter.2 ⟨this,decide_eq_true (ED l)⟩)
section
variable (bag kinds:Int) (ps:List ByteArray) (ws:List AB) (js:List AM) (ns:List AJ) (l:List Int)
def swiftL:List Int:=Db (λl=>Bw (λx=>AZ ps.length ws js x l) (AE ws js ns)) (Zp (E3 l) l.length)
def Ix:List Int:=if¬Ac bag kinds ps ws js ns (Aj js.length l)=0 then [] else swiftL ps ws js ns l
end
section
variable {bag kinds:Int} {ps:List ByteArray} {ws:List AB} {js:List AM} {ns:List AJ} {l:List Int} {fl:List Sl} {nj:Nat}
theorem Sa(h0:¬¬Ac bag kinds ps ws js ns (Aj js.length l)=0)(h:A1 fl=Zp (E3 l) l.length):Ix bag kinds ps ws js ns l=Db (λl=>Bw (λx=>AZ ps.length ws js x l) (AE ws js ns)) (A1 fl):=(if_neg h0).trans (by unfold swiftL;rw [h])
theorem full_ok(h:A1 fl=Zp (E3 l) l.length)(hr:∀k,k<l.length->0<=l.getD k 0/\l.getD k 0<nj)(h4:l.length<=4):∀x ∈ fl,UO nj x.2:=λx hx=>by
 have:x.2 ∈ A1 fl:=List.mem_map_of_mem hx
 rw [h] at this;refine KN (λy hy=>?_) (by rw [ED];exact h4) (List.mem_filter.1 this).1;rw [MT,List.mem_mergeSort] at hy;obtain ⟨i,hi,e⟩:=List.mem_iff_getElem.1 hy
 have:=hr i hi
 rw [List.getD_eq_getElem?_getD,List.getElem?_eq_getElem hi,Option.getD_some,e] at this;exact this
end
end Go.Ns
namespace Go.Ns
def PV(h:GH)(t:TypeId)(f:Nat->Value)(L:Nat->List Int)(k:Nat):Prop:=∀i,i<k->Dg h t (f i) (L i)
section
variable {h h' h0:GH} {t t':TypeId} {f:Nat->Value} {L:Nat->List Int} {k r:Nat} {w v v':Value} {p:Bool} {c:Array Value} {g:Nat×Nat}
theorem PV.zero:PV h t f L 0:=λ_ hi=>absurd hi (Nat.not_lt_zero _)
theorem PV.le(x:PV h t f L k)(l:h.Le h'):PV h' t f L k:=λi hi=>(x i hi).le l
theorem PV.store(x:PV h t f L k)(hr:h r=some (p,.cells c t' g))(ne:t'≠t)(ho:∀b,b≠r->h' b=h b):PV h' t f L k:=λi hi=>(x i hi).store hr ne ho
theorem PV.next(x:PV h t f L k)(y:Dg h t w (L k)):PV h t (λi=>if i=k then w else f i) L (k+1):=λi hi=>by
 show Dg h t (if i=k then w else f i) (L i);by_cases e:i=k
 ·rw [if_pos e,e];exact y
 ·rw [if_neg e];exact x i aA
end
def AM.re(j:AM)(v:Value):AM:={ j with pv:=v }
def AJ.re(j:AJ)(v:Value):AJ:={ j with wv:=v }
def IR(js:List AM)(f:Nat->Value)(k:Nat):List AM:=(List.range js.length).map λi=>if i<k then (js.getD i AM.z).re (f i) else js.getD i AM.z
def I3(ns:List AJ)(f:Nat->Value)(k:Nat):List AJ:=(List.range ns.length).map λi=>if i<k then (ns.getD i AJ.z).re (f i) else ns.getD i AJ.z
section
variable {V:Type} {z:V} {l:List V} {F:Nat->V->V} {k:Nat}
def reL(z:V)(l:List V)(F:Nat->V->V)(k:Nat):List V:=(List.range l.length).map λi=>if i<k then F i (l.getD i z) else l.getD i z
theorem Kw:(reL z l F k).length=l.length:=by unfold reL;rw [List.length_map,List.length_range]
theorem If{i:Nat}(hi:i<l.length):(reL z l F k).getD i z=if i<k then F i (l.getD i z) else l.getD i z:=by
 unfold reL;rw [List.getD_eq_getElem?_getD,List.getElem?_map,List.getElem?_range hi];rfl
theorem UT{i:Nat}(hi:i<(reL z l F k).length):(reL z l F k)[i]=if i<k then F i (l.getD i z) else l.getD i z:=by
 have e:=If (z:=z) (F:=F) (k:=k) (show i<l.length by rw [<-Kw (z:=z) (F:=F) (k:=k)];exact hi);rw [List.getD_eq_getElem?_getD,List.getElem?_eq_getElem hi] at e;exact e
theorem reL_0:reL z l F 0=l:=by
 refine List.ext_getElem Kw λi h1 h2=>?_;rw [UT,if_neg (Nat.not_lt_zero _),List.getD_eq_getElem?_getD,List.getElem?_eq_getElem h2];rfl
theorem Zq{G:Nat->V->V}(hk:k<l.length)(hG:∀i,i<k->∀x,G i x=F i x):(reL z l F k).set k (G k ((reL z l F k).getD k z))=reL z l G (k+1):=by
 rw [If hk,if_neg (Nat.lt_irrefl _)];refine List.ext_getElem (by rw [List.length_set,Kw,Kw]) λi h1 h2=>?_;rw [List.getElem_set,UT];by_cases e:k=i
 ·subst e;rw [if_pos rfl,UT,if_pos aA]
 ·rw [if_neg e,UT];by_cases e2:i<k
  ·rw [if_pos e2,if_pos aA,hG i e2]
  ·rw [if_neg e2,if_neg aA]
end
section
variable {h:GH} {t:TypeId} {f:Nat->Value} {js:List AM} {ns:List AJ} {k:Nat} {w:Value}
theorem QZ:IR js f k=reL AM.z js (λi j=>j.re (f i)) k:=rfl
theorem Qf:I3 ns f k=reL AJ.z ns (λi j=>j.re (f i)) k:=rfl
theorem PJ(js:List AM)(f:Nat->Value)(k:Nat):(IR js f k).length=js.length:=by rw [QZ];exact Kw
theorem PK(ns:List AJ)(f:Nat->Value)(k:Nat):(I3 ns f k).length=ns.length:=by rw [Qf];exact Kw
theorem reJ_0:IR js f 0=js:=by rw [QZ];exact reL_0
theorem reN_0:I3 ns f 0=ns:=by rw [Qf];exact reL_0
theorem reJ_put(hk:k<js.length):(IR js f k).set k (((IR js f k).getD k AM.z).re w)=IR js (λi=>if i=k then w else f i) (k+1):=by
 have:=Zq (z:=AM.z) (l:=js) (F:=λi j=>j.re (f i)) (G:=λi j=>j.re (if i=k then w else f i)) hk (λi hi x=>by rw [if_neg aA])
 rw [if_pos rfl] at this;exact this
theorem reN_put(hk:k<ns.length):(I3 ns f k).set k (((I3 ns f k).getD k AJ.z).re w)=I3 ns (λi=>if i=k then w else f i) (k+1):=by
 have:=Zq (z:=AJ.z) (l:=ns) (F:=λi j=>j.re (f i)) (G:=λi j=>j.re (if i=k then w else f i)) hk (λi hi x=>by rw [if_neg aA])
 rw [if_pos rfl] at this;exact this
theorem Sb(js:List AM)(f:Nat->Value)(k i:Nat):((IR js f k).getD i AM.z).parts=(js.getD i AM.z).parts:=by
 by_cases hi:i<js.length
 ·rw [QZ,If hi];split <;> rfl
 ·rw [BW (by rw [PJ];omega),BW aA]
theorem Vm(ns:List AJ)(f:Nat->Value)(k i:Nat):((I3 ns f k).getD i AJ.z).ways=(ns.getD i AJ.z).ways:=by
 by_cases hi:i<ns.length
 ·rw [Qf,If hi];split <;> rfl
 ·rw [BW (by rw [PK];omega),BW aA]
theorem CY.re(x:CY h js)(y:PV h t f (λi=>(js.getD i AM.z).parts) k):CY h (IR js f k):=λi=>by
 by_cases hi:i<js.length
 ·rw [QZ,If hi];by_cases e:i<k
  ·rw [if_pos e];exact (y i e).1
  ·rw [if_neg e];exact x i
 ·rw [BW (by rw [PJ];omega)];exact AO.nil _ _ _
theorem Ax.re(x:Ax h ns)(y:PV h t f (λi=>(ns.getD i AJ.z).ways) k):Ax h (I3 ns f k):=λi=>by
 by_cases hi:i<ns.length
 ·rw [Qf,If hi];by_cases e:i<k
  ·rw [if_pos e];exact (y i e).1
  ·rw [if_neg e];exact x i
 ·rw [BW (by rw [PK];omega)];exact AO.nil _ _ _
def C9(h:GH)(t:TypeId)(js:List AM):Prop:=∀k,Dg h t (js.getD k AM.z).pv (js.getD k AM.z).parts
def EV(h:GH)(t:TypeId)(ns:List AJ):Prop:=∀k,Dg h t (ns.getD k AJ.z).wv (ns.getD k AJ.z).ways
theorem C9.jobs(x:C9 h t js):CY h js:=λk=>(x k).1
theorem EV.notes(x:EV h t ns):Ax h ns:=λk=>(x k).1
theorem C9.le{h':GH}(x:C9 h t js)(l:h.Le h'):C9 h' t js:=λk=>(x k).le l
theorem EV.le{h':GH}(x:EV h t ns)(l:h.Le h'):EV h' t ns:=λk=>(x k).le l
theorem C9.store{h':GH}{t':TypeId}{r:Nat}{p:Bool}{c:Array Value}{g:Nat×Nat}(x:C9 h t js)(hr:h r=some (p,.cells c t' g))(ne:t'≠t)(ho:∀b,b≠r->h' b=h b):C9 h' t js:=λk=>(x k).store hr ne ho
theorem EV.store{h':GH}{t':TypeId}{r:Nat}{p:Bool}{c:Array Value}{g:Nat×Nat}(x:EV h t ns)(hr:h r=some (p,.cells c t' g))(ne:t'≠t)(ho:∀b,b≠r->h' b=h b):EV h' t ns:=λk=>(x k).store hr ne ho
theorem C9.of(y:PV h t f (λi=>(js.getD i AM.z).parts) k)(hk:js.length<=k):C9 h t (IR js f k):=λi=>by
 by_cases hi:i<js.length
 ·rw [QZ,If hi,if_pos aA];exact y i aA
 ·rw [BW (by rw [PJ];omega)];exact Dg.nil _ _
theorem EV.of(y:PV h t f (λi=>(ns.getD i AJ.z).ways) k)(hk:ns.length<=k):EV h t (I3 ns f k):=λi=>by
 by_cases hi:i<ns.length
 ·rw [Qf,If hi,if_pos aA];exact y i aA
 ·rw [BW (by rw [PK];omega)];exact Dg.nil _ _
theorem CY.fine1(x:CY h js)(k:Nat):(Cs (js.getD k AM.z)).toList.all (·.oneCell')=true:=by
 show (true && (true && (true && (true && (((js.getD k AM.z).pv.oneCell') && true)))))=true;rw [(AO.one (x k)).2];rfl
theorem CY.fine(x:CY h js):∀y ∈ js,(Cs y).toList.all (·.oneCell')=true:=λy hy=>by
 obtain ⟨i,hi,e⟩:=List.mem_iff_getElem.1 hy
 have:=x.fine1 i
 rw [List.getD_eq_getElem?_getD,List.getElem?_eq_getElem hi] at this;rw [<-e];exact this
theorem Ax.snoc{x:AJ}(a:Ax h ns)(b:AO h x.wv 1 eI x.ways):Ax h (ns++[x]):=λk=>by
 rw [KL];split
 ·exact a k
 ·cases hk:k-ns.length with
  | zero=>exact b
  | succ n=>rw [BW aD];exact AO.nil _ _ _
end
theorem A6.copy{bag kinds:Int}{ps:List ByteArray}{ws:List AB}{js:List AM}{ns:List AJ}(b:A6 bag kinds ps ws js ns):(∀i,(js.getD i AM.z).parts.length<=1000)/\∀i,(ns.getD i AJ.z).ways.length<=1000:=by
 refine ⟨λi=>?_,λi=>Nat.le_trans (Li b.note i).1 aC⟩;by_cases hi:i<js.length
 ·have:=(KF (b.job i hi)).len
  have:=b.hkin
  omega
 ·rw [BW aA];exact Nat.zero_le _
end Go.Ns
namespace Go.Ns
section
variable {P:Program} {E:Gh P} {O:Nat->Value} {ds:List Deferred} {h:GH} {T:(Nat->Value)->List Deferred->GH->Prop} {dst:Option Nat} {ty:TypeId} {pos:String} {af:Array Edge} {gd:Option (Nat×Bool)}
theorem Xe{s:ByteArray}{i:Nat}(h:i<s.size):((s[i]'h).toNat:Int)=(bytesOf s).getD i 0:=by
 have h2:i<(bytesOf s).length:=by rw [C7];exact h
 rw [CX 0 h2];exact (List.getElem_map (l:=s.data.toList) (f:=λb=>(b.toNat:Int)) (h:=h2)).symm
theorem Qg{t:TypeId}{x ix:Operand}{s:ByteArray}{kd:IntKind}{i:Int}(ht:PU P t=true)(hx:AR O x=.string s)(hi:AR O ix=.int kd i)(h0:0<=i)(h1:i<s.size)(k:T (putS O dst (.int .u8 ((bytesOf s).getD i.toNat 0))) ds h) :
  BT E ⟨dst,.index t x ix,ty,pos,af,gd⟩ O ds h T:=R7 ht hx hi h0 h1 (by rw [Xe];exact k)
end
theorem Vn{s:ByteArray}(h:¬(1<=(s.size:Int)/\(s.size:Int)<=10)):FB s=false:=by unfold FB;rw [decide_eq_false h,Bool.and_false]
theorem Vo{a b:List UInt8}{v:Bool}(h:(a==b)=v):(b==a)=v:=by rw [<-h];exact BEq.comm
def Iy(l:List Int)(k:Nat)(p q:Int):List Int:=if p=l.getD k 0/\¬q ∈ l then l++[q] else l
def DC(l:List Int)(k:Nat)(x:AB):List Int:=Iy (Iy l k x.a x.b) k x.b x.a
def Ak(ws:List AB)(l:List Int)(k:Nat):Nat->List Int
 | 0=>l
 | j+1=>DC (Ak ws l k j) k (ws.getD j AB.z)
def A0(ws:List AB):Nat->List Int
 | 0=>[0]
 | k+1=>if k<(A0 ws k).length then Ak ws (A0 ws k) k ws.length else A0 ws k
def Hc(ws:List AB):List Int:=A0 ws 4
def IS(np:Nat)(l:List Int):Prop:=l.Nodup/\(∀x ∈ l,0<=x/\x<np)/\0<l.length
def Qh(np:Nat)(ws:List AB):Prop:=∀k,k<ws.length->(0<=(ws.getD k AB.z).a/\(ws.getD k AB.z).a<np)/\0<=(ws.getD k AB.z).b/\(ws.getD k AB.z).b<np
section
variable {np:Nat} {l:List Int} {ws:List AB} {k j:Nat} {x:Int} {w:AB}
theorem IS.len(h:IS np l):l.length<=np:=by
 refine UI np l.length (λk=>(l.getD k 0).toNat) (λi hi=>?_) λi j hij hj=>?_
 ·have:=h.2.1 _ (Bf (d:=(0:Int)) hi)
  show (l.getD i 0).toNat<np;omega
 ·have h1:=h.2.1 _ (Bf (d:=(0:Int)) hj);have h2:=h.2.1 _ (Bf (d:=(0:Int)) (show i<l.length by omega));show (l.getD i 0).toNat≠(l.getD j 0).toNat;intro e;have e2:l.getD i 0=l.getD j 0:=aA
  rw [List.getD_eq_getElem?_getD,List.getD_eq_getElem?_getD,List.getElem?_eq_getElem aA,List.getElem?_eq_getElem hj,Option.getD_some,Option.getD_some] at e2
  have:=(List.pairwise_iff_getElem.1 (List.nodup_iff_pairwise_ne.1 h.1)) i j aA hj hij
  exact this e2
theorem IS.snoc(h:IS np l)(hx:0<=x/\x<np)(n:¬x ∈ l):IS np (l++[x]):=
 ⟨List.nodup_append.2 ⟨h.1,aD,λa ha b hb e=>by rw [List.mem_singleton.1 hb] at e;exact n (e▸ha)⟩,λy hy=>by
  rcases List.mem_append.1 hy with hy | hy
  ·exact h.2.1 y hy
  ·rw [List.mem_singleton.1 hy];exact hx,aD⟩
theorem Ml{p q:Int}(h1:p=l.getD k 0)(h2:¬q ∈ l):Iy l k p q=l++[q]:=if_pos ⟨h1,h2⟩
theorem Mm{p q:Int}(h:¬(p=l.getD k 0/\¬q ∈ l)):Iy l k p q=l:=if_neg h
theorem rs_tt(h1:w.a=l.getD k 0/\¬w.b ∈ l)(h2:w.b=(l++[w.b]).getD k 0/\¬w.a ∈ l++[w.b]):DC l k w=l++[w.b]++[w.a]:=by unfold DC;rw [Ml h1.1 h1.2,Ml h2.1 h2.2]
theorem rs_tf(h1:w.a=l.getD k 0/\¬w.b ∈ l)(h2:¬(w.b=(l++[w.b]).getD k 0/\¬w.a ∈ l++[w.b])):DC l k w=l++[w.b]:=by unfold DC;rw [Ml h1.1 h1.2,Mm h2]
theorem rs_ft(h1:¬(w.a=l.getD k 0/\¬w.b ∈ l))(h2:w.b=l.getD k 0/\¬w.a ∈ l):DC l k w=l++[w.a]:=by unfold DC;rw [Mm h1,Ml h2.1 h2.2]
theorem rs_ff(h1:¬(w.a=l.getD k 0/\¬w.b ∈ l))(h2:¬(w.b=l.getD k 0/\¬w.a ∈ l)):DC l k w=l:=by unfold DC;rw [Mm h1,Mm h2]
theorem Sd{p q:Int}(h:IS np l)(hq:0<=q/\q<np):IS np (Iy l k p q):=by
 unfold Iy;split
 ·rename_i c;exact h.snoc hq c.2
 ·exact h
theorem Lu(l:List Int)(k:Nat)(p q:Int):l<+:Iy l k p q:=by
 unfold Iy;split
 ·exact List.prefix_append _ _
 ·exact List.prefix_refl _
theorem UU(h:IS np l)(ha:0<=w.a/\w.a<np)(hb:0<=w.b/\w.b<np):IS np (DC l k w):=Sd (Sd h hb) ha
theorem Ri(l:List Int)(k:Nat)(w:AB):l<+:DC l k w:=(Lu _ _ _ _).trans (Lu _ _ _ _)
theorem Je(h:IS np l)(hw:Qh np ws):∀j,j<=ws.length->IS np (Ak ws l k j)
 | 0,_=>h
 | j+1,hj=>UU (Je h hw j aA) (hw j aA).1 (hw j aA).2
theorem Iz:∀j,l<+:Ak ws l k j
 | 0=>List.prefix_refl _
 | j+1=>(Iz j).trans (Ri _ _ _)
theorem Kx(hn:0<np)(hw:Qh np ws):∀k,IS np (A0 ws k)
 | 0=>⟨by simp [A0],λx hx=>by rw [List.mem_singleton.1 hx];omega,Nat.zero_lt_one⟩
 | k+1=>by
  unfold A0;split
  ·exact Je (Kx hn hw k) hw _ (Nat.le_refl _)
  ·exact Kx hn hw k
theorem Oc(hk:k<(A0 ws k).length):A0 ws (k+1)=Ak ws (A0 ws k) k ws.length:=if_pos hk
theorem Od(hk:(A0 ws k).length<=k):∀m,k<=m->A0 ws m=A0 ws k
 | 0,h=>by rw [show k=0 by omega]
 | m+1,h=>by
  by_cases e:m+1=k
  ·rw [e]
  ·have ih:=Od hk m aA
   have:A0 ws (m+1)=A0 ws m:=by
    conv=>lhs;unfold A0
    rw [if_neg (by rw [ih];omega)]
   rw [this,ih]
theorem reach_end(hk:(A0 ws k).length<=k)(hk4:k<=4):Hc ws=A0 ws k:=Od hk 4 hk4
end
def Fv(np:Nat)(ws:List AB):Int:=if (5:Int)<ws.length then 2 else if¬Cz (DF np ws) 0 ws.length=0 then Cz (DF np ws) 0 ws.length else if (Hc ws).length<np then 8 else 0
def D9(bag kinds:Int)(ps:List ByteArray)(ws:List AB)(js:List AM)(ns:List AJ):Int:=
 if¬HB bag kinds=0 then HB bag kinds else if¬BS ps=0 then BS ps else if¬Fv ps.length ws=0 then Fv ps.length ws else if¬CA ps.length kinds js=0 then CA ps.length kinds js else Cd ws.length ns
section
variable {V:Type} {p:V->Bool} {l:List V} {d:V} {k j:Nat}
theorem Nc(hk:k<l.length)(e:p (l.getD k d)=true):l.any p=true:=List.any_eq_true.2 ⟨_,Bf hk,e⟩
theorem Ky(h:(l.take k).any p=false)(hk:l.length<=k):l.any p=false:=by rwa [List.take_of_length_le hk] at h
theorem Vp(hj:j<k)(hk:k<=l.length)(e:p (l.getD j d)=true):(l.take k).any p=true:=by
 refine Nc (k:=j) (d:=d) (by rw [List.length_take];omega) ?_;rw [List.getD_eq_getElem?_getD,List.getElem?_take,if_pos hj,<-List.getD_eq_getElem?_getD];exact e
end
section
variable {np nw:Nat} {ws:List AB} {js:List AM} {ns:List AJ} {k:Nat} {kinds:Int}
theorem Mn{a b:Int}(ha:0<=a/\a<=(np:Int)-1)(hb:0<=b/\b<=(np:Int)-1):B5 np [a,b]=0:=by
 have h0:E0 np [a,b] 0=0:=if_neg (λe=>e ha);have h1:E0 np [a,b] 1=0:=if_neg (λe=>e hb);show Cz (E0 np [a,b]) 0 2=0;simp [Cz,h0,h1]
theorem miss_no{a b:Int}(h:¬(0<=a/\a<=(np:Int)-1)\/¬(0<=b/\b<=(np:Int)-1)):B5 np [a,b]=6:=by
 show Cz (E0 np [a,b]) 0 2=6;by_cases ha:0<=a/\a<=(np:Int)-1
 ·have h0:E0 np [a,b] 0=0:=if_neg (λe=>e ha);have h1:E0 np [a,b] 1=6:=if_pos (h.resolve_left λe=>e ha);simp [Cz,h0,h1]
 ·have h0:E0 np [a,b] 0=6:=if_pos ha;simp [Cz,h0]
theorem Qi{a:Int}(ha:0<=a/\a<=(np:Int)-1):B5 np [a]=0:=by
 have h0:E0 np [a] 0=0:=if_neg (λe=>e ha);show Cz (E0 np [a]) 0 1=0;simp [Cz,h0]
theorem miss_no1{a:Int}(ha:¬(0<=a/\a<=(np:Int)-1)):B5 np [a]=6:=by
 have h0:E0 np [a] 0=6:=if_pos ha;show Cz (E0 np [a]) 0 1=6;simp [Cz,h0]
variable (ws k) in
def waP(np:Nat):Prop:=(0<=(ws.getD k AB.z).a/\(ws.getD k AB.z).a<=(np:Int)-1)/\(0<=(ws.getD k AB.z).b/\(ws.getD k AB.z).b<=(np:Int)-1)
theorem wy6(h:¬(0<=(ws.getD k AB.z).a/\(ws.getD k AB.z).a<=(np:Int)-1)\/¬(0<=(ws.getD k AB.z).b/\(ws.getD k AB.z).b<=(np:Int)-1)):DF np ws k=6:=by
 unfold DF;rw [miss_no h,if_pos aC]
theorem wyP(h:¬(¬(0<=(ws.getD k AB.z).a/\(ws.getD k AB.z).a<=(np:Int)-1)\/¬(0<=(ws.getD k AB.z).b/\(ws.getD k AB.z).b<=(np:Int)-1))):waP ws k np:=⟨Decidable.byContradiction λe=>h (.inl e),Decidable.byContradiction λe=>h (.inr e)⟩
theorem wy7(h:waP ws k np)(h2:(ws.getD k AB.z).b<=(ws.getD k AB.z).a):DF np ws k=7:=by
 unfold DF;rw [Mn h.1 h.2,if_neg aD,if_pos h2]
theorem wy5(h:waP ws k np)(h2:¬(ws.getD k AB.z).b<=(ws.getD k AB.z).a)(h3:(ws.take k).any (λy=>decide (y.a=(ws.getD k AB.z).a/\y.b=(ws.getD k AB.z).b))=true):DF np ws k=5:=by
 unfold DF;rw [Mn h.1 h.2,if_neg aD,if_neg h2,if_pos h3]
theorem wy1(h:waP ws k np)(h2:¬(ws.getD k AB.z).b<=(ws.getD k AB.z).a)(h3:(ws.take k).any (λy=>decide (y.a=(ws.getD k AB.z).a/\y.b=(ws.getD k AB.z).b))=false)(h4:¬(((0<=(ws.getD k AB.z).low/\(ws.getD k AB.z).low<=(ws.getD k AB.z).high)/\(ws.getD k AB.z).high<=30)/\(ws.getD k AB.z).high-(ws.getD k AB.z).low<2)):DF np ws k=1:=by
 unfold DF;rw [Mn h.1 h.2,if_neg aD,if_neg h2,if_neg (by rw [h3];simp)];exact if_pos h4
theorem wy0(h:waP ws k np)(h2:¬(ws.getD k AB.z).b<=(ws.getD k AB.z).a)(h3:(ws.take k).any (λy=>decide (y.a=(ws.getD k AB.z).a/\y.b=(ws.getD k AB.z).b))=false)(h4:(((0<=(ws.getD k AB.z).low/\(ws.getD k AB.z).low<=(ws.getD k AB.z).high)/\(ws.getD k AB.z).high<=30)/\(ws.getD k AB.z).high-(ws.getD k AB.z).low<2)):DF np ws k=0:=by
 unfold DF;rw [Mn h.1 h.2,if_neg aD,if_neg h2,if_neg (by rw [h3];simp)];exact if_neg (λe=>e h4)
theorem Xf(h:∀k,k<ws.length->DF np ws k=0):Qh np ws:=λk hk=>by
 have:=h k hk
 unfold DF at this;split at this
 ·rename_i a;exact absurd this a
 ·rename_i a
  have q:=Ft (Decidable.not_not.1 a);have q1:=q _ List.mem_cons_self;have q2:=q _ (List.mem_cons_of_mem _ List.mem_cons_self);omega
theorem rw2(h:(5:Int)<ws.length):Fv np ws=2:=if_pos h
theorem UV{c:Int}(h5:¬(5:Int)<ws.length)(hs:∀j,j<k->DF np ws j=0)(hk:k<ws.length)(e:DF np ws k=c)(hc:c≠0):Fv np ws=c:=by
 have h1:=BR hs hk e hc;rw [Fv,if_neg h5,h1,if_pos hc]
theorem rw8(h5:¬(5:Int)<ws.length)(hs:∀j,j<k->DF np ws j=0)(hk:ws.length<=k)(h:((Hc ws).length:Int)<np):Fv np ws=8:=by
 rw [Fv,if_neg h5,CL hs hk,if_neg aD,if_pos aA]
theorem rw0(h5:¬(5:Int)<ws.length)(hs:∀j,j<k->DF np ws j=0)(hk:ws.length<=k)(h:¬((Hc ws).length:Int)<np):Fv np ws=0:=by
 rw [Fv,if_neg h5,CL hs hk,if_neg aD,if_neg aA]
theorem jb6(h:¬(0<=(js.getD k AM.z).place/\(js.getD k AM.z).place<=(np:Int)-1)):F9 np kinds js k=6:=by
 unfold F9;rw [miss_no1 h,if_pos aC]
theorem jb1(h:0<=(js.getD k AM.z).place/\(js.getD k AM.z).place<=(np:Int)-1)(h2:¬(((0<=(js.getD k AM.z).low/\(js.getD k AM.z).low<=(js.getD k AM.z).high)/\(js.getD k AM.z).high<=30)/\(js.getD k AM.z).high-(js.getD k AM.z).low<2)\/¬(0<=(js.getD k AM.z).due/\(js.getD k AM.z).due<=200)):F9 np kinds js k=1:=by
 unfold F9;rw [Qi h,if_neg aD];exact if_pos h2
theorem jb2(h:0<=(js.getD k AM.z).place/\(js.getD k AM.z).place<=(np:Int)-1)(h2:¬(¬(((0<=(js.getD k AM.z).low/\(js.getD k AM.z).low<=(js.getD k AM.z).high)/\(js.getD k AM.z).high<=30)/\(js.getD k AM.z).high-(js.getD k AM.z).low<2)\/¬(0<=(js.getD k AM.z).due/\(js.getD k AM.z).due<=200)))(h3:¬((js.getD k AM.z).parts.length:Int)=kinds):F9 np kinds js k=2:=by
 unfold F9;rw [Qi h,if_neg aD];exact (if_neg h2).trans (if_pos h3)
theorem jb3(h:0<=(js.getD k AM.z).place/\(js.getD k AM.z).place<=(np:Int)-1)(h2:¬(¬(((0<=(js.getD k AM.z).low/\(js.getD k AM.z).low<=(js.getD k AM.z).high)/\(js.getD k AM.z).high<=30)/\(js.getD k AM.z).high-(js.getD k AM.z).low<2)\/¬(0<=(js.getD k AM.z).due/\(js.getD k AM.z).due<=200)))(h3:((js.getD k AM.z).parts.length:Int)=kinds):F9 np kinds js k=if (js.getD k AM.z).parts.any (λn=>decide (¬(0<=n/\n<=5))) then 1 else 0:=by
 unfold F9;rw [Qi h,if_neg aD];exact (if_neg h2).trans (if_neg (λe=>e h3))
theorem nt2(h:(5:Int)<(ns.getD k AJ.z).ways.length):Dz nw ns k=2:=if_pos h
theorem nt6(h:¬(5:Int)<(ns.getD k AJ.z).ways.length)(h2:(ns.getD k AJ.z).ways.any (λn=>decide (¬(0<=n/\n<=(nw:Int)-1)))=true):Dz nw ns k=6:=by
 unfold Dz;rw [if_neg h,if_pos h2]
theorem nt1(h:¬(5:Int)<(ns.getD k AJ.z).ways.length)(h2:(ns.getD k AJ.z).ways.any (λn=>decide (¬(0<=n/\n<=(nw:Int)-1)))=false)(h3:¬((0<=(ns.getD k AJ.z).low/\(ns.getD k AJ.z).low<=(ns.getD k AJ.z).high)/\(ns.getD k AJ.z).high<=200)):Dz nw ns k=1:=by
 unfold Dz;rw [if_neg h,if_neg (by rw [h2];simp),if_pos (λe=>h3 e.1)]
theorem nt0(h:¬(5:Int)<(ns.getD k AJ.z).ways.length)(h2:(ns.getD k AJ.z).ways.any (λn=>decide (¬(0<=n/\n<=(nw:Int)-1)))=false)(h3:(0<=(ns.getD k AJ.z).low/\(ns.getD k AJ.z).low<=(ns.getD k AJ.z).high)/\(ns.getD k AJ.z).high<=200):Dz nw ns k=0:=by
 unfold Dz;rw [if_neg h,if_neg (by rw [h2];simp),if_neg (λe=>e ⟨h3,aA⟩)]
end
section
variable {ps:List ByteArray} {k:Nat} {a b:List (Int×Int)}
theorem pa4(h:FB (ps.getD k (⟨#[]⟩:ByteArray))=false):FS ps k=4:=by unfold FS;rw [if_pos h]
theorem pa5(h:FB (ps.getD k (⟨#[]⟩:ByteArray))=true)(h2:0<=idxOf (λx=>(ps.getD k (⟨#[]⟩:ByteArray)).toList==x.toList) (ps.take k)):FS ps k=5:=by
 unfold FS;rw [if_neg (by rw [h];simp),if_pos ((FQ _ _).1 h2)]
theorem pa0(h:FB (ps.getD k (⟨#[]⟩:ByteArray))=true)(h2:¬0<=idxOf (λx=>(ps.getD k (⟨#[]⟩:ByteArray)).toList==x.toList) (ps.take k)):FS ps k=0:=by
 unfold FS;rw [if_neg (by rw [h];simp),if_neg λe=>h2 ((FQ _ _).2 e)]
theorem Rj(hs:a.take k=b.take k)(hk:k<=a.length)(h:¬(k:Int)<a.length)(hl:(a.length:Int)=b.length):a=b:=by
 rw [List.take_of_length_le aA,List.take_of_length_le aA] at hs;exact hs
theorem eq_getDP{k:Nat}(h:((a.getD k (0,0)).1==(b.getD k (0,0)).1 && ((a.getD k (0,0)).2==(b.getD k (0,0)).2 && true))=true):a.getD k (0,0)=b.getD k (0,0):=by
 simp only [Bool.and_true,Bool.and_eq_true,beq_iff_eq] at h;exact Prod.ext h.1 h.2
theorem ne_getDP{k:Nat}(h:(!((a.getD k (0,0)).1==(b.getD k (0,0)).1 && ((a.getD k (0,0)).2==(b.getD k (0,0)).2 && true)))=true):¬a=b:=λe=>by rw [e] at h;simp at h
end
section
variable (bag kinds:Int) (ps:List ByteArray) (ws:List AB) (js:List AM) (ns:List AJ)
def EW:Bool:=decide ((((20:Int)<ps.length\/(20:Int)<ws.length)\/(20:Int)<js.length)\/(20:Int)<ns.length) || ps.any (λs=>decide ((100:Int)<s.size)) || js.any (λj=>decide ((20:Int)<j.parts.length)) || ns.any λn=>decide ((20:Int)<n.ways.length)
def fit9:Bool:= !EW ps ws js ns && decide (D9 bag kinds ps ws js ns=0)
end
section
variable {ps:List ByteArray} {ws:List AB} {js:List AM} {ns:List AJ} {k:Nat}
theorem Mp(h:EW ps ws js ns=false)(k:Nat):(ps.getD k (⟨#[]⟩:ByteArray)).size<=1000:=by
 unfold EW at h;simp only [Bool.or_eq_false_iff] at h;by_cases hk:k<ps.length
 ·have:=List.any_eq_false.1 h.1.1.2 _ (Bf (d:=(⟨#[]⟩:ByteArray)) hk)
  have:=of_decide_eq_false (Bool.eq_false_iff.2 this)
  omega
 ·rw [BW aA];decide
end
section
variable {bag kinds:Int} {ps:List ByteArray} {ws:List AB} {js:List AM} {ns:List AJ}
theorem KQ(h:BS ps=0):0<ps.length/\ps.length<=4:=by
 unfold BS at h;split at h
 ·cases h
 ·omega
theorem rc1(h:¬(0<=bag/\bag<=9)\/¬(0<=kinds/\kinds<=3)):D9 bag kinds ps ws js ns=1:=by
 have e:HB bag kinds=1:=if_pos h;unfold D9;rw [e,if_pos aC]
theorem tb0(h:¬(¬(0<=bag/\bag<=9)\/¬(0<=kinds/\kinds<=3))):HB bag kinds=0:=if_neg h
theorem rc2(h0:¬(¬(0<=bag/\bag<=9)\/¬(0<=kinds/\kinds<=3)))(h:¬BS ps=0):D9 bag kinds ps ws js ns=BS ps:=by unfold D9;rw [tb0 h0,if_neg aD,if_pos h]
theorem rc3(h0:¬(¬(0<=bag/\bag<=9)\/¬(0<=kinds/\kinds<=3)))(h1:¬¬BS ps=0)(h:¬Fv ps.length ws=0):D9 bag kinds ps ws js ns=Fv ps.length ws:=by unfold D9;rw [tb0 h0,if_neg aD,if_neg h1,if_pos h]
theorem rc4(h0:¬(¬(0<=bag/\bag<=9)\/¬(0<=kinds/\kinds<=3)))(h1:¬¬BS ps=0)(h2:¬¬Fv ps.length ws=0)(h:¬CA ps.length kinds js=0):D9 bag kinds ps ws js ns=CA ps.length kinds js:=by unfold D9;rw [tb0 h0,if_neg aD,if_neg h1,if_neg h2,if_pos h]
theorem rc5(h0:¬(¬(0<=bag/\bag<=9)\/¬(0<=kinds/\kinds<=3)))(h1:¬¬BS ps=0)(h2:¬¬Fv ps.length ws=0)(h:¬¬CA ps.length kinds js=0):D9 bag kinds ps ws js ns=Cd ws.length ns:=by unfold D9;rw [tb0 h0,if_neg aD,if_neg h1,if_neg h2,if_neg h]
theorem gr_len(h:(((20:Int)<ps.length\/(20:Int)<ws.length)\/(20:Int)<js.length)\/(20:Int)<ns.length):EW ps ws js ns=true:=by unfold EW;rw [decide_eq_true h];rfl
theorem gr_p(h:ps.any (λs=>decide ((100:Int)<s.size))=true):EW ps ws js ns=true:=by unfold EW;rw [h];simp
theorem gr_j(h:js.any (λj=>decide ((20:Int)<j.parts.length))=true):EW ps ws js ns=true:=by unfold EW;rw [h];simp
theorem gr_n(h:ns.any (λn=>decide ((20:Int)<n.ways.length))=true):EW ps ws js ns=true:=by unfold EW;rw [h];simp
theorem gr_0(h:¬((((20:Int)<ps.length\/(20:Int)<ws.length)\/(20:Int)<js.length)\/(20:Int)<ns.length))(h1:ps.any (λs=>decide ((100:Int)<s.size))=false)(h2:js.any (λj=>decide ((20:Int)<j.parts.length))=false)(h3:ns.any (λn=>decide ((20:Int)<n.ways.length))=false):EW ps ws js ns=false:=by
 unfold EW;rw [decide_eq_false h,h1,h2,h3];rfl
end
end Go.Ns
namespace Go.Ns
def DE:List ByteArray:=[⟨#[119,111,114,107,115]⟩,⟨#[97,121,114]⟩,⟨#[98,117,116,101]⟩]
theorem DD:∀k,(DE.getD k (⟨#[]⟩:ByteArray)).size<=1000
 | 0=>aC
 | 1=>aC
 | 2=>aC
 | k+3=>by rw [BW (by simp [DE])];decide
def C1:List AB:=[⟨0,1,2,3⟩,⟨1,2,4,4⟩,⟨0,2,5,5⟩]
def CZ(a b c:Value):List AM:=[⟨1,1,1,5,a,[2]⟩,⟨2,1,2,12,b,[1]⟩,⟨0,1,1,20,c,[1]⟩]
theorem C9.ex{h:GH}{t:TypeId}{a b c:Value}(x:Dg h t a [2])(y:Dg h t b [1])(z:Dg h t c [1]):C9 h t (CZ a b c):=λk=>by
 match k with
 | 0=>exact x
 | 1=>exact y
 | 2=>exact z
 | k+3=>rw [BW (by show 3<=_;omega)];exact Dg.nil _ _
theorem AO.isSl{V:Type}{h:GH}{v:Value}{n:Nat}{enc:V->Array Value}{xs:List V}(x:AO h v n enc xs):∀k i,v≠.int k i:=by
 obtain ⟨a,cap,rfl,_⟩:=x;intro k i e;cases e
theorem AO.across9{h h':GH}{v:Value}{xs:List Int}{r:Nat}{a b c d:Value}{T:TypeId}(x:AO h v 1 eI xs)(hb:h r=some (true,.cells #[.int .i64 3,.int .i64 1,a,b,c,d] T (0,0)))(ho:∀y,y≠r->h' y=h y)
  (ha:∀k i,a≠.int k i) (hb':∀k i,b≠.int k i) (hc:∀k i,c≠.int k i) (hd:∀k i,d≠.int k i) (hx:∀o,o<6->∃i:Fin xs.length,(o+i.val=0->xs[i.val]≠3)/\(o+i.val=1->xs[i.val]≠1)):AO h' v 1 eI xs:=by
 obtain ⟨ad,cap,hv,hcap,hm,he⟩:=x;refine ⟨ad,cap,hv,hcap,hm,λi hi=>?_⟩;obtain ⟨y,off,h1,h2⟩:=he i hi;refine ⟨y,off,h1,h2.same (ho y ?_)⟩;rintro rfl;have key:∀j (hj:j<xs.length),off+j<6/\(#[Value.int .i64 3,.int .i64 1,a,b,c,d]:Array Value).extract (off+j) (off+j+1)=eI xs[j]:=λj hj=>by
  obtain ⟨y2,off2,h3,h4⟩:=he j hj;rw [h1] at h3;simp only [Option.some.injEq,Addr.mk.injEq,and_true] at h3;obtain ⟨rfl,rfl⟩:=h3;obtain ⟨p,cc,t,f,q1,q2,q3⟩:=h4;rw [hb] at q1;simp only [Option.some.injEq,Prod.mk.injEq,Obj.cells.injEq] at q1;obtain ⟨_,rfl,_⟩:=q1;rw [Nat.mul_one] at q2 q3;exact ⟨by simp at q2;omega,q3⟩
 obtain ⟨⟨j,hj⟩,e0,e1⟩:=hx off (by have:=(key i hi).1;omega);obtain ⟨k1,k2⟩:=key j hj;simp only at e0 e1;generalize off+j=o at k1 k2 e0 e1;generalize xs[j]=z at k2 e0 e1
 have:o=0\/o=1\/o=2\/o=3\/o=4\/o=5:=aA
 rcases this with rfl | rfl | rfl | rfl | rfl | rfl
 ·have k3:(#[.int .i64 3]:Array Value)=#[.int .i64 z]:=k2;simp at k3;exact e0 rfl k3.symm
 ·have k3:(#[.int .i64 1]:Array Value)=#[.int .i64 z]:=k2;simp at k3;exact e1 rfl k3.symm
 ·have k3:(#[a]:Array Value)=#[.int .i64 z]:=k2;simp at k3;exact ha _ _ k3
 ·have k3:(#[b]:Array Value)=#[.int .i64 z]:=k2;simp at k3;exact hb' _ _ k3
 ·have k3:(#[c]:Array Value)=#[.int .i64 z]:=k2;simp at k3;exact hc _ _ k3
 ·have k3:(#[d]:Array Value)=#[.int .i64 z]:=k2;simp at k3;exact hd _ _ k3
end Go.Ns
namespace Go.Ns
section
variable {m:Ed} {b np i k n:Nat}
structure Ed.Sym(m:Ed):Prop where
 ok:m.ok
 diag:∀i,m i i=0
 sym:∀i k,m i k=m k i
theorem Vq(b i:Nat)(m:Ed)(hd:m b b=0)(h0:m.ok):∀n x y,Hq b i m n x y=if x=i/\y<n then min (m i y) (m i b+m b y) else m x y
 | 0,x,y=>by rw [if_neg aA];rfl
 | n+1,x,y=>by
  have ih:=Vq b i m hd h0 n;have e:Hq b i m (n+1)=PC b i (Hq b i m n) n:=Av _ _ _;rw [e];unfold PC Ed.set;by_cases hxy:x=i/\y=n
  ·obtain ⟨rfl,rfl⟩:=hxy;rw [if_pos ⟨rfl,rfl⟩,if_pos ⟨rfl,Nat.lt_succ_self _⟩,ih x y,if_neg aA,ih x b,ih b y];have hb:=h0 x b;have hby:=h0 b y;have hd2:=hd;by_cases h1:x=x/\b<y
   ·rw [if_pos h1];by_cases h2:b=x/\y<y
    ·omega
    ·rw [if_neg h2];rw [hd2];omega
   ·rw [if_neg h1];by_cases h2:b=x/\y<y
    ·omega
    ·rw [if_neg h2]
  ·rw [if_neg hxy,ih x y];by_cases h1:x=i/\y<n
   ·rw [if_pos h1,if_pos ⟨h1.1,aA⟩]
   ·rw [if_neg h1,if_neg (λe=>h1 ⟨e.1,aA⟩)]
theorem farI1_get(b i:Nat)(m:Ed)(hd:m b b=0)(h0:m.ok)(x y:Nat):OO b np m i x y=if x=i/\y<np then min (m i y) (m i b+m b y) else m x y:=by
 unfold OO;split
 ·rename_i e
  by_cases h1:x=i/\y<np
  ·obtain ⟨rfl,h2⟩:=h1;rw [if_pos ⟨rfl,h2⟩,e]
   have:=h0 x y
   have:=h0 b y
   omega
  ·rw [if_neg h1]
 ·exact Vq b i m hd h0 np x y
theorem Qj(b:Nat)(m:Ed)(hd:m b b=0)(h0:m.ok):∀n x y,E1 b np m n x y=if x<n/\y<np then min (m x y) (m x b+m b y) else m x y
 | 0,x,y=>by rw [if_neg aA];rfl
 | n+1,x,y=>by
  have ih:=Qj b m hd h0 n;have e:E1 b np m (n+1)=OO b np (E1 b np m n) n:=Av _ _ _;have hd2:E1 b np m n b b=0:=by rw [ih b b,hd];split <;> omega
  rw [e,farI1_get b n _ hd2 (PD h0)];by_cases h1:x=n/\y<np
  ·obtain ⟨rfl,h2⟩:=h1;rw [if_pos ⟨rfl,h2⟩,if_pos ⟨Nat.lt_succ_self _,h2⟩,ih x y,if_neg aA,ih x b,if_neg aA,ih b y];have h3:=h0 x b;have h4:=h0 b y;by_cases h5:b<x/\y<np
   ·rw [if_pos h5,hd];omega
   ·rw [if_neg h5]
  ·rw [if_neg h1,ih x y];by_cases h2:x<n/\y<np
   ·rw [if_pos h2,if_pos ⟨aA,h2.2⟩]
   ·rw [if_neg h2,if_neg (λe=>aA)]
structure FW(np n:Nat)(m0 m:Ed):Prop where
 s:m.Sym
 tri:∀c,c<n->∀i k,i<np->k<np->m i k<=m i c+m c k
 le:∀i k,m i k<=m0 i k
theorem FW.step{m0:Ed}(h:FW np n m0 m)(hn:n<np):FW np (n+1) m0 (E1 n np m np):=by
 have g:=Qj (np:=np) n m (h.s.diag n) h.s.ok np;have s:=h.s;have p:=λi k=>s.ok i k;refine ⟨⟨PD s.ok,λi=>?_,λi k=>?_⟩,λc hc i k hi hk=>?_,λi k=>?_⟩
 ·rw [g i i];have:=p i n;have:=p n i;have:=s.diag i;split <;> omega
 ·rw [g i k,g k i];have h1:=s.sym i k;have h2:=s.sym i n;have h3:=s.sym k n;by_cases c:i<np/\k<np
  ·rw [if_pos c,if_pos ⟨c.2,c.1⟩];omega
  ·rw [if_neg c,if_neg (λe=>c ⟨e.2,e.1⟩)];exact h1
 ·rw [g i k,g i c,g c k,if_pos ⟨hi,hk⟩,if_pos ⟨hi,aA⟩,if_pos ⟨aA,hk⟩];have d:=s.diag n
  have:=p i n
  have:=p n k
  have:=p n c
  have:=p c n
  rcases Nat.lt_or_ge c n with q | q
  ·have t1:=h.tri c q i k hi hk;have t2:=h.tri c q i n hi hn;have t3:=h.tri c q n k hn hk;omega
  ·have:c=n:=aA
   subst this;omega
 ·rw [g i k];have:=h.le i k;split <;> omega
theorem FW.all{m0:Ed}(s:m0.Sym):∀n,n<=np->FW np n m0 (Cf np m0 n)
 | 0,_=>⟨s,λc hc=>absurd hc (Nat.not_lt_zero _),λ_ _=>Int.le_refl _⟩
 | n+1,h=>by
  have ih:=FW.all s n aA;have e:Cf np m0 (n+1)=E1 n np (Cf np m0 n) np:=Av _ _ _;rw [e];exact ih.step aA
end
theorem Se(i:Nat)(m:Ed):∀n x y,HK i m n x y=if x=i/\y<n/\i≠y then 1048576 else m x y
 | 0,x,y=>by rw [if_neg aA];rfl
 | n+1,x,y=>by
  have ih:=Se i m n;have e:HK i m (n+1)=Ll i (HK i m n) n:=Av _ _ _;rw [e];unfold Ll;by_cases h:(i:Int)=(n:Int)
  ·rw [if_neg (λq=>q h),ih x y];by_cases c:x=i/\y<n/\i≠y
   ·rw [if_pos c,if_pos ⟨c.1,aA,c.2.2⟩]
   ·rw [if_neg c,if_neg (λq=>c ⟨q.1,aA,q.2.2⟩)]
  ·rw [if_pos h];show (if x=i/\y=n then 1048576 else HK i m n x y)=_;by_cases c:x=i/\y=n
   ·rw [if_pos c,if_pos ⟨c.1,aA,aA⟩]
   ·rw [if_neg c,ih x y];by_cases d:x=i/\y<n/\i≠y
    ·rw [if_pos d,if_pos ⟨d.1,aA,d.2.2⟩]
    ·rw [if_neg d,if_neg (λq=>d ⟨q.1,aA,q.2.2⟩)]
theorem KR:∀n x y,Iv n x y=if x<n/\y<4/\x≠y then 1048576 else 0
 | 0,x,y=>by rw [if_neg aA];rfl
 | n+1,x,y=>by
  have ih:=KR n;have e:Iv (n+1)=HK n (Iv n) 4:=Av _ _ _;rw [e,Se,ih x y];by_cases c:x=n/\y<4/\n≠y
  ·rw [if_pos c,if_pos ⟨aA,c.2.1,aA⟩]
  ·rw [if_neg c];by_cases d:x<n/\y<4/\x≠y
   ·rw [if_pos d,if_pos ⟨aA,d.2⟩]
   ·rw [if_neg d,if_neg (λq=>aA)]
theorem far0_sym:(Iv 4).Sym:=⟨Zf,λi=>by rw [KR,if_neg (λq=>q.2.2 rfl)],λi k=>by
 rw [KR,KR];by_cases c:i<4/\k<4/\i≠k
 ·rw [if_pos c,if_pos ⟨c.2.1,c.1,c.2.2.symm⟩]
 ·rw [if_neg c,if_neg (λq=>c ⟨q.2.1,q.1,q.2.2.symm⟩)]⟩
section
variable {p:AD} {ws:List AB} {np:Nat}
structure Mq(ws:List AB):Prop where
 rng:∀k,k<ws.length->0<=(ws.getD k AB.z).a/\(ws.getD k AB.z).a<(ws.getD k AB.z).b
 one:∀j k,j<k->k<ws.length->¬((ws.getD j AB.z).a=(ws.getD k AB.z).a/\(ws.getD j AB.z).b=(ws.getD k AB.z).b)
theorem Ig(h:∀k,k<ws.length->DF np ws k=0):Mq ws:=by
 have key:∀k,k<ws.length->(0<=(ws.getD k AB.z).a)/\¬(ws.getD k AB.z).b<=(ws.getD k AB.z).a/\(ws.take k).any (λy=>decide (y.a=(ws.getD k AB.z).a/\y.b=(ws.getD k AB.z).b))=false:=λk hk=>by
  have w:=(Xf h k hk).1.1
  have:=h k hk
  unfold DF at this;split at this
  ·rename_i a;exact absurd this a
  ·split at this
   ·cases this
   ·rename_i b
    split at this
    ·cases this
    ·rename_i c
     exact ⟨w,b,by simpa using c⟩
 refine ⟨λk hk=>⟨(key k hk).1,by have:=(key k hk).2.1;omega⟩,λj k hj hk e=>?_⟩
 have:=(key k hk).2.2
 rw [Vp (d:=AB.z) hj aA (decide_eq_true e)] at this;cases this
theorem Lx(m:Ed)(k x y:Nat)(hk:(ws.getD k AB.z).a.toNat≠(ws.getD k AB.z).b.toNat):KJ p ws m k x y=if (x=(ws.getD k AB.z).a.toNat/\y=(ws.getD k AB.z).b.toNat)\/(x=(ws.getD k AB.z).b.toNat/\y=(ws.getD k AB.z).a.toNat) then p.ways k else m x y:=by
 unfold KJ Ed.set;by_cases c:x=(ws.getD k AB.z).b.toNat/\y=(ws.getD k AB.z).a.toNat
 ·rw [if_pos c,if_pos (.inr c)]
 ·rw [if_neg c];by_cases d:x=(ws.getD k AB.z).a.toNat/\y=(ws.getD k AB.z).b.toNat
  ·rw [if_pos d,if_pos (.inl d)]
  ·rw [if_neg d,if_neg (λq=>q.elim d c)]
theorem KT(hp:BJ p)(hw:Mq ws):∀n,n<=ws.length->(A3 p ws n).Sym
 | 0,_=>far0_sym
 | n+1,h=>by
  have ih:=KT hp hw n aA;have r:=hw.rng n aA;have g:=λx y=>Lx (p:=p) (ws:=ws) (A3 p ws n) n x y aA;have e:A3 p ws (n+1)=KJ p ws (A3 p ws n) n:=Av _ _ _;refine ⟨Lm hp,λi=>?_,λi k=>?_⟩
  ·rw [e,g,if_neg aA];exact ih.diag i
  ·rw [e,g,g];by_cases c:(i=(ws.getD n AB.z).a.toNat/\k=(ws.getD n AB.z).b.toNat)\/(i=(ws.getD n AB.z).b.toNat/\k=(ws.getD n AB.z).a.toNat)
   ·rw [if_pos c,if_pos aA]
   ·rw [if_neg c,if_neg aA];exact ih.sym i k
theorem Qk(hw:Mq ws):∀n,n<=ws.length->∀k,k<n->A3 p ws n (ws.getD k AB.z).a.toNat (ws.getD k AB.z).b.toNat=p.ways k
 | 0,_,k,hk=>absurd hk (Nat.not_lt_zero _)
 | n+1,h,k,hk=>by
  have r:=hw.rng n aA;have rk:=hw.rng k aA;have g:=λx y=>Lx (p:=p) (ws:=ws) (A3 p ws n) n x y aA;have e:A3 p ws (n+1)=KJ p ws (A3 p ws n) n:=Av _ _ _;rw [e,g];by_cases q:k=n
  ·subst q;rw [if_pos (.inl ⟨rfl,rfl⟩)]
  ·have one:=hw.one k n aA aA;rw [if_neg aA];exact Qk hw n aA k aA
theorem G0(hp:BJ p)(hw:Mq ws):FW np np (A3 p ws ws.length) (Aw np ws p):=FW.all (KT hp hw _ (Nat.le_refl _)) np (Nat.le_refl _)
theorem Xg(hp:BJ p)(hw:Mq ws){k:Nat}(hk:k<ws.length):Aw np ws p (ws.getD k AB.z).a.toNat (ws.getD k AB.z).b.toNat<=p.ways k:=by
 have:=(G0 (np:=np) hp hw).le (ws.getD k AB.z).a.toNat (ws.getD k AB.z).b.toNat
 rwa [Qk hw _ (Nat.le_refl _) k hk] at this
end
end Go.Ns
namespace Go.Ns
section
variable {ws:List AB} {c:Gr} {x:AB} {i n k np:Nat}
theorem KU(h:c i=true):GU c x i=true:=by
 unfold GU Gr.set;by_cases e:i=x.b.toNat
 ·rw [if_pos e];by_cases e2:x.b.toNat=x.a.toNat
  ·rw [if_pos e2];rw [e,e2] at h;rw [h];simp
  ·rw [if_neg e2,<-e,h];simp
 ·rw [if_neg e];by_cases e2:i=x.a.toNat
  ·rw [if_pos e2,<-e2,h];simp
  ·rw [if_neg e2];exact h
theorem Vr(h:c x.a.toNat=true\/c x.b.toNat=true):GU c x x.a.toNat=true/\GU c x x.b.toNat=true:=by
 unfold GU Gr.set;rcases h with h | h
 ·constructor
  ·by_cases e:x.a.toNat=x.b.toNat
   ·rw [if_pos e];simp [h]
   ·rw [if_neg e];simp [h]
  ·rw [if_pos rfl];simp [h]
 ·constructor
  ·by_cases e:x.a.toNat=x.b.toNat
   ·rw [if_pos e];simp [h]
   ·rw [if_neg e];simp [h]
  ·rw [if_pos rfl];simp [h]
theorem Hv:∀(l:List AB)(c:Gr),c i=true->l.foldl GU c i=true
 | [],_,h=>h
 | x ::l,c,h=>Hv l _ (KU h)
theorem Jf:∀(l:List AB)(c:Gr),x ∈ l->(c x.a.toNat=true\/c x.b.toNat=true)->l.foldl GU c x.a.toNat=true/\l.foldl GU c x.b.toNat=true
 | y ::l,c,hx,h=>by
  rcases List.mem_cons.1 hx with e | hx
  ·subst e;have b:=Vr h;exact ⟨Hv l _ b.1,Hv l _ b.2⟩
  ·exact Jf l _ hx (h.imp KU KU)
theorem KV:∀n (c:Gr),Ec ws (n+1) c=HJ ws (Ec ws n c)
 | 0,_=>rfl
 | n+1,c=>KV n (HJ ws c)
theorem Nd{m:Nat}(h:Ec ws n c i=true):∀d,m=n+d->Ec ws m c i=true
 | 0,e=>by rw [e];exact h
 | d+1,e=>by
  rw [e,show n+(d+1)=(n+d)+1 by omega,KV];exact Hv ws _ (Nd h d rfl)
def c0:Gr:=Gr.none.set 0 true
def I8(ws:List AB)(l:List Int):Prop:=∀i,i<l.length->Ec ws i c0 (l.getD i 0).toNat=true
theorem I8.snoc{l:List Int}{q:Int}(h:I8 ws l)(hq:Ec ws l.length c0 q.toNat=true):I8 ws (l++[q]):=λi hi=>by
 rw [List.length_append,List.length_singleton] at hi;rw [KL];by_cases e:i<l.length
 ·rw [if_pos e];exact h i e
 ·rw [if_neg e,show i=l.length by omega,Nat.sub_self];exact hq
theorem I8.step{l:List Int}(h:I8 ws l)(hk:k<l.length)(hx:x ∈ ws):I8 ws (DC l k x):=by
 have one:∀{l:List Int}{p q:Int},I8 ws l->k<l.length->(x.a=p/\x.b=q\/x.b=p/\x.a=q)->I8 ws (Iy l k p q):=by
  intro l p q h hk hpq;unfold Iy;split
  ·rename_i e
   have f:=h k hk;rw [<-e.1] at f;have g:Ec ws (k+1) c0 q.toNat=true:=by
    rw [KV];rcases hpq with ⟨rfl,rfl⟩ | ⟨rfl,rfl⟩
    ·exact (Jf ws _ hx (.inl f)).2
    ·exact (Jf ws _ hx (.inr f)).1
   exact h.snoc (Nd g (l.length-(k+1)) aA)
  ·exact h
 have h1:=one h hk (.inl ⟨rfl,rfl⟩);have hl:=(Lu l k x.a x.b).length_le;exact one h1 aA (.inr ⟨rfl,rfl⟩)
theorem I8.ways{l:List Int}(h:I8 ws l)(hk:k<l.length):∀j,j<=ws.length->I8 ws (Ak ws l k j)
 | 0,_=>h
 | j+1,hj=>(I8.ways h hk j aA).step (Nat.lt_of_lt_of_le hk (Iz j).length_le) (Bf aA)
theorem Nf:∀k,I8 ws (A0 ws k)
 | 0=>λi hi=>by
  have:i=0:=by
   have:i<1:=hi
   omega
  subst this;rfl
 | k+1=>by
  unfold A0;split
  ·rename_i e;exact (Nf k).ways e _ (Nat.le_refl _)
  ·exact Nf k
theorem UW(hn:0<np)(hw:Qh np ws)(h:¬(Hc ws).length<np):GV np ws=0:=by
 have ok:IS np (Hc ws):=Kx hn hw 4;have hl:=ok.len;have all:∀y,y<np->Ec ws np c0 y=true:=λy hy=>by
  have mem:(y:Int) ∈ Hc ws:=Decidable.byContradiction λe=>by
   have:=(ok.snoc (x:=(y:Int)) ⟨aA,aA⟩ e).len
   rw [List.length_append,List.length_singleton] at this;omega
  obtain ⟨i,hi,e⟩:=List.mem_iff_getElem.1 mem;have f:Ec ws i c0 ((Hc ws).getD i 0).toNat=true:=Nf (ws:=ws) 4 i hi;have e2:(Hc ws).getD i 0=(y:Int):=by
   rw [List.getD_eq_getElem?_getD,List.getElem?_eq_getElem hi];exact e
  rw [e2] at f;exact Nd f (np-i) (by have hi':i<(Hc ws).length:=hi;omega)
 unfold GV;rw [if_neg];intro e;obtain ⟨b,hb,hf⟩:=List.any_eq_true.1 e;unfold O0 at hb;obtain ⟨y,hy,rfl⟩:=List.mem_map.1 hb
 have:Ec ws np (Gr.none.set 0 true) y=true:=all y (List.mem_range.1 hy)
 rw [this] at hf;cases hf
end
section
variable {bag kinds:Int} {ps:List ByteArray} {ws:List AB} {js:List AM} {ns:List AJ}
theorem Xh(hn:0<ps.length)(h:Fv ps.length ws=0):FC ps.length ws=0:=by
 unfold Fv at h;split at h
 ·cases h
 ·rename_i a
  split at h
  ·rename_i b;exact absurd h b
  ·rename_i b
   split at h
   ·cases h
   ·rename_i c
    unfold FC;rw [if_neg a,if_neg b];have z:=DY (Decidable.not_not.1 b);exact UW hn (Xf λk hk=>z k (Nat.zero_le _) aA) c
theorem Vs(h:D9 bag kinds ps ws js ns=0):BX bag kinds ps ws js ns=0:=by
 unfold D9 at h;split at h
 ·rename_i a;exact absurd h a
 ·rename_i a
  split at h
  ·rename_i b;exact absurd h b
  ·rename_i b
   split at h
   ·rename_i c;exact absurd h c
   ·rename_i c
    split at h
    ·rename_i d;exact absurd h d
    ·rename_i d
     have h1:=Decidable.not_not.1 a;have h2:=Decidable.not_not.1 b;have h3:=Xh (KQ h2).1 (Decidable.not_not.1 c);have h4:=Decidable.not_not.1 d;unfold BX;refine CL (k:=5) (λj hj=>?_) (Nat.le_refl _)
     match j with
     | 0=>exact h1
     | 1=>exact h2
     | 2=>exact h3
     | 3=>exact h4
     | 4=>exact h
     | j+5=>omega
theorem fit9_ok(h:fit9 bag kinds ps ws js ns=true):BX bag kinds ps ws js ns=0/\∀k,(ps.getD k (⟨#[]⟩:ByteArray)).size<=1000:=by
 unfold fit9 at h;rw [Bool.and_eq_true] at h;exact ⟨Vs (of_decide_eq_true h.2),Mp (by simpa using h.1)⟩
end
end Go.Ns
namespace Go.Ns
open Go.Conc
section
variable {P:Program} {E:Gh P} {O:Nat->Value} {ds:List Deferred} {h:GH} {T:(Nat->Value)->List Deferred->GH->Prop} {dst:Option Nat} {ty:TypeId} {pos:String} {af:Array Edge} {gd:Option (Nat×Bool)}
end
section
variable {F G:AD->Int} {l:List AD} {x:AD}
theorem I9{k:Nat}:(l.drop 1).getD k AD.zero=l.getD (k+1) AD.zero:=by
 rw [List.getD_eq_getElem?_getD,List.getElem?_drop,<-List.getD_eq_getElem?_getD,Nat.add_comm]
end
section
variable {bag kinds:Int} {ps:List ByteArray} {ws:List AB} {js:List AM} {ns:List AJ} {a b c:Int}
theorem openB_09(bk:BX bag kinds ps ws js ns=0):(Ac bag kinds ps ws js ns 0=0/\0<(AE ws js ns).length)\/(Ac bag kinds ps ws js ns 0=9/\(AE ws js ns).length=0):=by
 unfold Ac;rw [if_neg (λe=>e bk),if_neg aD];by_cases e:(AE ws js ns).length=0
 ·rw [if_pos e];exact .inr ⟨rfl,e⟩
 ·rw [if_neg e];exact .inl ⟨rfl,aA⟩
end
section
variable {bag kinds:Int} {ps:List ByteArray} {ws:List AB} {js:List AM} {ns:List AJ} {a b c s:Int}
end
end Go.Ns
namespace Go.Ns
open Go.Conc
section
variable {P:Program} {Post:Value->World->Prop}
def Zs(P:Program)(Post:Value->World->Prop):Wk P:=⟨true,EH P Post,LH⟩
theorem UX:Lf (Zs P Post):=⟨Post,rfl⟩
theorem top_of_tr{f:FuncId}{fn:Func}{c:Code}{args:Array Value}{h:GH}{R:Value->GH->Prop}(hf:P.funcs[f]? =some fn)(hb:fn.body=some c)(hsz:args.size<=fn.ntmps)(hin:P.inits.idxOf? f=none)(hpost:∀v h',R v h'->∀w,EO w h'->Post v w)
  (x:Tr ⟨Zs P Post,f,none,fn.ntmps⟩ c (λi=>args.getD i undef) [] h (λe O ds h'=>(e=.normal\/e=.ret)/\Gi P fn O R ds h')):EH P Post (G (Frame.enter P f args .normal) []) h:=by
 have e0:Frame.enter P f args .normal=Cg (Frame.enter P f args .normal) (args++Array.replicate (fn.ntmps-args.size) undef) [] [.code c]:=by
  simp [Frame.enter,Cg,hf,hb]
 rw [e0];let L:Lv:=λj t ds h'=>(j=none\/j=some .ret)/\∃O,Ba t fn.ntmps O/\Gi P fn O R ds h';have fin:∀O ds h' t k,Ba t fn.ntmps O->Gi P fn O R ds h'->(Zs P Post).K (G (Ew (Frame.enter P f args .normal) t ds k) []) h':=by
  intro O ds h' t k hs ho;refine N3 (W:=Zs P Post) (R:=R) hf (b:=Frame.enter P f args .normal) rfl (λt k v h h' hr hrun=>?_) ds h' t k hs ho;refine Wq rfl λw fw=>?_;obtain ⟨w',es,r1,r2⟩:=hrun w fw;refine ⟨v,w',seen P f es++ #[],h',?_,r2.sub (es':=seen P f es++ #[]) λe he=>?_,hpost v h' hr w' r2.fits⟩
  ·rw [LU];unfold unwind;have hfn:(Ew (Frame.enter P f args .normal) t [] k).fn=f:=rfl;have hk:(Ew (Frame.enter P f args .normal) t [] k).kind=.normal:=rfl;have hm:(Ew (Frame.enter P f args .normal) t [] k).mode=.returning:=rfl;have hd:(Ew (Frame.enter P f args .normal) t [] k).defers=[]:=rfl;have ht:(Ew (Frame.enter P f args .normal) t [] k).tmps=t:=rfl;simp only [hd,hm,hfn,hf,ht,r1,GStep.after,doReturn,hk,hin];rfl
  ·rw [Array.append_empty] at he;exact mem_seen he
 refine x (Frame.enter P f args .normal) [] [] L _ rfl rfl ⟨?_,?_,?_⟩ ⟨by simp;omega,λi=>?_⟩ ?_
 ·rintro t ds h' ⟨_,O,hs,ho⟩;exact Wk.go (Ew (Frame.enter P f args .normal) t ds []) (λw=>by rw [A7];simp [stepG.exec,Cg,Ew,G,Frame.enter]) (fin O ds h' t [] hs ho)
 ·rintro t ds h' k ⟨_,O,hs,ho⟩;exact Wk.go (Ew (Frame.enter P f args .normal) t ds (.code .ret ::k)) (λw=>by rw [A7];simp [stepG.exec,Cg,Ew,G,Frame.enter]) (fin O ds h' t _ hs ho)
 ·rintro id t ds h' k _ ⟨h1 | h1,_⟩ <;> cases h1
 ·by_cases hi:i<args.size
  ·simp [Array.getD_eq_getD_getElem?,Array.getElem?_append_left hi]
  ·simp only [Array.getD_eq_getD_getElem?];rw [Array.getElem?_append_right aA,Array.getElem?_eq_none (show args.size<=i by omega),Array.getElem?_replicate];split <;> rfl
 ·rintro e O ds h' ⟨he,ho⟩ t' ht';rcases he with rfl | rfl
  ·exact Wk.go (Ew (Frame.enter P f args .normal) t' ds []) (λw=>by rw [A7];simp [stepG.exec,Cg,Ew,G,Frame.enter]) (fin O ds h' t' [] ht' ho)
  ·exact ⟨.inr rfl,O,ht',ho⟩
def GH.of(W:World):GH:=λb=>(W.heap[b]?).map λo=>(false,o)
theorem GH.of_some{W:World}{b:Nat}{o:Obj}(h:W.heap[b]? =some o):GH.of W b=some (false,o):=by unfold GH.of;rw [h];rfl
theorem fits_of(W:World):EO W (GH.of W):=λb p o h=>by
 unfold GH.of at h;cases e:W.heap[b]? with
 | none=>rw [e] at h;cases h
 | some x=>rw [e] at h;cases h;rfl
theorem kept_of{W w:World}{h:GH}(l:(GH.of W).Le h)(f:EO w h){b:Nat}{o:Obj}(hb:W.heap[b]? =some o):w.heap[b]? =some o:=f b _ _ (l.keep (GH.of_some hb) rfl)
theorem Xi{g:Goroutine}{W:World}(hg:EH P Post g (GH.of W)):Bu P (JL Post W.os W.output) (solo g W) #[]:=by
 have hno:∀k a,touchAt (#[]:Trace) k=some a->False:=λk a h=>by
  obtain ⟨op,h1,_⟩:=touch_of h;simp at h1
 refine hg #[g] W none (λ_=>0) #[] ⟨rfl,?_,fits_of W,?_,?_,λk a b hk=>(hno k a hk).elim,?_,λk a hk=>(hno k a hk).elim,λb p o k a _ _ hk=>(hno k a hk).elim⟩
 ·intro j x hj hx;rw [Array.getElem?_eq_none (by simp;omega)] at hx;cases hx
 ·intro op Ca;simp at Ca
 ·rintro said ⟨i,j,hij,⟨a,b,ha,_⟩,_⟩;exact hno i a ha
 ·intro op Ca;simp at Ca
end
end Go.Ns
namespace Go.Ns
open Go.Conc Go.ChangeShapes Go.WideShapes Go.ChangeAt Go.RowKit
section
variable {P:Program} {W:World}
theorem Xj{b off n:Nat}{cs:List Value}(h:W.cells? 0 ⟨b,off,none⟩ n=some cs)(hn:0<n):AX (GH.of W) b off n cs.toArray:=by
 obtain ⟨_,hl,hc⟩:=World.cells?_some h;have hcell:∀i,i<n->W.cell? ⟨b,off+i,none⟩=cs[i]? :=λi hi=>by
  have:=hc i hi
  unfold Addr.add at this;split at this
  ·rename_i e;subst e;exact this
  ·exact this
 have h0:=hcell 0 hn;unfold World.cell? at h0;cases hb:W.heap[b]? with
 | none=>simp [hb,List.getElem?_eq_getElem (show 0<cs.length by omega)] at h0
 | some o=>
  cases o with
  | cells c t f=>
   have hall:∀i,i<n->c[off+i]? =cs[i]? :=λi hi=>by
    have:=hcell i hi
    unfold World.cell? at this;simpa [hb] using this
   have hlast:=hall (n-1) aA;rw [List.getElem?_eq_getElem (show n-1<cs.length by omega)] at hlast;have hsz:=(Array.getElem?_eq_some_iff.1 hlast).1;refine ⟨false,c,t,f,GH.of_some hb,aA,?_⟩;apply Array.ext
   ·simp;omega
   ·intro i h1 h2;have hi:i<n:=by simp at h2;omega
    have:=hall i hi
    rw [Array.getElem?_eq_getElem aA,List.getElem?_eq_getElem aA] at this;simpa using this
  | _=>simp [hb,List.getElem?_eq_getElem (show 0<cs.length by omega)] at h0
def Ng(P:Program)(W:World)(e:TypeId){V:Type}(enc:V->Array Value)(good:V->Prop):Prop:=
 ∀{H:Type}(en:TypeId×Value->H)(sp:Nat->Bool)(held:Bool)(fuel:Nat)(cs:List Value)(x:DataW H×List MemPlace),DataW.trod en P W 0 sp held fuel e cs=some x->(∀y ∈ x.1.weights P e,y<=reachBytes)->∃a:V,cs=(enc a).toList/\good a
theorem KW{H:Type}{e:TypeId}{d:DataW H}{y:Nat}:∀{l:List (DataW H)},d ∈ l->y ∈ d.weights P e->y ∈ DataW.weightsAll P e l
 | c ::l,hd,hy=>by
  unfold DataW.weightsAll;rcases List.mem_cons.1 hd with rfl | hd
  ·exact List.mem_append_left _ hy
  ·exact List.mem_append_right _ (KW hd hy)
theorem JA{H:Type}{en:TypeId×Value->H}{sp:Nat->Bool}{held:Bool}{fuel:Nat}{t e:TypeId}{n:Nat}{V:Type}{enc:V->Array Value}{good:V->Prop}{v:Value}{d:DataW H}{ps:List MemPlace}(ht:P.underlying t=some (.slice e))(hc:P.cellsOf e=n)(hn:0<n)
  (hb:1<=P.bytesOf e) (ho:Ng P W e enc good) (h:DataW.trod en P W 0 sp held fuel t [v]=some (d,ps)) (hw:∀y ∈ d.weights P t,y<=reachBytes):∃xs:List V,AO (GH.of W) v n enc xs/\∀x ∈ xs,good x:=by
 rcases DataW.trod_slice ht h with ⟨h1,_⟩ | ⟨a,len,cap,elems,rest,m,rfl,h1,h2,_,hl,_,hlen,hel,_,_⟩
 ·simp at h1;subst h1;exact ⟨[],AO.nil _ _ _,λx hx=>by cases hx⟩
 ·simp only [List.cons.injEq,and_true] at h1;subst h1;simp only [Prod.mk.injEq] at h2;have hd:d=.slice (elems.map (·.1)) (rest.map (·.1)):=h2.1;have hlim:len<=140737488355328:=by
   have:=hw ((elems.map (·.1)).length+(rest.map (·.1)).length |>.mul (P.bytesOf e)) (by rw [hd];unfold DataW.weights;rw [ht];exact List.mem_cons_self ..)
   have h3:(elems.map (·.1)).length+(rest.map (·.1)).length<=((elems.map (·.1)).length+(rest.map (·.1)).length)*P.bytesOf e:=Nat.le_mul_of_pos_right _ hb;have h4:((elems.map (·.1)).length+(rest.map (·.1)).length)*P.bytesOf e<=reachBytes:=this;rw [List.length_map] at h3 h4;unfold reachBytes at h4;omega
  have each:∀i,i<len->∃x:V,∃b off,a=⟨b,off,none⟩/\AX (GH.of W) b (off+i*n) n (enc x)/\good x:=λi hi=>by
   have:=hel i hi
   rw [List.getElem?_eq_getElem aA,hc] at this;simp only [Option.bind_eq_some_iff] at this;obtain ⟨cs,hcs,hx⟩:=this;obtain ⟨x,e1,e2⟩:=ho _ _ _ _ _ _ hx λy hy=>hw y (by rw [hd];unfold DataW.weights;rw [ht];exact List.mem_cons_of_mem _ (List.mem_append_left _ (KW (List.mem_map.2 ⟨_,List.getElem_mem (show i<elems.length by omega),rfl⟩) hy)));have hc0:=(World.cells?_some hcs).2.2 0 hn;have hlen2:=(World.cells?_some hcs).2.1;rw [List.getElem?_eq_getElem (show 0<cs.length by omega)] at hc0;have hsp:=World.cell?_spot hc0;obtain ⟨b,off,spot⟩:=a;have hspot:spot=none\/i≠0:=by
    by_cases e0:i=0
    ·subst e0;left;simpa [Addr.add] using hsp
    ·exact .inr e0
   have hfirst:spot=none:=by
    rcases hspot with e | e
    ·exact e
    ·have h00:=hel 0 aA;rw [List.getElem?_eq_getElem aA,hc] at h00;simp only [Option.bind_eq_some_iff] at h00;obtain ⟨c0,hc00,_⟩:=h00;have z:=(World.cells?_some hc00).2.2 0 hn;have zl:=(World.cells?_some hc00).2.1;rw [List.getElem?_eq_getElem (show 0<c0.length by omega)] at z
     have:=World.cell?_spot z
     simpa [Addr.add] using this
   subst hfirst;refine ⟨x,b,off,rfl,?_,e2⟩;have ea:(Addr.add ⟨b,off,none⟩ (i*n))=⟨b,off+i*n,none⟩:=by
    unfold Addr.add;split
    ·rename_i e;rw [e];rfl
    ·rfl
   rw [ea] at hcs
   have:=Xj hcs hn
   rw [e1] at this;simpa using this
  by_cases hz:len=0
  ·subst hz;exact ⟨[],⟨some a,cap,rfl,Nat.zero_le _,Nat.zero_le _,λi hi=>by simp at hi⟩,λx hx=>by cases hx⟩
  ·have hch:∀i:Fin len,∃x:V,∃b off,a=⟨b,off,none⟩/\AX (GH.of W) b (off+i.val*n) n (enc x)/\good x:=λi=>each i.val i.isLt;refine ⟨List.ofFn λi=>Classical.choose (hch i),⟨some a,cap,by rw [List.length_ofFn],by rw [List.length_ofFn];exact hl,by rw [List.length_ofFn];exact hlim,λi hi=>?_⟩,λx hx=>?_⟩
   ·rw [List.length_ofFn] at hi;obtain ⟨b,off,e1,e2,_⟩:=Classical.choose_spec (hch ⟨i,hi⟩);refine ⟨b,off,by rw [e1],?_⟩;rw [List.getElem_ofFn];exact e2
   ·obtain ⟨i,rfl⟩:=List.mem_ofFn.1 hx;obtain ⟨_,_,_,_,e3⟩:=Classical.choose_spec (hch i);exact e3
theorem Nh{H:Type}{en:TypeId×Value->H}{t:TypeId}(hl:laidOutB P=true)(hr:P.readableRec t=true)(hrow:t<P.types.size){W':World}{v:Value}{d:DataW H}{ps:List MemPlace}(h:DataW.Trod en P W 0 (λ_=>true) true t v d ps)
  (hk:∀(b:Nat)(o:Obj),W.heap[b]? =some o->W'.heap[b]? =some o) (hlt:∀x ∈ ps,x.block<W.heap.size):DataW.Trod en P W' 0 (λb=>decide (b<W.heap.size)) true t v d ps:=by
 let W2:World:={ W' with os:=W.os,tape:=W.tape,output:=W.output };have hsz:W.heap.size<=W'.heap.size:=by
  rcases Nat.lt_or_ge W'.heap.size W.heap.size with x | x
  ·have:=hk W'.heap.size _ (Array.getElem?_eq_getElem x)
   rw [Array.getElem?_eq_none (Nat.le_refl _)] at this;cases this
  ·exact x
 have hb:Below W.heap.size W W2:=⟨rfl,rfl,rfl,hsz,λk hk'=>by
  show W'.heap[k]? =_;rw [Array.getElem?_eq_getElem hk'];exact hk k _ (Array.getElem?_eq_getElem hk')⟩
 exact DataW.Trod.of_heap (w:=W2) (w':=W') rfl (Below.trod hl hr hrow h hb hlt)
theorem kept_but{W':World}(hk:∀(b:Nat)(o:Obj),W.heap[b]? =some o->W'.heap[b]? =some o)(ho:W'.os=W.os)(hp:W'.output=W.output)(may:MemPlace->Prop):W.keptBut W' may:=by
 refine ⟨ho,hp,λi hi=>?_⟩;rw [hk i _ (Array.getElem?_eq_getElem hi),Array.getElem?_eq_getElem hi];split <;> simp_all
end
end Go.Ns
namespace Go.Ns
open Go.Conc
theorem Ly{P:Program}{E:Gh P}{O:Nat->Value}{ds:List Deferred}{h:GH}{T:(Nat->Value)->List Deferred->GH->Prop}{dst:Option Nat}{ty:TypeId}{pos:String}{af:Array Edge}{gd:Option (Nat×Bool)}{V:Type}
  {s x:TypeId} {o1 o2:Operand} {h0:GH} {w:Value} {r e n bytes:Nat} {enc:V->Array Value} {ys:List V} (ht:IZ P s x=some (e,n,bytes)) (h1:AR O o1=.slice (some ⟨r,0,none⟩) 0 0) (h2:AR O o2=w)
  (hv:AQ h0 h (.slice (some ⟨r,0,none⟩) 0 0) e n enc ([]:List V)) (hw:AO h w n enc ys) (l0:∀q,h q=none->h0 q=none) (hb:(2*(([]:List V).length+ys.length)+512)*bytes<=2 ^ 48) (hfine:∀y ∈ ys,(enc y).toList.all (·.oneCell')=true)
  (k:∀v' h',AQ h0 h' v' e n enc ys->GN h h' (.slice (some ⟨r,0,none⟩) 0 0) v'->h.Le h'->T (putS O dst v') ds h'):BT E ⟨dst,.call ⟨.builtin .append,#[o1,o2],#[s,x]⟩,ty,pos,af,gd⟩ O ds h T:=
 PZ ht h1 h2 hv hw l0 hb hfine λv' h' o g1 g2 g3=>k v' h' o ⟨g1,g2⟩ (.of λb y hb=>by
  by_cases e:b=r
  ·subst e;rcases hv with ⟨q,_⟩ | ⟨b1,cap,c,q,_,q2,q3,_⟩
   ·cases q
   ·simp only [Value.slice.injEq,Option.some.injEq,Addr.mk.injEq,and_true] at q;obtain ⟨rfl,_,rfl⟩:=q;obtain ⟨c',q5,q6⟩:=g3 b c rfl q2;rw [q2] at hb;cases hb;rw [q5,Array.eq_empty_of_size_eq_zero (show c.size=0 by omega),Array.eq_empty_of_size_eq_zero (show c'.size=0 by omega)]
  ·exact g1 b y hb λq=>e (by simpa [CV] using q.symm))
def Kz(n:Nat)(l:List Int):Prop:=l.Nodup/\∀x ∈ l,0<=x/\x<n
section
variable {n i:Nat} {l kn rest:List Int}
theorem Kz.at(h:Kz n l)(k:Nat)(hk:k<l.length):0<=l.getD k 0/\l.getD k 0<n:=h.2 _ (Bf hk)
theorem Kz.bell(h:Kz n l):Aj n l=0:=CL (k:=l.length) (λj hj=>by
 have r:=h.at j hj;have e:FV n (l.getD j 0)=0:=by unfold FV;rw [if_neg aA]
 unfold Hr;rw [if_neg (λq=>q e),if_neg];intro q;obtain ⟨x,hx,e2⟩:=List.any_eq_true.1 q;have e3:l.getD j 0=x:=of_decide_eq_true e2;obtain ⟨t,ht,e4⟩:=List.mem_iff_getElem.1 hx;rw [List.length_take] at ht;rw [List.getElem_take] at e4
 have:=(List.pairwise_iff_getElem.1 (List.nodup_iff_pairwise_ne.1 h.1)) t j aA hj aA
 rw [CX 0 hj] at e3;exact this (e4.trans e3.symm)) (Nat.le_refl _)
theorem Kz.len(h:Kz n l):l.length<=n:=H5 h.bell
theorem Kz.left(h:Kz n (kn++rest)):Kz n kn:=⟨(List.nodup_append.1 h.1).1,λx hx=>h.2 x (List.mem_append_left _ hx)⟩
theorem perm_out{l:List Int}:∀{i:Nat}(hi:i<l.length),([l[i]]++l.eraseIdx i).Perm l:=by
 induction l with
 | nil=>intro i hi;cases hi
 | cons x l ih=>
  intro i hi;cases i with
  | zero=>exact List.Perm.refl _
  | succ i=>exact (List.Perm.swap _ _ _).trans ((ih (Nat.lt_of_succ_lt_succ hi)).cons x)
theorem Kz.next(h:Kz n (kn++rest))(hi:i<rest.length):Kz n (kn++[rest.getD i 0]++rest.eraseIdx i):=by
 have p:(kn++[rest.getD i 0]++rest.eraseIdx i).Perm (kn++rest):=by
  rw [List.append_assoc];refine List.Perm.append_left kn ?_;rw [CX 0 hi];exact perm_out hi
 exact ⟨p.nodup_iff.2 h.1,λx hx=>h.2 x (p.mem_iff.1 hx)⟩
theorem Kz.first(n:Nat):Kz n (Cq n):=by
 induction n with
 | zero=>exact ⟨List.nodup_nil,λx hx=>by cases hx⟩
 | succ n ih=>
  have m:∀x ∈ Cq n,0<=x/\x<(n:Int):=ih.2;refine ⟨List.nodup_append.2 ⟨ih.1,aD,λa ha b hb e=>?_⟩,λx hx=>?_⟩
  ·rw [List.mem_singleton.1 hb] at e
   have:=m a ha
   omega
  ·rcases List.mem_append.1 hx with hx | hx
   ·have:=m x hx
    omega
   ·rw [List.mem_singleton.1 hx];omega
end
def FY:Nat->Nat
 | 0=>1
 | n+1=>1+(n+1)*FY n
theorem Ql:∀n,n<=4->FY n<=65
 | 0,_=>aC
 | 1,_=>aC
 | 2,_=>aC
 | 3,_=>aC
 | 4,_=>aC
 | n+5,h=>aA
theorem Xk{n i:Nat}(hn:n<=4)(hi:i<=n):1+i*FY (n-1)<=65:=by
 rcases Nat.eq_zero_or_pos n with e | e
 ·subst e
  have:i=0:=aA
  subst this;decide
 ·have h:=Ql n hn;have e2:FY n=1+n*FY (n-1):=by
   cases n with
   | zero=>omega
   | succ n=>rfl
  have:=Nat.mul_le_mul_right (FY (n-1)) hi
  omega
theorem Vt{n i:Nat}(hi:i=n){m:Nat}(h:m<=1+i*FY (n-1)):m<=FY n:=by
 subst hi;cases i with
 | zero=>simp at h;exact h
 | succ i=>exact h
def Hi(n:Nat)(xl:List Sl):Prop:=∀x ∈ xl,Kz n x.2
section
variable {n:Nat} {a b:List Sl}
theorem Hi.app(ha:Hi n a)(hb:Hi n b):Hi n (a++b):=λx hx=>(List.mem_append.1 hx).elim (ha x) (hb x)
theorem Hi.one{v:Value}{l:List Int}(h:Kz n l):Hi n [(v,l)]:=λx hx=>by rw [List.mem_singleton.1 hx];exact h
theorem Hi.at(h:Hi n a){k:Nat}(hk:k<a.length):Kz n (a.getD k Sl.z).2:=h _ (Bf hk)
end
section
variable {l:List Int} {i q:Nat}
end
section
variable {bag kinds:Int} {ps:List ByteArray} {ws:List AB} {js:List AM} {ns:List AJ} {l:List Int} {p:AD} {i:Nat}
end
section
variable {F G:AD->Int} {l:List AD}
end
section
variable {bag kinds:Int} {ps:List ByteArray} {ws:List AB} {js:List AM} {ns:List AJ} {l:List Int} {i k:Nat}
theorem Qm(np:Nat)(pq:List AD):∀q i,i<q->(Hb np ws js pq l q).getD i (0,0)=(endLo np ws js pq l i,Zk np ws js pq l i)
 | 0,i,h=>absurd h (Nat.not_lt_zero _)
 | q+1,i,h=>by
  have hl:=JY np ws js pq l q;rw [Hb,List.getD_eq_getElem?_getD];by_cases e:i<q
  ·rw [List.getElem?_append_left aA,<-List.getD_eq_getElem?_getD];exact Qm np pq q i e
  ·have e2:i=q:=aA
   subst e2;rw [List.getElem?_append_right aA,hl,Nat.sub_self];rfl
end
end Go.Ns
namespace Go.Ns
def wA(ws:List AB)(k:Nat):Nat:=(ws.getD k AB.z).a.toNat
def wB(ws:List AB)(k:Nat):Nat:=(ws.getD k AB.z).b.toNat
def Mr(ws:List AB)(p:AD)(u v:Nat)(w:Int):Prop:=∃k,k<ws.length/\(wA ws k=u/\wB ws k=v\/wA ws k=v/\wB ws k=u)/\w=p.ways k
inductive MD (ws:List AB) (p:AD) (x:Nat):Nat->Nat->Int->Prop
 | nil:MD ws p x 0 x 0
 | step {k u v:Nat} {d w:Int}:MD ws p x k u d->Mr ws p u v w->MD ws p x (k+1) v (d+w)
section
variable {ws:List AB} {p:AD} {x y z u v k l np:Nat} {d e w:Int}
theorem Mr.symm(h:Mr ws p u v w):Mr ws p v u w:=by
 obtain ⟨k,h1,h2,h3⟩:=h;exact ⟨k,h1,h2.symm,h3⟩
theorem MD.append(h:MD ws p x k y d)(g:MD ws p y l z e):MD ws p x (k+l) z (d+e):=by
 induction g with
 | nil=>rw [Int.add_zero];exact h
 | step _ c ih=>
  have:=ih.step c
  rwa [Int.add_assoc,Nat.add_assoc] at this
theorem MD.symm(h:MD ws p x k y d):MD ws p y k x d:=by
 induction h with
 | nil=>exact .nil
 | @step k u v d w _ c ih=>
  have:=(MD.step (.nil (x:=v)) c.symm).append ih
  rw [Int.zero_add] at this
  rwa [Nat.add_comm k 1,Int.add_comm d w]
theorem MD.le(hp:BJ p)(h:MD ws p x k y d):0<=d/\d<=30*(k:Int):=by
 induction h with
 | nil=>exact ⟨Int.le_refl _,Int.le_refl _⟩
 | step _ c ih=>
  obtain ⟨q,_,_,rfl⟩:=c
  have:=hp.ways q
  omega
theorem Ca{Q:Nat->Nat->Prop}(hQ:∀k v,v<np->Q (k+1) v->∃u,u<np/\Q k u/\∀j,Q j u->Q (j+1) v)(hv:v<np)(h:Q k v):∃j,j<np/\Q j v:=by
 have low:∀k v,v<np->Q k v->∃j,Q j v/\∀i,i<j->¬Q i v:=by
  intro k
  induction k using Nat.strongRecOn with
  | _ k ih=>
   intro v hv h;by_cases c:∃i,i<k/\Q i v
   ·obtain ⟨i,h1,h2⟩:=c;exact ih i h1 v hv h2
   ·exact ⟨k,h,λi hi q=>c ⟨i,hi,q⟩⟩
 have chain:∀j v,v<np->Q j v->(∀i,i<j->¬Q i v)->∃f:Nat->Nat,∀i,i<=j->f i<np/\Q i (f i)/\∀t,t<i->¬Q t (f i):=by
  intro j
  induction j with
  | zero=>exact λv hv h _=>⟨λ_=>v,λi hi=>by rw [show i=0 by omega];exact ⟨hv,h,λt ht=>absurd ht (Nat.not_lt_zero _)⟩⟩
  | succ j ih=>
   intro v hv h hm;obtain ⟨u,hu,h1,h2⟩:=hQ j v hv h;obtain ⟨f,hf⟩:=ih u hu h1 λi hi q=>hm (i+1) aA (h2 i q);refine ⟨λi=>if i=j+1 then v else f i,λi hi=>?_⟩;by_cases e:i=j+1
   ·subst e;simp only [if_true];exact ⟨hv,h,hm⟩
   ·simp only [if_neg e];exact hf i aA
 obtain ⟨j,h1,h2⟩:=low k v hv h;obtain ⟨f,hf⟩:=chain j v hv h1 h2
 have:=UI np (j+1) f (λi hi=>(hf i aA).1) λi t hit ht e=>by
  have a:=(hf i aA).2.1;rw [e] at a;exact (hf t aA).2.2 i hit a
 exact ⟨j,aA,h1⟩
end
section
variable {bag kinds:Int} {ps:List ByteArray} {ws:List AB} {js:List AM} {ns:List AJ} {p:AD} {x y v k n:Nat} {d w:Int}
theorem Ms(bk:A6 bag kinds ps ws js ns){u:Nat}(h:Mr ws p u v w):u<ps.length/\v<ps.length:=by
 obtain ⟨k,hk,h2,_⟩:=h;have o:=IK bk.way k hk;have h3:=o.a;have h4:=o.b;unfold wA wB at h2;omega
theorem Mt(bk:A6 bag kinds ps ws js ns)(hp:BJ p){u:Nat}(h:Mr ws p u v w):Aw ps.length ws p u v<=w:=by
 obtain ⟨k,hk,h2,rfl⟩:=h
 have:=Xg (np:=ps.length) hp (Ig bk.way) hk
 have s:=(G0 (np:=ps.length) hp (Ig bk.way)).s.sym u v;unfold wA wB at h2;rcases h2 with ⟨rfl,rfl⟩ | ⟨rfl,rfl⟩
 ·exact this
 ·rw [s];exact this
theorem Zt(bk:A6 bag kinds ps ws js ns)(hp:BJ p)(hx:x<ps.length)(h:MD ws p x k v d):Aw ps.length ws p x v<=d:=by
 have fw:=G0 (np:=ps.length) hp (Ig bk.way)
 induction h with
 | nil=>rw [fw.s.diag];exact Int.le_refl _
 | @step k u v d w h0 c ih=>
  have r:=Ms bk c;have t:=fw.tri u r.1 x v hx r.2
  have:=Mt bk hp c
  omega
theorem Vu(bk:A6 bag kinds ps ws js ns):∀n,n<=ws.length->∀x y,x<4->y<4->A3 p ws n x y<1048576->∃k,MD ws p x k y (A3 p ws n x y)
 | 0,_,x,y,hx,hy,h=>by
  have e:A3 p ws 0 x y=Iv 4 x y:=rfl;rw [e,KR] at h ⊢;by_cases c:x<4/\y<4/\x≠y
  ·rw [if_pos c] at h;omega
  ·rw [if_neg c]
   have:x=y:=Decidable.byContradiction λq=>c ⟨hx,hy,q⟩
   subst this;exact ⟨0,.nil⟩
 | n+1,hn,x,y,hx,hy,h=>by
  have r:=(Ig bk.way).rng n aA;have e:A3 p ws (n+1)=KJ p ws (A3 p ws n) n:=Av _ _ _;rw [e,Lx _ _ _ _ aA] at h ⊢;by_cases c:(x=(ws.getD n AB.z).a.toNat/\y=(ws.getD n AB.z).b.toNat)\/(x=(ws.getD n AB.z).b.toNat/\y=(ws.getD n AB.z).a.toNat)
  ·rw [if_pos c]
   have:=MD.step (.nil (ws:=ws) (p:=p) (x:=x)) (v:=y) (w:=p.ways n) ⟨n,aA,by unfold wA wB;omega,rfl⟩
   rw [Int.zero_add] at this;exact ⟨1,this⟩
  ·rw [if_neg c] at h ⊢;exact Vu bk n aA x y hx hy h
theorem Vv(bk:A6 bag kinds ps ws js ns)(hp:BJ p):∀n,n<=ps.length->∀x y,x<ps.length->y<ps.length->Cf ps.length (A3 p ws ws.length) n x y<1048576->∃k,MD ws p x k y (Cf ps.length (A3 p ws ws.length) n x y)
 | 0,_,x,y,hx,hy,h=>Vu bk ws.length (Nat.le_refl _) x y (by have:=bk.plen;omega) (by have:=bk.plen;omega) h
 | n+1,hn,x,y,hx,hy,h=>by
  have ih:=Vv bk hp n aA;have s:=(FW.all (KT hp (Ig bk.way) ws.length (Nat.le_refl _)) n (show n<=ps.length by omega)).s;have e:Cf ps.length (A3 p ws ws.length) (n+1)=E1 n ps.length (Cf ps.length (A3 p ws ws.length) n) ps.length:=Av _ _ _;have g:=Qj (np:=ps.length) n (Cf ps.length (A3 p ws ws.length) n) (s.diag n) s.ok ps.length x y;rw [if_pos ⟨hx,hy⟩] at g;rw [e,g] at h ⊢;have o1:=s.ok x n;have o2:=s.ok n y;rcases Int.le_total (Cf ps.length (A3 p ws ws.length) n x y) (Cf ps.length (A3 p ws ws.length) n x n+Cf ps.length (A3 p ws ws.length) n n y) with c | c
  ·rw [Int.min_eq_left c] at h ⊢;exact ih x y hx hy h
  ·rw [Int.min_eq_right c] at h ⊢;obtain ⟨k,a⟩:=ih x n hx aA aA;obtain ⟨l,b⟩:=ih n y aA hy aA;exact ⟨_,a.append b⟩
theorem Vw(bk:A6 bag kinds ps ws js ns)(hv:v<ps.length):∃k d,MD ws p 0 k v d:=by
 have one:∀(c:Gr)(a:AB),a ∈ ws->(∀i,c i=true->∃k d,MD ws p 0 k i d)->∀i,GU c a i=true->∃k d,MD ws p 0 k i d:=by
  intro c a ha hc;obtain ⟨q,hq,ea⟩:=List.mem_iff_getElem.1 ha;have ed:Mr ws p a.a.toNat a.b.toNat (p.ways q):=⟨q,hq,.inl (by unfold wA wB;rw [CX AB.z hq,ea];exact ⟨rfl,rfl⟩),rfl⟩;have both:(c a.a.toNat || c a.b.toNat)=true->(∃k d,MD ws p 0 k a.a.toNat d)/\∃k d,MD ws p 0 k a.b.toNat d:=λh=>by
   rcases Bool.or_eq_true_iff.1 h with h | h
   ·obtain ⟨k,d,t⟩:=hc _ h;exact ⟨⟨k,d,t⟩,_,_,t.step ed⟩
   ·obtain ⟨k,d,t⟩:=hc _ h;exact ⟨⟨_,_,t.step ed.symm⟩,k,d,t⟩
  intro i hi;unfold GU Gr.set at hi;by_cases e:i=a.b.toNat
  ·rw [if_pos e] at hi;rw [e];by_cases e2:a.b.toNat=a.a.toNat
   ·rw [if_pos e2,if_pos rfl,Bool.or_self] at hi;exact (both hi).2
   ·rw [if_neg e2,if_pos rfl] at hi;rcases Bool.or_eq_true_iff.1 hi with h | h
    ·exact hc _ h
    ·exact (both h).2
  ·rw [if_neg e] at hi;by_cases e2:i=a.a.toNat
   ·rw [if_pos e2] at hi;rw [e2];exact (both hi).1
   ·rw [if_neg e2] at hi;exact hc i hi
 have fold:∀(l:List AB)(c:Gr),(∀a ∈ l,a ∈ ws)->(∀i,c i=true->∃k d,MD ws p 0 k i d)->∀i,l.foldl GU c i=true->∃k d,MD ws p 0 k i d:=by
  intro l
  induction l with
  | nil=>exact λc _ hc=>hc
  | cons a l ih=>exact λc hl hc=>ih _ (λb hb=>hl b (List.mem_cons_of_mem _ hb)) (one c a (hl a List.mem_cons_self) hc)
 have all:∀n (c:Gr),(∀i,c i=true->∃k d,MD ws p 0 k i d)->∀i,Ec ws n c i=true->∃k d,MD ws p 0 k i d:=by
  intro n
  induction n with
  | zero=>exact λc hc=>hc
  | succ n ih=>exact λc hc=>ih _ (fold ws c (λa ha=>ha) hc)
 have led:=bk.led;unfold GV at led;split at led
 ·cases led
 ·rename_i q
  refine all ps.length (Gr.none.set 0 true) (λi hi=>?_) v ?_
  ·unfold Gr.set Gr.none at hi;by_cases e:i=0
   ·subst e;exact ⟨0,0,.nil⟩
   ·rw [if_neg e] at hi;cases hi
  ·refine Decidable.byContradiction λc=>q (List.any_eq_true.2 ⟨Ec ws ps.length (Gr.none.set 0 true) v,?_,?_⟩)
   ·unfold O0;exact List.mem_map.2 ⟨v,List.mem_range.2 hv,rfl⟩
   ·rw [Bool.eq_false_iff.2 c];rfl
theorem Sf(bk:A6 bag kinds ps ws js ns)(hp:BJ p)(hx:x<ps.length)(hv:v<ps.length):∃k,k<ps.length/\MD ws p x k v (Aw ps.length ws p x v):=by
 have np4:=bk.plen;have fw:=G0 (np:=ps.length) hp (Ig bk.way);have small:Aw ps.length ws p x v<1048576:=by
  obtain ⟨k,d,t⟩:=Vw (p:=p) bk hx;obtain ⟨l,e,t2⟩:=Vw (p:=p) bk hv;obtain ⟨j,hj,d2,t3⟩:=Ca (Q:=λk v=>∃d,MD ws p x k v d) (np:=ps.length) (λk v _ ⟨d,t⟩=>by
   cases t with
   | @step _ u _ d w t c=>exact ⟨u,(Ms bk c).1,⟨_,t⟩,λj ⟨d,t⟩=>⟨_,t.step c⟩⟩) hv (k:=k+l) ⟨_,t.symm.append t2⟩
  have a:=Zt bk hp hx t3;have b:=t3.le hp;omega
 obtain ⟨k,t⟩:=Vv bk hp ps.length (Nat.le_refl _) x v hx hv small;refine Ca (Q:=λk v=>MD ws p x k v (Aw ps.length ws p x v)) (np:=ps.length) (λk v hv2 t=>?_) hv t;generalize hd:Aw ps.length ws p x v=D at t;cases t with
 | @step _ u _ d w t c=>
  have r:=Ms bk c;have a:=Zt bk hp hx t;have b:=Mt bk hp c;have tr:=fw.tri u r.1 x v hx hv2;have e:Aw ps.length ws p x u=d:=aA
  exact ⟨u,r.1,by rw [e];exact t,λj t2=>by
   have:=t2.step c
   rw [e] at this;exact this⟩
def KX(o:Nat->Int)(i:Nat)(v:Int):Nat->Int:=λj=>if j=i then v else o j
def Jz(ws:List AB)(p:AD)(o:Nat->Int)(k:Nat):Nat->Int:=
 KX (KX o (wA ws k) (min (o (wA ws k)) (o (wB ws k)+p.ways k))) (wB ws k) (min (KX o (wA ws k) (min (o (wA ws k)) (o (wB ws k)+p.ways k)) (wB ws k)) (KX o (wA ws k) (min (o (wA ws k)) (o (wB ws k)+p.ways k)) (wA ws k)+p.ways k))
def Dq(ws:List AB)(p:AD)(o:Nat->Int):Nat->Nat->Int
 | 0=>o
 | n+1=>Jz ws p (Dq ws p o n) n
def Dc(ws:List AB)(p:AD)(o:Nat->Int):Nat->Nat->Int
 | 0=>o
 | r+1=>Dq ws p (Dc ws p o r) ws.length
def DK(np x:Nat):Nat->Int:=λv=>if v=x then 0 else 30*(np:Int)
theorem Vx(o:Nat->Int)(k v:Nat):Jz ws p o k v<=o v:=by
 unfold Jz KX;by_cases h:v=wB ws k
 ·rw [if_pos h];by_cases h2:wB ws k=wA ws k
  ·rw [if_pos h2,if_pos rfl,h,h2];omega
  ·rw [if_neg h2,h];omega
 ·rw [if_neg h];by_cases h2:v=wA ws k
  ·rw [if_pos h2,h2];omega
  ·rw [if_neg h2];exact Int.le_refl _
theorem bfWay_a(o:Nat->Int)(k:Nat):Jz ws p o k (wA ws k)<=o (wB ws k)+p.ways k/\Jz ws p o k (wB ws k)<=o (wA ws k)+p.ways k:=by
 unfold Jz KX;rw [if_pos rfl,if_pos rfl];by_cases h:wA ws k=wB ws k
 ·rw [if_pos h,if_pos h.symm];omega
 ·rw [if_neg h,if_neg (λq=>h q.symm)];omega
theorem Xl(o:Nat->Int)(v:Nat):∀n,Dq ws p o n v<=o v
 | 0=>Int.le_refl _
 | n+1=>Int.le_trans (Vx _ _ _) (Xl o v n)
theorem Vy(o:Nat->Int)(v:Nat):∀d n,Dq ws p o (n+d) v<=Dq ws p o n v
 | 0,n=>Int.le_refl _
 | d+1,n=>Int.le_trans (Vx _ _ _) (Vy o v d n)
theorem bfR_edge(o:Nat->Int){u:Nat}(h:Mr ws p u v w):Dq ws p o ws.length v<=o u+w:=by
 obtain ⟨k,hk,h2,rfl⟩:=h;have m:=Vy (ws:=ws) (p:=p) o v (ws.length-(k+1)) (k+1);rw [show k+1+(ws.length-(k+1))=ws.length by omega] at m;refine Int.le_trans m ?_;have a:=bfWay_a (ws:=ws) (p:=p) (Dq ws p o k) k;have l:=Xl (ws:=ws) (p:=p) o u k;show Jz ws p (Dq ws p o k) k v<=_;rcases h2 with ⟨rfl,rfl⟩ | ⟨rfl,rfl⟩
 ·have:=a.2;omega
 ·have:=a.1;omega
theorem bfN_walk(np:Nat)(h:MD ws p x k v d):Dc ws p (DK np x) k v<=d:=by
 induction h with
 | nil=>show DK np x x<=0;unfold DK;rw [if_pos rfl];exact Int.le_refl _
 | step _ c ih=>exact Int.le_trans (bfR_edge _ c) aA
theorem Vz(o:Nat->Int)(v:Nat):∀d r,Dc ws p o (r+d) v<=Dc ws p o r v
 | 0,r=>Int.le_refl _
 | d+1,r=>Int.le_trans (Xl _ _ _) (Vz o v d r)
theorem bfWay_ge(bk:A6 bag kinds ps ws js ns)(hp:BJ p)(hx:x<ps.length){o:Nat->Int}(h:∀v,v<ps.length->Aw ps.length ws p x v<=o v)(hk:k<ws.length):∀v,v<ps.length->Aw ps.length ws p x v<=Jz ws p o k v:=by
 have fw:=G0 (np:=ps.length) hp (Ig bk.way);have ed:Mr ws p (wA ws k) (wB ws k) (p.ways k):=⟨k,hk,.inl ⟨rfl,rfl⟩,rfl⟩;have r:=Ms bk ed;have e1:=Mt bk hp ed;have e2:=Mt bk hp ed.symm;have t1:=fw.tri (wB ws k) r.2 x (wA ws k) hx r.1;have t2:=fw.tri (wA ws k) r.1 x (wB ws k) hx r.2;have a:=h _ r.1;have b:=h _ r.2;intro v hv;unfold Jz KX;by_cases c:v=wB ws k
 ·rw [if_pos c,if_pos rfl,c];by_cases c2:wB ws k=wA ws k
  ·have a':Aw ps.length ws p x (wB ws k)<=o (wA ws k):=by rw [c2];exact a
   have w0:=hp.ways k;rw [if_pos c2];omega
  ·rw [if_neg c2];omega
 ·rw [if_neg c];by_cases c2:v=wA ws k
  ·rw [if_pos c2,c2];omega
  ·rw [if_neg c2];exact h v hv
theorem bfN_ge(bk:A6 bag kinds ps ws js ns)(hp:BJ p)(hx:x<ps.length):∀r v,v<ps.length->Aw ps.length ws p x v<=Dc ws p (DK ps.length x) r v
 | 0,v,hv=>by
  show _<=DK ps.length x v;unfold DK;by_cases c:v=x
  ·rw [if_pos c,c,(G0 (np:=ps.length) hp (Ig bk.way)).s.diag];exact Int.le_refl _
  ·rw [if_neg c];obtain ⟨k,hk,t⟩:=Sf bk hp hx hv
   have:=t.le hp
   omega
 | r+1,v,hv=>by
  have ih:=bfN_ge bk hp hx r
  have:∀n,n<=ws.length->∀v,v<ps.length->Aw ps.length ws p x v<=Dq ws p (Dc ws p (DK ps.length x) r) n v:=by
   intro n
   induction n with
   | zero=>exact λ_=>ih
   | succ n ihn=>exact λhn=>bfWay_ge bk hp hx (ihn aA) aA
  exact this ws.length (Nat.le_refl _) v hv
theorem bf_far(bk:A6 bag kinds ps ws js ns)(hp:BJ p)(hx:x<ps.length)(hv:v<ps.length):Dc ws p (DK ps.length x) ps.length v=Aw ps.length ws p x v:=by
 refine Int.le_antisymm ?_ (bfN_ge bk hp hx _ v hv);obtain ⟨k,hk,t⟩:=Sf bk hp hx hv;have m:=Vz (ws:=ws) (p:=p) (DK ps.length x) v (ps.length-k) k;rw [show k+(ps.length-k)=ps.length by omega] at m;exact Int.le_trans m (bfN_walk _ t)
end
end Go.Ns
namespace Go.Ns
def dfs(S:Nat->Int×Int):Nat->Nat->List (List Int)
 | 0,_=>[[]]
 | f+1,i=>(EN (S i).1 (S i).2).flatMap λn=>(dfs S f (i+1)).map λs=>n ::s
def B0(S:Nat->Int×Int):Nat->List (List Int)
 | 0=>[[]]
 | i+1=>(B0 S i).flatMap λx=>(EN (S i).1 (S i).2).map λn=>x++[n]
section
variable {S:Nat->Int×Int}
theorem V0:∀f i,dfs S (f+1) i=(dfs S f i).flatMap λx=>(EN (S (i+f)).1 (S (i+f)).2).map λn=>x++[n]
 | 0,i=>by
  show (EN (S i).1 (S i).2).flatMap (λn=>[[n]])=[[]].flatMap _;rw [List.flatMap_cons,List.flatMap_nil,List.append_nil,Nat.add_zero,List.map_eq_flatMap];rfl
 | f+1,i=>by
  have ih:=V0 f (i+1);show (EN (S i).1 (S i).2).flatMap (λn=>(dfs S (f+1) (i+1)).map λs=>n ::s)=((EN (S i).1 (S i).2).flatMap λn=>(dfs S f (i+1)).map λs=>n ::s).flatMap _;rw [List.flatMap_assoc];congr 1;funext n;rw [ih,List.map_flatMap,List.flatMap_map];congr 1;funext s;rw [List.map_map,show i+1+f=i+(f+1) by omega];rfl
theorem Qn:∀m,B0 S m=dfs S m 0
 | 0=>rfl
 | m+1=>by
  rw [V0,<-Qn m,Nat.zero_add];rfl
end
def Du(w k:List Int):AD:=⟨λi=>w.getD i 0,λi=>k.getD i 0⟩
def Mu(p:AD)(i:Nat)(s:List Int):AD:={ p with ways:=λk=>if i<=k/\k<i+s.length then s.getD (k-i) 0 else p.ways k }
def Mw(p:AD)(i:Nat)(s:List Int):AD:={ p with works:=λk=>if i<=k/\k<i+s.length then s.getD (k-i) 0 else p.works k }
theorem V1{f:Nat->Int}{i n:Nat}{v:Int}{s:List Int}:(λk=>if i<=k/\k<i+(v ::s).length then (v ::s).getD (k-i) 0 else f k)=λk=>if i+1<=k/\k<i+1+s.length then s.getD (k-(i+1)) 0 else if k=i then v else f k:=by
 funext k;by_cases h1:k=i
 ·subst h1;rw [if_pos aD,if_neg aA,if_pos rfl,Nat.sub_self];rfl
 ·by_cases h2:i+1<=k/\k<i+1+s.length
  ·rw [if_pos h2,if_pos (by simp only [List.length_cons];omega),show k-i=(k-(i+1))+1 by omega];rfl
  ·rw [if_neg h2,if_neg (by simp only [List.length_cons];omega),if_neg h1]
theorem Qo{p:AD}{nw i:Nat}{v:Int}{s:List Int}(h:i<nw):Mu p i (v ::s)=Mu (p.put nw i v) (i+1) s:=by
 unfold Mu AD.put;rw [if_pos h,V1 (n:=0)];rfl
theorem Xm{p:AD}{nw i:Nat}{v:Int}{s:List Int}(h:nw<=i):Mw p (i-nw) (v ::s)=Mw (p.put nw i v) (i+1-nw) s:=by
 unfold Mw AD.put;rw [if_neg aA,V1 (n:=0),show i-nw+1=i+1-nw by omega];rfl
theorem Sg(p:AD)(i:Nat):Mu p i []=p:=by
 unfold Mu
 have:(λk=>if i<=k/\k<i+([]:List Int).length then ([]:List Int).getD (k-i) 0 else p.ways k)=p.ways:=funext λk=>if_neg aD
 rw [this]
theorem putsK_nil(p:AD)(i:Nat):Mw p i []=p:=by
 unfold Mw
 have:(λk=>if i<=k/\k<i+([]:List Int).length then ([]:List Int).getD (k-i) 0 else p.works k)=p.works:=funext λk=>if_neg aD
 rw [this]
def Fw(ws:List AB)(k:Nat):Int×Int:=((ws.getD k AB.z).low,(ws.getD k AB.z).high)
def IT(js:List AM)(k:Nat):Int×Int:=((js.getD k AM.z).low,(js.getD k AM.z).high)
section
variable {ws:List AB} {js:List AM} {ns:List AJ} {ag:AD->Bool}
theorem Sh:∀(f i:Nat)(p:AD),ws.length<=i->CJ ag ws js f i p=(dfs (IT js) f (i-ws.length)).map (Mw p (i-ws.length))
 | 0,i,p,_=>by
  show [p]=[[]].map _;rw [List.map_singleton,putsK_nil]
 | f+1,i,p,h=>by
  rw [EM];have e1:CQ ws js i=(IT js (i-ws.length)).1:=if_neg aA;have e2:GC ws js i=(IT js (i-ws.length)).2:=if_neg aA;show _=((EN _ _).flatMap _).map _;rw [e1,e2,List.map_flatMap];congr 1;funext n;unfold B9;rw [if_neg aA,Sh f (i+1) _ aA,List.map_map,show i+1-ws.length=i-ws.length+1 by omega];congr 1;funext s;show _=Mw p (i-ws.length) (n ::s);rw [Xm h,show i+1-ws.length=i-ws.length+1 by omega]
theorem Oe{V β:Type}(q:V->Bool)(F:V->List β):∀l:List V,(l.filter q).flatMap F=l.flatMap λx=>if q x=true then F x else []
 | []=>rfl
 | x ::l=>by
  rw [List.filter_cons,List.flatMap_cons,<-Oe q F l];by_cases h:q x=true
  ·rw [if_pos h,if_pos h,List.flatMap_cons]
  ·rw [if_neg h,if_neg h,List.nil_append]
theorem V2:∀(f i:Nat)(p:AD),i+(f+1)=ws.length->CJ ag ws js (f+1+js.length) i p=(dfs (Fw ws) (f+1) i).flatMap λs=>if ag (Mu p i s)=true then CJ ag ws js js.length ws.length (Mu p i s) else []
 | 0,i,p,h=>by
  rw [show 0+1+js.length=js.length+1 by omega,EM];have e1:CQ ws js i=(Fw ws i).1:=if_pos aA;have e2:GC ws js i=(Fw ws i).2:=if_pos aA;show _=((EN _ _).flatMap λn=>[[n]]).flatMap _;rw [e1,e2,List.flatMap_assoc];congr 1;funext n;rw [List.flatMap_cons,List.flatMap_nil,List.append_nil,Qo (nw:=ws.length) aA,Sg];unfold B9;cases hb:ag (p.put ws.length i n) with
  | false=>rw [if_pos ⟨aA,rfl⟩];rfl
  | true=>rw [if_neg (λq=>by cases q.2),if_pos rfl,show i+1=ws.length by omega]
 | f+1,i,p,h=>by
  rw [show f+1+1+js.length=(f+1+js.length)+1 by omega,EM];have e1:CQ ws js i=(Fw ws i).1:=if_pos aA;have e2:GC ws js i=(Fw ws i).2:=if_pos aA;show _=((EN _ _).flatMap λn=>(dfs (Fw ws) (f+1) (i+1)).map λs=>n ::s).flatMap _;rw [e1,e2,List.flatMap_assoc];congr 1;funext n;unfold B9;rw [if_neg (λq=>aA),V2 f (i+1) _ aA,List.flatMap_map];congr 1;funext s;rw [Qo (nw:=ws.length) aA]
def I0(ws:List AB)(js:List AM)(ns:List AJ):List (List Int×List Int):=
 ((B0 (Fw ws) ws.length).filter λw=>Bi ns (Du w [])).flatMap λw=>(B0 (IT js) js.length).map λk=>(w,k)
theorem Si{w:List Int}:Mu AD.zero 0 w=Du w []:=by
 unfold Mu Du AD.zero;congr 1
 ·funext k;by_cases h:k<w.length
  ·rw [if_pos aA];rfl
  ·rw [if_neg aA,BW aA]
theorem puts_both{w k:List Int}:Mw (Du w []) 0 k=Du w k:=by
 unfold Mw Du;congr 1;funext i;by_cases h:i<k.length
 ·rw [if_pos aA];rfl
 ·rw [if_neg aA,BW aA];rfl
theorem Of:AE ws js ns=(I0 ws js ns).map λx=>Du x.1 x.2:=by
 have wk:∀w:List Int,CJ (Bi ns) ws js js.length ws.length (Du w [])=(B0 (IT js) js.length).map λk=>Du w k:=λw=>by
  rw [Sh _ _ _ (Nat.le_refl _),Nat.sub_self,Qn];congr 1;funext k;exact puts_both
 unfold I0;rw [Oe,List.map_flatMap];have rhs:∀w:List Int,(if Bi ns (Du w [])=true then (B0 (IT js) js.length).map λk=>(w,k) else []).map (λx=>Du x.1 x.2)=if Bi ns (Du w [])=true then CJ (Bi ns) ws js js.length ws.length (Du w []) else []:=λw=>by
  split
  ·rw [wk,List.map_map];rfl
  ·rfl
 simp only [rhs];unfold AE;rcases Nat.eq_zero_or_pos ws.length with h | h
 ·rw [h,Nat.zero_add];show _=[[]].flatMap _;rw [List.flatMap_cons,List.flatMap_nil,List.append_nil];have z:(Du [] []:AD)=AD.zero:=by rw [<-Si,Sg]
  rw [z];by_cases c:Bi ns AD.zero=true
  ·rw [if_pos (.inr c),if_pos c]
  ·rw [if_neg (λq=>q.elim aA c),if_neg c]
 ·rw [if_pos (.inl h)]
  have:=V2 (ag:=Bi ns) (ws:=ws) (js:=js) (ws.length-1) 0 AD.zero aA
  rw [show ws.length-1+1=ws.length by omega] at this;rw [this,Qn];congr 1;funext w;rw [Si]
end
end Go.Ns
namespace Go.Ns
def C2(np:Nat)(o:Nat->Int):List Int:=(List.range np).map o
def bfIf(np x i:Nat):Nat->Int:=λv=>if v<i/\v≠x then 30*(np:Int) else 0
def Sj(np x i:Nat):List Int:=C2 np (bfIf np x i)
section
variable {np x i k:Nat} {o:Nat->Int} {v:Int} {ws:List AB} {p:AD}
theorem Jg:(C2 np o).length=np:=by unfold C2;rw [List.length_map,List.length_range]
theorem Zu:(Sj np x i).length=np:=Jg
theorem Mx(h:i<np):(C2 np o).getD i 0=o i:=by
 unfold C2;rw [CX 0 (by rw [List.length_map,List.length_range];exact h),List.getElem_map,List.getElem_range]
theorem Xn{j:Nat}(h:j<(C2 np o).length):(C2 np o)[j]=o j:=by
 simp only [C2,List.getElem_map,List.getElem_range]
theorem UY(h:i<np):(C2 np o).set i v=C2 np (KX o i v):=by
 apply List.ext_getElem
 ·rw [List.length_set,Jg,Jg]
 ·intro j h1 h2;rw [List.getElem_set,Xn,Xn];unfold KX;by_cases c:i=j
  ·rw [if_pos c,if_pos c.symm]
  ·rw [if_neg c,if_neg (λq=>c q.symm)]
theorem bfI_0:Sj np x 0=List.replicate np 0:=by
 apply List.ext_getElem
 ·rw [Zu,List.length_replicate]
 ·intro j h1 h2;rw [List.getElem_replicate];exact (Xn h1).trans (if_neg aA)
theorem bfI_put(hi:i<np)(h:i≠x):(Sj np x i).set i (30*(np:Int))=Sj np x (i+1):=by
 unfold Sj;rw [UY hi];congr 1;funext j;unfold KX bfIf;by_cases c:j=i
 ·rw [if_pos c,if_pos ⟨aA,aA⟩]
 ·rw [if_neg c];by_cases d:j<i/\j≠x
  ·rw [if_pos d,if_pos ⟨aA,d.2⟩]
  ·rw [if_neg d,if_neg (λq=>d ⟨aA,q.2⟩)]
theorem bfI_skip(h:i=x):Sj np x i=Sj np x (i+1):=by
 unfold Sj;congr 1;funext v;unfold bfIf;by_cases d:v<i/\v≠x
 ·rw [if_pos d,if_pos ⟨aA,d.2⟩]
 ·rw [if_neg d,if_neg (λq=>d ⟨aA,q.2⟩)]
theorem bfI_end(h:np<=i):Sj np x i=C2 np (DK np x):=by
 unfold Sj C2;apply List.map_congr_left;intro v hv
 have:=List.mem_range.1 hv
 unfold DK bfIf;by_cases c:v=x
 ·rw [if_neg (λq=>q.2 c),if_pos c]
 ·rw [if_pos ⟨aA,c⟩,if_neg c]
def Xo(np:Nat)(o:Nat->Int):Prop:=∀i,i<np->0<=o i/\o i<=30*(np:Int)
theorem bf0_ok(x:Nat):Xo np (DK np x):=λi _=>by unfold DK;split <;> omega
theorem bfWay_ok(h:Xo np o)(ha:wA ws k<np)(hb:wB ws k<np)(hp:BJ p):Xo np (Jz ws p o k):=λi hi=>by
 have w:=hp.ways k;have a:=h _ ha;have b:=h _ hb;have c:=h i hi;unfold Jz KX;by_cases e:i=wB ws k
 ·rw [if_pos e,if_pos rfl];by_cases e2:wB ws k=wA ws k
  ·rw [if_pos e2];omega
  ·rw [if_neg e2];omega
 ·rw [if_neg e];by_cases e2:i=wA ws k
  ·rw [if_pos e2];omega
  ·rw [if_neg e2];exact c
theorem Xp(h:Xo np o)(hw:∀k,k<ws.length->wA ws k<np/\wB ws k<np)(hp:BJ p):∀n,n<=ws.length->Xo np (Dq ws p o n)
 | 0,_=>h
 | n+1,hn=>bfWay_ok (Xp h hw hp n aA) (hw n aA).1 (hw n aA).2 hp
theorem bfN_ok(x:Nat)(hw:∀k,k<ws.length->wA ws k<np/\wB ws k<np)(hp:BJ p):∀r,Xo np (Dc ws p (DK np x) r)
 | 0=>bf0_ok x
 | r+1=>Xp (bfN_ok x hw hp r) hw hp _ (Nat.le_refl _)
theorem bfL_rng(h:Xo np o)(i:Nat):0<=(C2 np o).getD i 0/\(C2 np o).getD i 0<=30*(np:Int):=by
 by_cases c:i<np
 ·rw [Mx c];exact h i c
 ·rw [BW (by rw [Jg];omega)];omega
theorem bfL_way(ha:wA ws k<np)(hb:wB ws k<np):((C2 np o).set (wA ws k) (min ((C2 np o).getD (wA ws k) 0) ((C2 np o).getD (wB ws k) 0+p.ways k))).set (wB ws k) (min (((C2 np o).set (wA ws k) (min ((C2 np o).getD (wA ws k) 0) ((C2 np o).getD (wB ws k) 0+p.ways k))).getD (wB ws k) 0) (((C2 np o).set (wA ws k) (min ((C2 np o).getD (wA ws k) 0) ((C2 np o).getD (wB ws k) 0+p.ways k))).getD (wA ws k) 0+p.ways k))=C2 np (Jz ws p o k):=by
 rw [Mx ha,Mx hb,UY ha,Mx hb,Mx ha,UY hb];rfl
theorem set_rng{l:List Int}{A:Nat}{b:Int}(h:∀i,0<=l.getD i 0/\l.getD i 0<=b)(hv:0<=v/\v<=b)(i:Nat):0<=(l.set A v).getD i 0/\(l.set A v).getD i 0<=b:=by
 rw [List.getD_eq_getElem?_getD,List.getElem?_set];by_cases c:A=i
 ·subst c;by_cases d:A<l.length
  ·rw [if_pos rfl,if_pos d];exact hv
  ·rw [if_pos rfl,if_neg d];have:=h A;show 0<=(0:Int)/\(0:Int)<=b;omega
 ·rw [if_neg c,<-List.getD_eq_getElem?_getD];exact h i
end
def Ea(np:Nat)(ws:List AB)(p:AD)(x:Nat):List Int:=(List.range np).map (Aw np ws p x)
section
variable {bag kinds:Int} {ps:List ByteArray} {ws:List AB} {js:List AM} {ns:List AJ} {p:AD} {x i:Nat}
theorem way_ab(bk:A6 bag kinds ps ws js ns)(k:Nat)(hk:k<ws.length):wA ws k<ps.length/\wB ws k<ps.length:=by
 have o:=IK bk.way k hk;have h3:=o.a;have h4:=o.b;unfold wA wB;omega
theorem farLn_end(bk:A6 bag kinds ps ws js ns)(hp:BJ p)(hx:x<ps.length){r:Nat}(hr:r=ps.length):Ea ps.length ws p x=C2 ps.length (Dc ws p (DK ps.length x) r):=by
 subst hr;unfold Ea C2;apply List.map_congr_left;intro v hv;exact (bf_far bk hp hx (List.mem_range.1 hv)).symm
theorem Sm:(Ea ps.length ws p x).length=ps.length:=by unfold Ea;rw [List.length_map,List.length_range]
theorem Ni(h:i<ps.length):(Ea ps.length ws p x).getD i 0=Aw ps.length ws p x i:=by
 unfold Ea;rw [CX 0 (by rw [List.length_map,List.length_range];exact h),List.getElem_map,List.getElem_range]
end
theorem note_way{nw k q:Nat}{ns:List AJ}(h:Dz nw ns k=0)(hq:q<(ns.getD k AJ.z).ways.length):0<=(ns.getD k AJ.z).ways.getD q 0/\(ns.getD k AJ.z).ways.getD q 0<=(nw:Int)-1:=by
 unfold Dz at h;split at h
 ·cases h
 ·split at h
  ·cases h
  ·rename_i h6
   have h7:¬∃x ∈ (ns.getD k AJ.z).ways,¬(0<=x/\x<=(nw:Int)-1):=by simpa [List.any_eq_true] using h6
   exact Classical.byContradiction λz=>h7 ⟨_,Bf hq,z⟩
def Jh(l:List Int):Nat->Int
 | 0=>l.getD 0 0
 | k+1=>min (Jh l k) (l.getD (k+1) 0)
def Ji(l:List Int):Nat->Int
 | 0=>l.getD 0 0
 | k+1=>max (Ji l k) (l.getD (k+1) 0)
section
variable {F:AD->Int} {pq:List AD} {hl:List (List Int×List Int)}
theorem K0{V:Type}{z:V}{G:V->Int}{l:List V}{k:Nat}(h:k<l.length):(l.map G).getD k 0=G (l.getD k z):=by
 rw [CX 0 (by rw [List.length_map];exact h),List.getElem_map,CX z h]
theorem V3:∀k,k<pq.length->Jh (pq.map F) k=PE F pq k
 | 0,h=>K0 h
 | k+1,h=>by
  unfold Jh PE;rw [V3 k aA,K0 (z:=AD.zero) h,I9]
theorem V4:∀k,k<pq.length->Ji (pq.map F) k=Re F pq k
 | 0,h=>K0 h
 | k+1,h=>by
  unfold Ji Re;rw [V4 k aA,K0 (z:=AD.zero) h,I9]
theorem V5(h:0<pq.length):Jh (pq.map F) ((pq.map F).length-1)=Cp F pq/\Ji (pq.map F) ((pq.map F).length-1)=Bw F pq:=by
 rw [List.length_map];exact ⟨V3 _ aA,V4 _ aA⟩
end
end Go.Ns
namespace Go.Ns
open Go.Conc
structure P2 where
 w:Sl
 k:Sl
def P2.z:P2:=⟨Sl.z,Sl.z⟩
def eP2(x:P2):Array Value:=#[x.w.1,x.k.1]
def F5(h:GH)(t:TypeId)(l:List P2):Prop:=∀k,Dg h t (l.getD k P2.z).w.1 (l.getD k P2.z).w.2/\Dg h t (l.getD k P2.z).k.1 (l.getD k P2.z).k.2
theorem F5.le{h h':GH}{t:TypeId}{l:List P2}(x:F5 h t l)(e:h.Le h'):F5 h' t l:=λk=>⟨(x k).1.le e,(x k).2.le e⟩
theorem F5.nil(h:GH)(t:TypeId):F5 h t []:=λk=>by
 rw [BW aD];exact ⟨Dg.nil _ _,Dg.nil _ _⟩
theorem F5.app{h:GH}{t:TypeId}{l l':List P2}(a:F5 h t l)(b:F5 h t l'):F5 h t (l++l'):=λk=>by
 rw [KL];split
 ·exact a k
 ·exact b _
theorem F5.one{h:GH}{t:TypeId}{x:P2}(a:Dg h t x.w.1 x.w.2)(b:Dg h t x.k.1 x.k.2):F5 h t [x]:=λk=>by
 cases k with
 | zero=>exact ⟨a,b⟩
 | succ k=>rw [BW aD];exact ⟨Dg.nil _ _,Dg.nil _ _⟩
theorem F5.grown{V:Type}{h h' h0:GH}{v v':Value}{t t':TypeId}{n:Nat}{enc:V->Array Value}{ys:List V}(g:GN h h' v v')(o:AQ h0 h v t' n enc ys)(ne:t'≠t){l:List P2}(x:F5 h t l):F5 h' t l:=λk=>⟨(x k).1.grown g o ne,(x k).2.grown g o ne⟩
theorem F5.fine{h:GH}{t:TypeId}{l:List P2}(a:F5 h t l):∀y ∈ l,(eP2 y).toList.all (·.oneCell')=true:=λy hy=>by
 obtain ⟨k,hk,e⟩:=List.mem_iff_getElem.1 hy;obtain rfl:l.getD k P2.z=y:=by rw [CX P2.z hk];exact e
 show (((l.getD k P2.z).w.1.oneCell') && (((l.getD k P2.z).k.1.oneCell') && true))=true;rw [(AO.one (a k).1.1).2,(AO.one (a k).2.1).2];rfl
theorem fill_b2{v0 v1:Value}(h0:v0.cells=#[v0])(h1:v1.cells=#[v1]):Instr.fill (λx=>#[(0,1),(1,1)][x]?) #[Value.slice none 0 0,Value.slice none 0 0] [(0,v0),(1,v1)]=some #[v0,v1]:=by
 simp [Instr.fill,h0,h1]
def rps(l:List P2):List (List Int×List Int):=l.map λx=>(x.w.2,x.k.2)
theorem rps_app(a b:List P2):rps (a++b)=rps a++rps b:=List.map_append
theorem UZ(l:List P2):(rps l).length=l.length:=List.length_map _
theorem rps_getD{l:List P2}{k:Nat}(hk:k<l.length):(rps l).getD k ([],[])=((l.getD k P2.z).w.2,(l.getD k P2.z).k.2):=by
 unfold rps;rw [CX _ (by simpa using hk),CX P2.z hk,List.getElem_map]
section
variable {S:Nat->Int×Int}
def G1(S:Nat->Int×Int)(i k j:Nat):List (List Int):=(((B0 S i).take k).flatMap λx=>(EN (S i).1 (S i).2).map λn=>x++[n])++(CT (S i).1 j).map λn=>(B0 S i).getD k []++[n]
theorem V6{i k:Nat}:G1 S i k 0=((B0 S i).take k).flatMap λx=>(EN (S i).1 (S i).2).map λn=>x++[n]:=by
 unfold G1 CT;rw [List.range_zero,List.map_nil,List.map_nil,List.append_nil]
theorem nextTo_j{i k j:Nat}:G1 S i k (j+1)=G1 S i k j++[(B0 S i).getD k []++[(S i).1+(j:Int)]]:=by
 unfold G1;rw [J7,List.map_append,List.append_assoc];rfl
theorem nextTo_k{i k j:Nat}(hk:k<(B0 S i).length)(h1:¬(S i).1+(j:Int)<=(S i).2)(h2:(j:Int)<=(S i).2-(S i).1+1\/j=0):G1 S i k j=G1 S i (k+1) 0:=by
 rw [V6,Cw [] hk,List.flatMap_append,List.flatMap_cons,List.flatMap_nil,List.append_nil];unfold G1 EN;rw [show j=((S i).2-(S i).1+1).toNat by omega]
theorem Xq{i k:Nat}(hk:(B0 S i).length<=k):G1 S i k 0=B0 S (i+1):=by
 rw [V6,List.take_of_length_le hk];rfl
theorem V7(h:∀i,(S i).2-(S i).1<2):∀i,(B0 S i).length<=2 ^ i
 | 0=>Nat.le_refl 1
 | i+1=>by
  have:=J8 (f:=λx=>(EN (S i).1 (S i).2).map λn=>x++[n]) (c:=2) (l:=B0 S i) λx _=>by
   rw [List.length_map];exact Lj (h i)
  have h2:=V7 h i;show ((B0 S i).flatMap λx=>(EN (S i).1 (S i).2).map λn=>x++[n]).length<=2 ^ (i+1);rw [Nat.pow_succ];omega
theorem Jj(h:∀i,(S i).2-(S i).1<2){i:Nat}(hi:i<=5):(B0 S i).length<=32:=Nat.le_trans (V7 h i) (Nat.pow_le_pow_right aC hi:2 ^ i<=2 ^ 5)
theorem Xr(h:∀i,(S i).2-(S i).1<2){i k j:Nat}(hi:i<=5)(hj:j<=2):(G1 S i k j).length<=66:=by
 have h1:=J8 (f:=λx=>(EN (S i).1 (S i).2).map λn=>x++[n]) (c:=2) (l:=(B0 S i).take k) λx _=>by
  rw [List.length_map];exact Lj (h i)
 have h2:=Jj h hi;have h3:((B0 S i).take k).length<=32:=Nat.le_trans (List.length_take_le' _ _) h2;unfold G1 CT;rw [List.length_append,List.length_map,List.length_map,List.length_range];omega
theorem JB:∀(m:Nat)(s:List Int),s ∈ B0 S m->s.length=m/\∀k,k<m->(S k).1<=s.getD k 0/\s.getD k 0<=(S k).2
 | 0,s,h=>by rw [List.mem_singleton.1 h];exact ⟨rfl,λk hk=>absurd hk (Nat.not_lt_zero _)⟩
 | m+1,s,h=>by
  obtain ⟨x,hx,h⟩:=List.mem_flatMap.1 h;obtain ⟨n,hn,rfl⟩:=List.mem_map.1 h;obtain ⟨e,r⟩:=JB m x hx;have hn:=Pw.1 hn;refine ⟨by rw [List.length_append,e];rfl,λk hk=>?_⟩;rw [KL];by_cases c:k<m
  ·rw [if_pos aA];exact r k c
  ·have:k=m:=aA
   subst this;rw [if_neg aA,e,Nat.sub_self];show (S k).1<=n/\n<=(S k).2;omega
theorem Zv{i k:Nat}(h:k<(B0 S i).length):((B0 S i).getD k []).length=i:=(JB i _ (Bf h)).1
theorem L0{S':Nat->Int×Int}:∀m,(∀k,k<m->S k=S' k)->B0 S m=B0 S' m
 | 0,_=>rfl
 | m+1,h=>by
  unfold B0;rw [L0 m λk hk=>h k aA,h m aA]
end
def V8(ws:List AB):List (Int×Int):=ws.map λx=>(x.low,x.high)
def V9(js:List AM):List (Int×Int):=js.map λx=>(x.low,x.high)
section
variable {bag kinds:Int} {ps:List ByteArray} {ws:List AB} {js:List AM} {ns:List AJ} {k:Nat}
theorem Jk:(V8 ws).length=ws.length:=List.length_map _
theorem Jl:(V9 js).length=js.length:=List.length_map _
theorem spW_next(h:k<ws.length):V8 (ws.take (k+1))=V8 (ws.take k)++[((ws.getD k AB.z).low,(ws.getD k AB.z).high)]:=by
 unfold V8;rw [Cw AB.z h,List.map_append];rfl
theorem spJ_next(h:k<js.length):V9 (js.take (k+1))=V9 (js.take k)++[((js.getD k AM.z).low,(js.getD k AM.z).high)]:=by
 unfold V9;rw [Cw AM.z h,List.map_append];rfl
theorem spW_at(h:k<ws.length):(V8 ws).getD k (0,0)=Fw ws k:=by
 unfold V8 Fw;rw [CX _ (by rw [List.length_map];exact h),List.getElem_map,CX AB.z h]
theorem spJ_at(h:k<js.length):(V9 js).getD k (0,0)=IT js k:=by
 unfold V9 IT;rw [CX _ (by rw [List.length_map];exact h),List.getElem_map,CX AM.z h]
theorem WA:B0 (λk=>(V8 ws).getD k (0,0)) (V8 ws).length=B0 (Fw ws) ws.length:=by
 rw [Jk];exact L0 _ λk hk=>spW_at hk
theorem WB:B0 (λk=>(V9 js).getD k (0,0)) (V9 js).length=B0 (IT js) js.length:=by
 rw [Jl];exact L0 _ λk hk=>spJ_at hk
theorem Zw(bk:A6 bag kinds ps ws js ns)(k:Nat):(0<=((V8 ws).getD k (0,0)).1/\((V8 ws).getD k (0,0)).2<=30)/\((V8 ws).getD k (0,0)).2-((V8 ws).getD k (0,0)).1<2:=by
 by_cases h:k<ws.length
 ·have:=(IK bk.way k h).time
  rw [spW_at h];show (0<=(ws.getD k AB.z).low/\(ws.getD k AB.z).high<=30)/\(ws.getD k AB.z).high-(ws.getD k AB.z).low<2;omega
 ·rw [BW (by rw [Jk];omega)];decide
theorem Zx(bk:A6 bag kinds ps ws js ns)(k:Nat):(0<=((V9 js).getD k (0,0)).1/\((V9 js).getD k (0,0)).2<=30)/\((V9 js).getD k (0,0)).2-((V9 js).getD k (0,0)).1<2:=by
 by_cases h:k<js.length
 ·have:=(KF (bk.job k h)).time
  rw [spJ_at h];show (0<=(js.getD k AM.z).low/\(js.getD k AM.z).high<=30)/\(js.getD k AM.z).high-(js.getD k AM.z).low<2;omega
 ·rw [BW (by rw [Jl];omega)];decide
def Ee(ns:List AJ)(W K:List (List Int))(i j:Nat):List (List Int×List Int):=(((W.take i).filter λw=>Bi ns (Du w [])).flatMap λw=>K.map λk=>(w,k))++(K.take j).map λk=>(W.getD i [],k)
section
variable {W K:List (List Int)} {i j:Nat}
theorem K3:Ee ns W K i 0=(((W.take i).filter λw=>Bi ns (Du w [])).flatMap λw=>K.map λk=>(w,k)):=by
 unfold Ee;rw [List.take_zero,List.map_nil,List.append_nil]
theorem Ua(h:i<W.length)(hn:Bi ns (Du (W.getD i []) [])=false):Ee ns W K i 0=Ee ns W K (i+1) 0:=by
 rw [K3,K3,Cw [] h,List.filter_append,List.filter_cons,if_neg (by rw [hn];decide),List.filter_nil,List.append_nil]
theorem Ub(h:j<K.length):Ee ns W K i (j+1)=Ee ns W K i j++[(W.getD i [],K.getD j [])]:=by
 unfold Ee;rw [Cw [] h,List.map_append,List.append_assoc];rfl
theorem Uc(h:i<W.length)(hn:Bi ns (Du (W.getD i []) [])=true)(hj:K.length<=j):Ee ns W K i j=Ee ns W K (i+1) 0:=by
 rw [K3,Cw [] h,List.filter_append,List.filter_cons,if_pos hn,List.filter_nil,List.flatMap_append,List.flatMap_cons,List.flatMap_nil,List.append_nil];unfold Ee;rw [List.take_of_length_le hj]
theorem WC(h:W.length<=i)(hW:W=B0 (Fw ws) ws.length)(hK:K=B0 (IT js) js.length):Ee ns W K i 0=I0 ws js ns:=by
 rw [K3,List.take_of_length_le h];subst hW;subst hK;rfl
theorem WD(hW:W.length<=32)(hK:K.length<=32):(Ee ns W K i j).length<=1056:=by
 have h1:=J8 (f:=λw=>K.map λk=>(w,k)) (c:=32) (l:=(W.take i).filter λw=>Bi ns (Du w [])) λx _=>by rw [List.length_map];exact hK
 have h2:=List.length_filter_le (λw=>Bi ns (Du w [])) (W.take i);have h3:=List.length_take_le i W;have h4:=List.length_take_le j K;have h5:=List.length_take_le' i W;have h6:=List.length_take_le' j K;unfold Ee;rw [List.length_append,List.length_map];omega
end
theorem num_ok(bk:A6 bag kinds ps ws js ns){s:List Int}(hs:s ∈ B0 (Fw ws) ws.length)(k:Nat):0<=s.getD k 0/\s.getD k 0<=30:=by
 obtain ⟨e,r⟩:=JB _ s hs;by_cases h:k<ws.length
 ·have:=(IK bk.way k h).time
  have q:=r k h;unfold Fw at q;omega
 ·rw [BW aA];decide
theorem numJ_ok(bk:A6 bag kinds ps ws js ns){s:List Int}(hs:s ∈ B0 (IT js) js.length)(k:Nat):0<=s.getD k 0/\s.getD k 0<=30:=by
 obtain ⟨e,r⟩:=JB _ s hs;by_cases h:k<js.length
 ·have:=(KF (bk.job k h)).time
  have q:=r k h;unfold IT at q;omega
 ·rw [BW aA];decide
theorem toT_ok(bk:A6 bag kinds ps ws js ns){s:List Int}(hs:s ∈ B0 (Fw ws) ws.length):BJ (Du s []):=⟨num_ok bk hs,λk=>by show 0<=([]:List Int).getD k 0/\([]:List Int).getD k 0<=30;rw [BW (Nat.zero_le _)];decide⟩
theorem pasts_mem(bk:A6 bag kinds ps ws js ns){x:List Int×List Int}(h:x ∈ I0 ws js ns):BJ (Du x.1 x.2)/\x.1.length=ws.length/\x.2.length=js.length:=by
 obtain ⟨w,hw,h⟩:=List.mem_flatMap.1 h;obtain ⟨k,hk,rfl⟩:=List.mem_map.1 h;have hw:=(List.mem_filter.1 hw).1;exact ⟨⟨num_ok bk hw,numJ_ok bk hk⟩,(JB _ w hw).1,(JB _ k hk).1⟩
theorem WE(bk:A6 bag kinds ps ws js ns){pl:List P2}(hrp:rps pl=I0 ws js ns)(hk:k<pl.length):BJ (Du (pl.getD k P2.z).w.2 (pl.getD k P2.z).k.2)/\(pl.getD k P2.z).w.2.length=ws.length/\(pl.getD k P2.z).k.2.length=js.length/\(AE ws js ns).getD k AD.zero=Du (pl.getD k P2.z).w.2 (pl.getD k P2.z).k.2:=by
 have hl:k<(I0 ws js ns).length:=by rw [<-hrp,UZ];exact hk
 have e:(I0 ws js ns).getD k ([],[])=((pl.getD k P2.z).w.2,(pl.getD k P2.z).k.2):=by rw [<-hrp,rps_getD hk]
 have m:=pasts_mem bk (Bf (d:=([],[])) hl);rw [e] at m;refine ⟨m.1,m.2.1,m.2.2,?_⟩;rw [Of,CX _ (by rw [List.length_map];exact hl),List.getElem_map];rw [CX _ hl] at e;rw [e]
theorem JC{pl:List P2}(hrp:rps pl=I0 ws js ns):(AE ws js ns).length=pl.length:=by
 rw [Of,List.length_map,<-hrp,UZ]
end
section
variable {bag kinds:Int} {ps:List ByteArray} {ws:List AB} {js:List AM} {ns:List AJ} {l:List Int} {p:AD}
theorem farLn_rng(hp:BJ p)(x i:Nat):0<=(Ea ps.length ws p x).getD i 0/\(Ea ps.length ws p x).getD i 0<=1048576:=by
 by_cases h:i<ps.length
 ·rw [Ni h];exact NT hp x i
 ·rw [BW (by rw [Sm];omega)];decide
theorem pk_at{pw pk:List Int}(i:Nat):(Du pw pk).works i=pk.getD i 0:=rfl
theorem Qp{q:Nat}{j pl w:Int}(hj:j=l.getD q 0)(hpl:pl=(js.getD j.toNat AM.z).place)(hw:p.works j.toNat=w)(hr:pl.toNat<ps.length):Al ps.length ws js p l q+(Ea ps.length ws p (D0 js l q).toNat).getD pl.toNat 0+w=Al ps.length ws js p l (q+1):=by
 subst hpl;subst hw;subst hj;rw [Ni hr,Int.add_assoc];rfl
end
def Cx(due:Int)(G:AD->Int)(pq:List AD):Nat->Int
 | 0=>0
 | i+1=>if due<G (pq.getD i AD.zero) then Cx due G pq i+1 else Cx due G pq i
def CI(G:AD->Int)(pq:List AD):Nat->Int
 | 0=> -1
 | i+1=>if CI G pq i<0\/G (pq.getD i AD.zero)<CI G pq i then G (pq.getD i AD.zero) else CI G pq i
def Eo(G:AD->Int)(pq:List AD):Nat->Int
 | 0=>0
 | i+1=>max (Eo G pq i) (G (pq.getD i AD.zero))
section
variable {G:AD->Int} {pq:List AD} {due:Int}
theorem Nj:∀i:Nat,0<=Cx due G pq i/\Cx due G pq i<=i
 | 0=>⟨Int.le_refl 0,Int.le_refl 0⟩
 | i+1=>by
  have r:=Nj i;unfold Cx;split <;> omega
theorem Xs{b:Int}(hG:∀i,0<=G (pq.getD i AD.zero)/\G (pq.getD i AD.zero)<=b)(hb:0<=b):∀i,-1<=CI G pq i/\CI G pq i<=b
 | 0=>⟨Int.le_refl _,by show (-1:Int)<=b;omega⟩
 | i+1=>by have:=Xs hG hb i;have:=hG i;unfold CI;split <;> omega
theorem Sn{b:Int}(hG:∀i,0<=G (pq.getD i AD.zero)/\G (pq.getD i AD.zero)<=b)(hb:0<=b):∀i,0<=Eo G pq i/\Eo G pq i<=b
 | 0=>⟨Int.le_refl 0,hb⟩
 | i+1=>by have:=Sn hG hb i;have:=hG i;unfold Eo;omega
theorem Qq(hG:∀i,0<=G (pq.getD i AD.zero)):∀i,CI G pq (i+1)=PE G pq i/\0<=PE G pq i
 | 0=>⟨if_pos (.inl (show (-1:Int)<0 by decide)),hG 0⟩
 | i+1=>by
  obtain ⟨e,h⟩:=Qq hG i;have g:=hG (i+1);have q:PE G pq (i+1)=min (PE G pq i) (G (pq.getD (i+1) AD.zero)):=by rw [PE,I9]
  rw [CI,e,q];refine ⟨?_,aA⟩;split <;> omega
theorem Ss(hG:∀i,0<=G (pq.getD i AD.zero)):∀i,Eo G pq (i+1)=Re G pq i
 | 0=>by show max 0 (G (pq.getD 0 AD.zero))=G (pq.getD 0 AD.zero);have:=hG 0;omega
 | i+1=>by rw [Eo,Ss hG i,Re,I9]
theorem Xu{n:Nat}(hG:∀i,0<=G (pq.getD i AD.zero))(hn:n=pq.length)(h0:0<n):CI G pq n=Cp G pq/\Eo G pq n=Bw G pq:=by
 subst hn;unfold Cp Bw;obtain ⟨m,e⟩:∃m,pq.length=m+1:=⟨pq.length-1,aA⟩;rw [e,Nat.add_sub_cancel];exact ⟨(Qq hG m).1,Ss hG m⟩
theorem St:∀i,(Cx due G pq (i+1)=0↔Re G pq i<=due)/\(Cx due G pq (i+1)=(i:Int)+1↔due<PE G pq i)
 | 0=>by
  show ((if due<G (pq.getD 0 AD.zero) then (0:Int)+1 else 0)=0↔G (pq.getD 0 AD.zero)<=due)/\((if due<G (pq.getD 0 AD.zero) then (0:Int)+1 else 0)=0+1↔due<G (pq.getD 0 AD.zero));split <;> omega
 | i+1=>by
  obtain ⟨a,b⟩:=St i;have r:=Nj (due:=due) (G:=G) (pq:=pq) (i+1);have q:PE G pq (i+1)=min (PE G pq i) (G (pq.getD (i+1) AD.zero)):=by rw [PE,I9]
  have q2:Re G pq (i+1)=max (Re G pq i) (G (pq.getD (i+1) AD.zero)):=by rw [Re,I9]
  rw [Cx,q,q2];split <;> omega
theorem WF{n:Nat}(hn:n=pq.length)(h0:0<n):(Cx due G pq n=0↔Bw G pq<=due)/\(Cx due G pq n=(n:Int)↔due<Cp G pq):=by
 subst hn;unfold Cp Bw;obtain ⟨m,e⟩:∃m,pq.length=m+1:=⟨pq.length-1,aA⟩;rw [e,Nat.add_sub_cancel];exact St m
end
section
variable {bag kinds:Int} {ps:List ByteArray} {ws:List AB} {js:List AM} {ns:List AJ} {l:List Int}
theorem goNow_g(bk:A6 bag kinds ps ws js ns)(q i:Nat)(hq:q<=5):0<=Al ps.length ws js ((AE ws js ns).getD i AD.zero) l q/\Al ps.length ws js ((AE ws js ns).getD i AD.zero) l q<=5243030:=by
 have hp:BJ ((AE ws js ns).getD i AD.zero):=by
  by_cases h:i<(AE ws js ns).length
  ·exact GY bk _ (Bf h)
  ·rw [BW aA];exact ⟨λ_=>by show (0:Int)<=0/\(0:Int)<=30;decide,λ_=>by show (0:Int)<=0/\(0:Int)<=30;decide⟩
 have:=Ku (ps:=ps) (ws:=ws) (js:=js) (l:=l) hp q
 omega
theorem handB0(hz:BX bag kinds ps ws js ns=0)(hr:Kz js.length l):GD bag kinds ps ws js ns l=0:=(if_neg (λe=>e hz)).trans hr.bell
theorem hist_isR(hz:BX bag kinds ps ws js ns=0):Lk bag kinds ps ws js ns=((AE ws js ns).length:Int):=if_pos hz
theorem lateB0{i:Int}(hr:Kz js.length l)(hi:0<=i/\i<=(l.length:Int)-1):EU js.length l i=0:=by
 unfold EU;rw [if_neg (λq=>q hr.bell),if_neg (λq=>q hi)]
theorem Xv(h9:Ac bag kinds ps ws js ns 0=9)(hr:Kz js.length l):DG bag kinds ps ws js ns l=[]/\DT bag kinds ps ws js ns l=false:=by
 have h:¬Ac bag kinds ps ws js ns 0=0:=by rw [h9];decide
 unfold DG DT;rw [hr.bell,if_pos h,if_pos h];exact ⟨rfl,rfl⟩
theorem Qr(h0:Ac bag kinds ps ws js ns 0=0)(hr:Kz js.length l):DG bag kinds ps ws js ns l=Hb ps.length ws js (AE ws js ns) l l.length:=by
 unfold DG;rw [hr.bell,if_neg (λq=>q h0)]
theorem Xw(h0:Ac bag kinds ps ws js ns 0=0)(hr:Kz js.length l):(DG bag kinds ps ws js ns l).length=l.length:=by
 rw [Qr h0 hr,JY]
theorem reachE_at(h0:Ac bag kinds ps ws js ns 0=0)(hr:Kz js.length l){k:Nat}(hk:k<l.length):(DG bag kinds ps ws js ns l).getD k (0,0)=(Cp (λx=>Al ps.length ws js x l (k+1)) (AE ws js ns),Bw (λx=>Al ps.length ws js x l (k+1)) (AE ws js ns)):=by
 rw [Qr h0 hr,Qm _ _ _ _ hk];rfl
theorem Xx(hz:BX bag kinds ps ws js ns=0)(h0:Ac bag kinds ps ws js ns 0=0)(hr:Kz js.length l){k:Nat}(hk:k=l.length):DT bag kinds ps ws js ns l=(Df bag kinds ps ws js ns l && (List.range k).all (DZ ps.length ws js (AE ws js ns) l)):=by
 subst hk;unfold DT Df;rw [hr.bell,if_neg (λq=>q h0),handB0 hz hr,if_neg (λq=>q rfl)];rfl
def D7(js:List AM)(l:List Int)(k:Nat):Int:=(js.getD (l.getD k 0).toNat AM.z).due
theorem Xy(h0:Ac bag kinds ps ws js ns 0=0)(hr:Kz js.length l){k n:Nat}(hk:k<l.length)(hn:n=(AE ws js ns).length)(h1:0<n):Fu bag kinds ps ws js ns l k=if Cx (D7 js l k) (λx=>Al ps.length ws js x l (k+1)) (AE ws js ns) n=((AE ws js ns).length:Int) then 1 else if Cx (D7 js l k) (λx=>Al ps.length ws js x l (k+1)) (AE ws js ns) n=0 then 2 else 0:=by
 subst hn;obtain ⟨a,b⟩:=WF (due:=D7 js l k) (G:=λx=>Al ps.length ws js x l (k+1)) (pq:=AE ws js ns) rfl h1;unfold Fu;rw [lateB0 hr (i:=(k:Int)) aA,if_neg (λq=>q h0),Int.toNat_natCast];simp only [b,a];rfl
theorem reach_on{k n:Nat}(hn:n=(AE ws js ns).length)(h1:0<n):DZ ps.length ws js (AE ws js ns) l k=decide (Cx (D7 js l k) (λx=>Al ps.length ws js x l (k+1)) (AE ws js ns) n=0):=
 decide_eq_decide.2 (WF hn h1).1.symm
theorem WG{f:Nat->Bool}{b:Bool}{k:Nat}:((b && (List.range k).all f) && f k)=(b && (List.range (k+1)).all f):=by
 rw [List.range_succ,List.all_append,List.all_cons,List.all_nil,Bool.and_true,Bool.and_assoc]
end
section
variable {G:AD->Int} {pq:List AD} {due v:Int} {i:Nat}
theorem Qs(h:v=G (pq.getD i AD.zero)):Cx due G pq (i+1)=if due<v then Cx due G pq i+1 else Cx due G pq i:=by subst h;rfl
theorem Og(h:v=G (pq.getD i AD.zero)):CI G pq (i+1)=if CI G pq i<0\/v<CI G pq i then v else CI G pq i:=by subst h;rfl
theorem Xz(h:v=G (pq.getD i AD.zero)):Eo G pq (i+1)=max (Eo G pq i) v:=by subst h;rfl
end
end Go.Ns
namespace Go.Ns
open Go.Conc
universe u
theorem Z{V:Sort u}{a:V}:a=a:=rfl
theorem Lr{h:GH}:GH.Le h h:=GH.Le.refl h
theorem Ln{h h':GH}(l:h.Le h'){r:Nat}(hr:h' r=none):h r=none:=l.nothing hr
theorem Ch{h:GH}{b r:Nat}{p:Bool}{o:Obj}(hb:h b=some (p,o))(hr:h r=none):b≠r:=GH.ne_of hb hr
theorem Nb{a b:Nat}(h:Nat.ble a b=true):a<=b:=Nat.le_of_ble_eq_true h
theorem Dn{p:Prop}[Decidable p](h:¬¬p):p:=Decidable.not_not.1 h
theorem Et{V:Sort u}{a b c:V}(x:a=b)(y:b=c):a=c:=x.trans y
theorem Kl{h0 h:GH}(k:KeepD (λb=>h0 b=none) h0 h):h0.Le h:=k.leOf
theorem Bx{h:GH}{b:Nat}{p:Bool}{c:Array Value}{t:TypeId}{f:Nat×Nat}(hb:h b=some (p,.cells c t f)){n:Nat}(hn:c.size=n):AX h b 0 n c:=AX.box hb hn
abbrev lE(v:Value):Law2:=λ_ u _=>u=v
abbrev lF(v:Value):R5:=λu _=>u=v
abbrev zP:Array Value:=#[.int .i64 0,.int .i64 0,.slice none 0 0,.slice none 0 0,.slice none 0 0,.slice none 0 0,.map none]
section
variable {P:Program} {E:Gh P} {O:Nat->Value} {ds:List Deferred} {h:GH} {Q:Post} {T:(Nat->Value)->List Deferred->GH->Prop}
variable {dst:Option Nat} {ty:TypeId} {pos:String} {af:Array Edge} {ops:Array Oper} {o:Oper} {l:List Oper}
theorem Sq{x y:Code}(a:Tr E x O ds h (λe σ' ds' h'=>match e with | .normal=>Tr E y σ' ds' h' Q | e=>Q e σ' ds' h')):Tr E (.seq x y) O ds h Q:=tr_seq a
theorem Rg{id:Nat}{l:List Oper}(a:DS E l.toArray l O ds h Q):Tr E (.region id l.toArray false) O ds h Q:=Z8 a
theorem Nl(q:Q .normal O ds h):DS E ops [] O ds h Q:=trL_nil q
abbrev Rt:=@tr_ret
abbrev Bk:=@tr_block
abbrev Sk:=@tr_skip
abbrev Xt:=@tr_exit
def plainB(N:Nat)(o:Oper):Bool:=o.guard.isNone && !C4 o.op && C0 o.dst N
theorem Pl(hp:plainB E.N o=true)(x:BT E o O ds h λσ' ds' h'=>DS E ops l σ' ds' h' Q):DS E ops (o ::l) O ds h Q:=by
 simp only [plainB,Bool.and_eq_true,Option.isNone_iff_eq_none,Bool.not_eq_true'] at hp;exact Gj hp.1.1 hp.1.2 hp.2 x
theorem Mv{x:Operand}(v:Value)(hp:C0 dst E.N=true)(hx:AR O x=v)(k:DS E ops l (putS O dst v) ds h Q):DS E ops (⟨dst,.move x,ty,pos,af,none⟩ ::l) O ds h Q:=Gj rfl rfl hp (Tk hx k)
theorem As{x:Operand}(v:Value)(hp:C0 dst E.N=true)(hx:AR O x=v)(k:DS E ops l (putS O dst v) ds h Q):DS E ops (⟨dst,.assign x,ty,pos,af,none⟩ ::l) O ds h Q:=Gj rfl rfl hp (H1 hx k)
theorem Ld{t:TypeId}{x:Operand}{b off:Nat}(v:Value)(hp:C0 dst E.N=true)(hx:AR O x=.pointer (some ⟨b,off,none⟩))(hr:Rd P h t b off v)(k:DS E ops l (putS O dst v) ds h Q):DS E ops (⟨dst,.load t x,ty,pos,af,none⟩ ::l) O ds h Q:=
 Gj rfl rfl hp (CO hx hr k)
theorem Fa{s:TypeId}{x:Operand}{f o b off:Nat}(hf:Dw P s f=some o)(hp:C0 dst E.N=true)(hx:AR O x=.pointer (some ⟨b,off,none⟩))(k:DS E ops l (putS O dst (.pointer (some ⟨b,off+o,none⟩))) ds h Q) :
  DS E ops (⟨dst,.fieldAddr s x f,ty,pos,af,none⟩ ::l) O ds h Q:=Gj rfl rfl hp (AI hf hx k)
theorem Pk{c a b:Operand}(t:Bool)(v:Value)(hp:C0 dst E.N=true)(hc:AR O c=.bool t)(hv:(if t then AR O a else AR O b)=v)(k:DS E ops l (putS O dst v) ds h Q):DS E ops (⟨dst,.pick c a b,ty,pos,af,none⟩ ::l) O ds h Q:=
 Gj rfl rfl hp (Au hc hv k)
theorem Ad{xt yt:TypeId}{x y:Operand}(a b:Int)(hp:C0 dst E.N=true)(hx:AR O x=.int .i64 a)(hy:AR O y=.int .i64 b)(hr: -9223372036854775808<=a+b/\a+b<=9223372036854775807)(k:DS E ops l (putS O dst (.int .i64 (a+b))) ds h Q) :
  DS E ops (⟨dst,.binOp .add xt x y yt,ty,pos,af,none⟩ ::l) O ds h Q:=Gj rfl rfl hp (C6 hx hy hr k)
def skipB(N:Nat)(ops:Array Oper)(o:Oper)(j d:Nat)(is:Bool):Bool:=(match o.guard with
 | some (i,w)=>i==j && w !=is
 | none=>false) && (match ops[j]? with
 | some oj=>(match oj.dst with
  | some e=>e==d
  | none=>false)
 | none=>false) && Nat.blt d N && C0 o.dst N
theorem Gs(j d:Nat){is:Bool}(hv:O d=.bool is)(hs:skipB E.N ops o j d is=true)(x:DS E ops l (putS O o.dst undef) ds h Q):DS E ops (o ::l) O ds h Q:=by
 simp only [skipB,Bool.and_eq_true] at hs;obtain ⟨⟨⟨h1,h2⟩,h3⟩,h4⟩:=hs;cases hg:o.guard with
 | none=>rw [hg] at h1;cases h1
 | some q=>
  obtain ⟨i,w⟩:=q;rw [hg] at h1;simp only [Bool.and_eq_true,beq_iff_eq,bne_iff_ne,ne_eq] at h1;obtain ⟨rfl,hne⟩:=h1;cases hj:ops[i]? with
  | none=>rw [hj] at h2;cases h2
  | some oj=>
   cases hd:oj.dst with
   | none=>simp [hj,hd] at h2
   | some e=>
    obtain rfl:e=d:=by simpa [hj,hd] using h2
    exact PO hg hj hd hv h3 hne h4 x
def goB(N:Nat)(ops:Array Oper)(o:Oper)(j d:Nat)(is:Bool):Bool:=(match o.guard with
 | some (i,w)=>i==j && w==is
 | none=>false) && (match ops[j]? with
 | some oj=>(match oj.dst with
  | some e=>e==d
  | none=>false)
 | none=>false) && Nat.blt d N && !C4 o.op && C0 o.dst N
theorem Gg(j d:Nat){is:Bool}(hv:O d=.bool is)(hs:goB E.N ops o j d is=true)(x:BT E o O ds h λσ' ds' h'=>DS E ops l σ' ds' h' Q):DS E ops (o ::l) O ds h Q:=by
 simp only [goB,Bool.and_eq_true,Bool.not_eq_true'] at hs;obtain ⟨⟨⟨⟨h1,h2⟩,h3⟩,h5⟩,h4⟩:=hs;cases hg:o.guard with
 | none=>rw [hg] at h1;cases h1
 | some q=>
  obtain ⟨i,w⟩:=q;rw [hg] at h1;simp only [Bool.and_eq_true,beq_iff_eq] at h1;obtain ⟨rfl,rfl⟩:=h1;cases hj:ops[i]? with
  | none=>rw [hj] at h2;cases h2
  | some oj=>
   cases hd:oj.dst with
   | none=>simp [hj,hd] at h2
   | some e=>
    obtain rfl:e=d:=by simpa [hj,hd] using h2
    exact trL_opg hg hj hd hv h3 (.inr h5) h4 x
end
section
variable {S:Nat->Prop} {Pre:Nat->GH->Prop} {Φ:List Law2} {cl:List Nat} {k d:Nat} {h h':GH} {O:Nat->Value} {ds:List Deferred} {v:Value}
theorem fL{Φ:List R5}(p:MM Φ k v h):ds=ds/\GH.Le h h/\∃w,putS O (some d) v=putS O (some d) w/\MM Φ k w h:=⟨rfl,GH.Le.refl _,_,rfl,p⟩
theorem K1{R:GH->GH->Prop}{Φ:List R5}{a:Value}(x:GL R Φ):GL R (lF a ::Φ):=⟨λ_ _ _ _ y=>y,x⟩
theorem K2{R:GH->GH->Prop}{Φ:List R5}{a b:Value}(x:GL R Φ):GL R (lF a ::lF b ::Φ):=K1 (K1 x)
theorem K4{R:GH->GH->Prop}{Φ:List R5}{a b c d:Value}(x:GL R Φ):GL R (lF a ::lF b ::lF c ::lF d ::Φ):=K2 (K2 x)
theorem K8{R:GH->GH->Prop}{Φ:List R5}{a b c d a' b' c' d':Value}(x:GL R Φ):GL R (lF a ::lF b ::lF c ::lF d ::lF a' ::lF b' ::lF c' ::lF d' ::Φ):=K4 (K4 x)
end
end Go.Ns
namespace Go.Ns
open Go.Conc
section
variable {P:Program} {E:Gh P} {O:Nat->Value} {ds:List Deferred} {h:GH} {Q:Post} {T:(Nat->Value)->List Deferred->GH->Prop}
variable {dst:Option Nat} {ty:TypeId} {pos:String} {af:Array Edge} {ops:Array Oper} {o:Oper} {l:List Oper} {gd:Option (Nat×Bool)}
theorem Mz{x:Operand}(v:Value)(e:(C0 dst E.N,AR O x)=(true,v))(k:DS E ops l (putS O dst v) ds h Q):DS E ops (⟨dst,.move x,ty,pos,af,none⟩ ::l) O ds h Q:=Mv v (congrArg Prod.fst e) (congrArg Prod.snd e) k
theorem Az{x:Operand}(v:Value)(e:(C0 dst E.N,AR O x)=(true,v))(k:DS E ops l (putS O dst v) ds h Q):DS E ops (⟨dst,.assign x,ty,pos,af,none⟩ ::l) O ds h Q:=As v (congrArg Prod.fst e) (congrArg Prod.snd e) k
theorem Lz{t:TypeId}{x:Operand}{b off:Nat}(v:Value)(e:(C0 dst E.N,AR O x)=(true,.pointer (some ⟨b,off,none⟩)))(hr:Rd P h t b off v)(k:DS E ops l (putS O dst v) ds h Q):DS E ops (⟨dst,.load t x,ty,pos,af,none⟩ ::l) O ds h Q:=
 Ld v (congrArg Prod.fst e) (congrArg Prod.snd e) hr k
theorem Fz{s:TypeId}{x:Operand}{f o b off:Nat}(hf:Dw P s f=some o)(e:(C0 dst E.N,AR O x)=(true,.pointer (some ⟨b,off,none⟩)))(k:DS E ops l (putS O dst (.pointer (some ⟨b,off+o,none⟩))) ds h Q) :
  DS E ops (⟨dst,.fieldAddr s x f,ty,pos,af,none⟩ ::l) O ds h Q:=Fa hf (congrArg Prod.fst e) (congrArg Prod.snd e) k
theorem Pz{c a b:Operand}(t:Bool)(v:Value)(e:(C0 dst E.N,AR O c,(if t then AR O a else AR O b))=(true,.bool t,v))(k:DS E ops l (putS O dst v) ds h Q):DS E ops (⟨dst,.pick c a b,ty,pos,af,none⟩ ::l) O ds h Q:=
 Pk t v (congrArg Prod.fst e) (congrArg (λq=>q.2.1) e) (congrArg (λq=>q.2.2) e) k
theorem Yd{xt yt:TypeId}{x y:Operand}{a b:Int}(e:(C0 dst E.N,AR O x,AR O y)=(true,.int .i64 a,.int .i64 b))(hr: -9223372036854775808<=a+b/\a+b<=9223372036854775807)(k:DS E ops l (putS O dst (.int .i64 (a+b))) ds h Q) :
  DS E ops (⟨dst,.binOp .add xt x y yt,ty,pos,af,none⟩ ::l) O ds h Q:=Ad a b (congrArg Prod.fst e) (congrArg (λq=>q.2.1) e) (congrArg (λq=>q.2.2) e) hr k
theorem Mo{x:Operand}(v:Value)(hx:AR O x=v)(k:T (putS O dst v) ds h):BT E ⟨dst,.move x,ty,pos,af,gd⟩ O ds h T:=Tk hx k
theorem Lo{t:TypeId}{x:Operand}{b off:Nat}(v:Value)(hx:AR O x=.pointer (some ⟨b,off,none⟩))(hr:Rd P h t b off v)(k:T (putS O dst v) ds h):BT E ⟨dst,.load t x,ty,pos,af,gd⟩ O ds h T:=CO hx hr k
theorem Ex{x:Operand}{n:Nat}{vs:Array Value}(v:Value)(e:(AR O x,vs[n]?)=(.tuple vs,some v))(k:T (putS O dst v) ds h):BT E ⟨dst,.extract x n,ty,pos,af,gd⟩ O ds h T:=Wv (congrArg Prod.fst e) (congrArg Prod.snd e) k
theorem Bo{t:TypeId}{x:Operand}{v:Value}(c:Array Value)(hx:AR O x=v)(hc:v.cells=c)
  (k:∀r h',h r=none->h.Le h'->h' r=some (true,.cells c t (0,0))->(∀b,b≠r->h' b=h b)->T (putS O dst (.pointer (some ⟨r,0,none⟩))) ds h'):BT E ⟨dst,.box t x,ty,pos,af,gd⟩ O ds h T:=Tm hx hc k
theorem So{t:TypeId}{a x:Operand}{b off n:Nat}{g:Bool}{c:Array Value}{et:TypeId}(v:Value)(c':Array Value)(ht:Cc P t=some (g,n))(e:(AR O a,AR O x)=(.pointer (some ⟨b,off,none⟩),v))(hb:h b=some (true,.cells c et (0,0)))
  (e2:(v.cells.size,Value.fine v)=(n,true)) (hn:off+n<=c.size) (hc:Bq c off v.cells.toList=c') (k:∀h',h' b=some (true,.cells c' et (0,0))->(∀x,x≠b->h' x=h x)->T (putS O dst undef) ds h') :
  BT E ⟨dst,.store t a x,ty,pos,af,gd⟩ O ds h T:=Ae ht (congrArg Prod.fst e) (congrArg Prod.snd e) hb (congrArg Prod.fst e2) (congrArg Prod.snd e2) hn hc k
theorem Ot{fn:Func}{R:Value->GH->Prop}{t:Tmp}(v:Value)(e:(fn.results,O t)=(#[.tmp t],v))(x:R v h):Gi P fn O R [] h:=Jv (congrArg Prod.fst e) (congrArg Prod.snd e) x
theorem Ou{fn:Func}{R:Value->GH->Prop}{t u:Tmp}(v v':Value)(e:(fn.results,O t,O u)=(#[.tmp t,.tmp u],v,v'))(x:R (.tuple #[v,v']) h):Gi P fn O R [] h:=outs2 (congrArg Prod.fst e) (congrArg (λq=>q.2.1) e) (congrArg (λq=>q.2.2) e) x
theorem Sr{id:Nat}{y:Code}(a:DS E l.toArray l O ds h (λe σ' ds' h'=>match e with | .normal=>Tr E y σ' ds' h' Q | e=>Q e σ' ds' h')):Tr E (.seq (.region id l.toArray false) y) O ds h Q:=Sq (Rg a)
theorem S2{id:Nat}{y z:Code}(a:DS E l.toArray l O ds h (λe σ' ds' h'=>match e with | .normal=>Tr E y σ' ds' h' (λe σ' ds' h'=>match e with | .normal=>Tr E z σ' ds' h' Q | e=>Q e σ' ds' h') | e=>(λe σ' ds' h'=>match e with | .normal=>Tr E z σ' ds' h' Q | e=>Q e σ' ds' h') e σ' ds' h')) :
  Tr E (.seq (.seq (.region id l.toArray false) y) z) O ds h Q:=Sq (Sq (Rg a))
theorem Zr{V:Type}{a b:V}:a=b\/a=a:=.inr rfl
theorem M2{x x':Operand}{dst':Option Nat}{ty':TypeId}{pos':String}{af':Array Edge}(v v':Value)(e:(C0 dst E.N,AR O x,C0 dst' E.N,AR (putS O dst v) x')=(true,v,true,v'))(k:DS E ops l (putS (putS O dst v) dst' v') ds h Q):DS E ops (⟨dst,.move x,ty,pos,af,none⟩ ::⟨dst',.move x',ty',pos',af',none⟩ ::l) O ds h Q:=
 Mv v (congrArg Prod.fst e) (congrArg (λq=>q.2.1) e) (Mv v' (congrArg (λq=>q.2.2.1) e) (congrArg (λq=>q.2.2.2) e) k)
theorem A2{x x':Operand}{dst':Option Nat}{ty':TypeId}{pos':String}{af':Array Edge}(v v':Value)(e:(C0 dst E.N,AR O x,C0 dst' E.N,AR (putS O dst v) x')=(true,v,true,v'))(k:DS E ops l (putS (putS O dst v) dst' v') ds h Q):DS E ops (⟨dst,.assign x,ty,pos,af,none⟩ ::⟨dst',.assign x',ty',pos',af',none⟩ ::l) O ds h Q:=
 As v (congrArg Prod.fst e) (congrArg (λq=>q.2.1) e) (As v' (congrArg (λq=>q.2.2.1) e) (congrArg (λq=>q.2.2.2) e) k)
theorem Ct{W:Wk P}{f:FuncId}{fn:Func}{c:Code}{args:Array Value}{R:Value->GH->Prop}(hf:P.funcs[f]? =some fn)(e:(fn.body,Nat.ble args.size fn.ntmps)=(some c,true))
  (x:Tr ⟨W,f,none,fn.ntmps⟩ c (λi=>args.getD i undef) [] h (λe O ds h'=>(e=.normal\/e=.ret)/\Gi P fn O R ds h')):AU W f args h R:=Wu hf (congrArg Prod.fst e) (Nat.le_of_ble_eq_true (congrArg Prod.snd e)) x
end
section
variable {P:Program} {E:Gh P} {l:List Oper} {n:Nat} {fl:Bool} {hs:GH} {ds:List Deferred} {Lw:Nat->Value->GH->Prop} {F:(Nat->Value)->GH->Prop} {π:List Nat} {O:Nat->Value} {h:GH} {m k g d:Nat} {dst:Option Nat} {op:Op} {ty:TypeId} {pos:String} {af:Array Edge} {v:Value} {w is:Bool} {og:Oper}
theorem Rz(e:(LK m,l[k]?)=((.r,k),some ⟨dst,op,ty,pos,af,none⟩))(x:Ts E ⟨dst,op,ty,pos,af,none⟩ O ds h v)(y:TD E l n fl hs ds Lw F (dK π) (putS O dst v) h):TD E l n fl hs ds Lw F (dK (m ::π)) O h:=tR (congrArg Prod.fst e) (congrArg Prod.snd e) x y
theorem Rm{x:Operand}(v:Value)(e:(LK m,l[k]?,AR O x)=((.r,k),some ⟨dst,.move x,ty,pos,af,none⟩,v))(y:TD E l n fl hs ds Lw F (dK π) (putS O dst v) h):TD E l n fl hs ds Lw F (dK (m ::π)) O h:=
 tR (congrArg Prod.fst e) (congrArg (λq=>q.2.1) e) (Tk (congrArg (λq=>q.2.2) e) vz) y
theorem Rl{t:TypeId}{x:Operand}{b off:Nat}(v:Value)(e:(LK m,l[k]?,AR O x)=((.r,k),some ⟨dst,.load t x,ty,pos,af,none⟩,.pointer (some ⟨b,off,none⟩)))(hr:Rd P h t b off v)(y:TD E l n fl hs ds Lw F (dK π) (putS O dst v) h):TD E l n fl hs ds Lw F (dK (m ::π)) O h:=
 tR (congrArg Prod.fst e) (congrArg (λq=>q.2.1) e) (CO (congrArg (λq=>q.2.2) e) hr vz) y
theorem Py(e:(LK m,l[k]?)=((.p,k),some ⟨dst,op,ty,pos,af,none⟩))(x:∀hx,Ts E ⟨dst,op,ty,pos,af,none⟩ O ds hx v)(y:TD E l n fl hs ds Lw F (dK π) (putS O dst v) h):TD E l n fl hs ds Lw F (dK (m ::π)) O h:=tP (congrArg Prod.fst e) (congrArg Prod.snd e) x y
theorem Ry(e:(LK m,l[k]?,l[g]?,og.dst)=((.r,k),some ⟨dst,op,ty,pos,af,some (g,w)⟩,some og,some d))(h3:O d=.bool w)(x:Ts E ⟨dst,op,ty,pos,af,some (g,w)⟩ O ds h v)
  (y:TD E l n fl hs ds Lw F (dK π) (putS O dst v) h):TD E l n fl hs ds Lw F (dK (m ::π)) O h:=tRg (congrArg Prod.fst e) (congrArg (λq=>q.2.1) e) (congrArg (λq=>q.2.2.1) e) (congrArg (λq=>q.2.2.2) e) h3 x y
theorem Sz{kd:Kd}(e:(LK m,l[k]?,l[g]?,og.dst)=((kd,k),some ⟨dst,op,ty,pos,af,some (g,w)⟩,some og,some d))(h3:O d=.bool is)(hne:(is==w)=false)
  (y:TD E l n fl hs ds Lw F (dK π) (putS O dst undef) h) (hl:(kd !=Kd.l)=true:=by rfl):TD E l n fl hs ds Lw F (dK (m ::π)) O h:=tS (congrArg Prod.fst e) (congrArg (λq=>q.2.1) e) (congrArg (λq=>q.2.2.1) e) (congrArg (λq=>q.2.2.2) e) h3 hne y hl
end
end Go.Ns
namespace Go.Ns
open Go.Conc
structure E6(h:GH)(ps:List ByteArray)(psv:Value)(ws:List AB)(wsv:Value)(js:List AM)(jsv:Value)(ns:List AJ)(nsv:Value):Prop where
 a:AO h psv 1 E5 ps
 b:AO h wsv 4 Dp ws
 c:AO h jsv 5 Cs js
 d:CY h js
 e:AO h nsv 3 CD ns
 f:Ax h ns
theorem E6.le{h h':GH}{ps:List ByteArray}{psv:Value}{ws:List AB}{wsv:Value}{js:List AM}{jsv:Value}{ns:List AJ}{nsv:Value}(x:E6 h ps psv ws wsv js jsv ns nsv)(l:h.Le h'):E6 h' ps psv ws wsv js jsv ns nsv:=⟨x.1.le l,x.2.le l,x.3.le l,x.4.le l,x.5.le l,x.6.le l⟩
abbrev J(x:Int):Value:=.int .i64 x
abbrev Pt(b:Nat):Value:=.pointer (some ⟨b,0,none⟩)
abbrev Sc(b:Nat)(n c:Nat):Value:=.slice (some ⟨b,0,none⟩) n c
abbrev Q0:Array Value:=#[J 0,J 0,.slice none 0 0,.slice none 0 0,.slice none 0 0,.slice none 0 0,.slice none 0 0,.map none]
abbrev Q1(a:List AB)(b:List AM)(c:List AJ)(d:Nat):Array Value:=#[J (((AE a b c).getD (((d:Int)-1).toNat) AD.zero).ways 0),J (((AE a b c).getD (((d:Int)-1).toNat) AD.zero).ways 1),J (((AE a b c).getD (((d:Int)-1).toNat) AD.zero).ways 2),J (((AE a b c).getD (((d:Int)-1).toNat) AD.zero).ways 3),J (((AE a b c).getD (((d:Int)-1).toNat) AD.zero).ways 4)]
abbrev Q2(a:List AB)(b:List AM)(c:List AJ)(d:Nat):Array Value:=#[J (((AE a b c).getD d AD.zero).ways 0),J (((AE a b c).getD d AD.zero).ways 1),J (((AE a b c).getD d AD.zero).ways 2),J (((AE a b c).getD d AD.zero).ways 3),J (((AE a b c).getD d AD.zero).ways 4)]
abbrev Q3(a:List AB)(b:Nat):Array Value:=#[J ((a.getD b AB.z).a),J ((a.getD b AB.z).b),J ((a.getD b AB.z).low),J ((a.getD b AB.z).high)]
abbrev Q4(a:ByteArray)(b:Nat):=decide (¬(((97<=((bytesOf a).getD b 0))/\(((bytesOf a).getD b 0)<=122))\/(((0<(b:Int))/\(48<=((bytesOf a).getD b 0)))/\(((bytesOf a).getD b 0)<=57))))
abbrev Q5(a:Int):=LD (LD a (Fl a 13)) ((LD a (Fl a 13)) / 128)
abbrev Q6:Value:=.slice none 0 0
abbrev Q7(a:List AJ)(b:Nat):Array Value:=#[(a.getD b AJ.z).wv,J ((a.getD b AJ.z).low),J ((a.getD b AJ.z).high)]
abbrev Q8(a:ByteArray)(b:Nat):=(bytesOf a).getD b 0
abbrev Q9(a:List AM)(b:Nat):=decide ((¬(((0<=((a.getD b AM.z).low)/\((a.getD b AM.z).low)<=((a.getD b AM.z).high))/\((a.getD b AM.z).high)<=30)/\((a.getD b AM.z).high)-((a.getD b AM.z).low)<2))\/(¬(0<=((a.getD b AM.z).due)/\((a.getD b AM.z).due)<=200)))
abbrev Qa(a:List AB)(b:Nat):=(a.getD b AB.z).b
abbrev Qb(a:List AM)(b:Nat):Array Value:=#[J ((a.getD b AM.z).place),J ((a.getD b AM.z).low),J ((a.getD b AM.z).high),J ((a.getD b AM.z).due),(a.getD b AM.z).pv]
abbrev Qc(a:List AD)(b:Nat):=(a.drop (1)).getD b AD.zero
abbrev Qd(a:List Value)(b:Array Int)(c:Nat)(d:Nat):=Br a ((b.setIfInBounds c (b[d]!)).setIfInBounds d (b[c]!))
abbrev Qe(a:Nat)(b:Array Int)(c:Nat):=Sc a b.size c
abbrev My(a:List AB)(b:Nat):=(a.getD b AB.z).a
abbrev Q2e(a:List AM)(b:Nat):=(a.getD b AM.z).high
abbrev Q2f(a:List AM)(b:Nat):=(a.getD b AM.z).low
abbrev Q2g(a:List ByteArray)(b:List AB)(c:List AM)(d:List AJ):=decide ((((20<(a.length:Int))\/(20<(b.length:Int)))\/(20<(c.length:Int)))\/(20<(d.length:Int)))
abbrev Q2h(a:List AB)(b:Nat):Array Value:=#[J ((a.getD b AB.z).low),J ((a.getD b AB.z).high)]
abbrev CW(a:List AB)(b:List AM)(c:List AJ):=AE a b c
abbrev Q2j(a:List P2)(b:Nat):=Du ((a.getD b P2.z).w.2) ((a.getD b P2.z).k.2)
abbrev Q2k(a:Int)(b:Int):=decide ((¬(0<=a/\a<=9))\/(¬(0<=b/\b<=3)))
abbrev WH(a:Int)(b:Int):Value:=.bool (decide (a<=b))
abbrev Ef(a:Int)(b:Int)(c:List ByteArray)(d:List AB)(e:List AM)(f:List AJ):=Ac a b c d e f 0
abbrev Q2n(a:Int)(b:Int)(c:Int)(d:Int):=decide ((((0<=a)/\(a<=b))/\(b<=c))/\((b-a)<d))
abbrev Q2o(a:List ByteArray)(b:List AB)(c:Nat):=J (B5 a.length [(b.getD c AB.z).a,(b.getD c AB.z).b])
abbrev Q2p(a:Nat)(b:Nat)(c:Array Int)(d:Nat):=decide (((a:Int)<=(b:Int))/\(¬((c[b]!)<(c[d]!))))
abbrev Zy(a:List AD):=a.getD 0 AD.zero
abbrev Wo(a:List AM)(b:List Int):=Aj a.length b
abbrev Q2s(a:List AB)(b:List AM)(c:List AJ)(d:Nat):Value:=.agg (Af ((AE a b c).getD d AD.zero))
abbrev Q2t(a:List AM)(b:List Int)(c:Int):=(a.getD ((b.getD (c.toNat) 0).toNat) AM.z).due
abbrev Oh(a:List Int)(b:Nat):=J (a.getD b 0)
abbrev Zz(a:List ByteArray)(b:Int)(c:Int):=B5 a.length [b,c]
abbrev Q2w(a:List AJ)(b:Nat):Array Value:=#[J ((a.getD b AJ.z).low),J ((a.getD b AJ.z).high)]
abbrev Z0(a:List AM)(b:Int):=FV a.length b
abbrev Q2y(a:List AJ)(b:Nat)(c:Nat):=((a.getD b AJ.z).ways).getD c 0
abbrev Q2z(a:Int)(b:Int):=decide (((0<=a/\a<=b)/\b<=30)/\((b-a)<2))
abbrev Q30(a:List Value)(b:Array Int)(c:Nat)(d:Nat):=Br a (b.setIfInBounds c (b[d]!))
abbrev Q31(a:Nat):=J ((2*(a:Int))+1)
abbrev Q32(a:Nat)(b:Int)(c:Array Int)(d:Nat):=decide (((((2*(a:Int))+1)+1)<b)/\((c[(d+((2*a)+1))]!)<(c[((d+((2*a)+1))+1)]!)))
abbrev Q33(a:List AM)(b:List Int)(c:Int):=EU a.length b c
abbrev Q34(a:Int)(b:Int)(c:Int):=decide ((a<=b)/\(b<=c))
abbrev Q35(a:Nat)(b:Nat):Value:=.bool (decide ((a:Int)<=(b:Int)))
abbrev Q36(a:List AB)(b:List AM)(c:List AJ):=J ((AE a b c).length:Int)
abbrev Q37(a:Nat)(b:Nat):=J ((a:Int)-(b:Int))
abbrev Q38(a:Int)(b:Int)(c:Int)(d:Int):=decide (((a<=b)/\(b<=c))/\(c<=d))
abbrev Q39(a:Nat)(b:Nat)(c:Array Int):=decide (((a:Int)<(b:Int))/\((c[b]!)<(c[((b:Int)-1).toNat]!)))
abbrev Q3a(a:List AM)(b:Nat):=(a.getD b AM.z).due
abbrev Q3b(a:List AJ)(b:Nat):=(a.getD b AJ.z).wv
abbrev Q3c:Array Value:=#[J 0,J 0,.slice none 0 0,.slice none 0 0,.slice none 0 0,.slice none 0 0]
abbrev Q3d(a:Nat):=J (((2*(a:Int))+1)+1)
abbrev Q3e(a:Nat)(b:Array Int)(c:Nat):=decide ((0<(a:Int))/\(¬((b[((a:Int)-1).toNat]!)<(b[c]!))))
abbrev Q3f(a:ByteArray):=decide (((a.size:Int)<1)\/(10<(a.size:Int)))
abbrev Q3g(a:Int):=decide ((97<=a)/\(a<=122))
abbrev WI(a:Int)(b:Int)(c:Value)(d:Value)(e:Value)(f:Value):Array Value:=#[.agg #[J a,J b,c,d,e,f]]
abbrev Q3i(a:Array Int)(b:Nat)(c:Nat):=decide (¬((a[b]!)<(a[c]!)))
abbrev Q3j(a:Int):=decide (¬(0<=a/\a<=3))
abbrev Q3k(a:Nat):=J ((a:Int)+1)
abbrev Q3l(a:List Int)(b:Nat)(c:List Int):=J (T0 (a.getD b 0) (c.getD b 0))
abbrev Q3m(a:List Sl)(b:Nat):=((a.drop (1)).getD b Sl.z).1
abbrev Q3n(a:List Int):Array Value:=#[J (a.getD 0 0),J (a.getD 0 0)]
abbrev Q3o(a:Int):=decide ((48<=a)/\(a<=57))
abbrev Q3p(a:Nat):Value:=.func (.func 95) #[] #[Pt a]
abbrev Q3q(a:Nat):Value:=.func (.func 69) #[] #[Pt a]
abbrev Q3r:=Af AD.zero
abbrev Q3s(a:Nat)(b:Nat):Value:=.func (.func 81) #[] #[Pt a,Pt b]
abbrev Q3t(a:Nat)(b:Nat):Value:=.func (.func 66) #[] #[Pt a,Pt b]
abbrev Q3u(a:List AM)(b:List Int)(c:Nat):=J (FV a.length (b.getD c 0))
abbrev Q3v(a:List AB)(b:Nat):=Dp (a.getD b AB.z)
end Go.Ns
