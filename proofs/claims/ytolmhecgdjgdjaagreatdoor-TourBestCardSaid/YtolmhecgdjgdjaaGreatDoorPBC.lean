/- Rules and walks, part 3 of 7. No conditions. -/
import Derived.Carry
import Derived.Conc.LeavingOf
import Derived.LaidMore
import Derived.OpenShut
import Derived.Test.YtolmhecgdjgdjaaGreatDoorPBB
import Derived.Test.YtolmhecgdjgdjaaGreatDoorProg
set_option linter.unusedVariables false
set_option linter.unusedSimpArgs false
set_option linter.unnecessarySimpa false
set_option linter.unusedSectionVars false
namespace Go.Ns
open Go.Conc
section
variable {P:Program} {E:GQ P} {O:Nat->Value} {ds:List Deferred} {h:GH} {T:(Nat->Value)->List Deferred->GH->Prop} {dst:Option Nat} {ty:TypeId} {pos:String} {af:Array Edge} {gd:Option (Nat×Bool)}
theorem TM{xt yt:TypeId}{x y:Operand}{a b:Bool}(hx:AQ O x=.bool a)(hy:AQ O y=.bool b)(he:Od P 1 xt (.bool a) (.bool b)=some (a==b))(k:T (putS O dst (.bool (a==b))) ds h):BX E ⟨dst,.binOp .eql xt x y yt,ty,pos,af,gd⟩ O ds h T:=by
 unfold BX execOp;simp only [hx,hy];refine Fy (AF _ _ ?_);have hg:∀(Q:Unit->GH->Prop),Q () h->(eqGuard .eql xt x y (.bool a) (.bool b)).gh P h Q:=λQ q=>q;refine hg _ ?_;show Sem.gh P (do pure (Value.bool (<-Op.equal xt (.bool a) (.bool b))):Sem Value) h _;refine AF _ _ ?_;exact I3 1 _ _ _ _ (a==b) h _ aC he k
theorem Qb{t:TypeId}{x o:Operand}{m n b off hi:Nat}(ht:NE P t=some (m,n))(hx:AQ O x=.pointer (some ⟨b,off,none⟩))(ho:∃kd,AQ O o=.int kd hi)(h2:hi<=m)(k:T (putS O dst (.slice (some ⟨b,off,none⟩) hi m)) ds h) :
  BX E ⟨dst,.slice t x none (some o) none,ty,pos,af,gd⟩ O ds h T:=by
 obtain ⟨kd,e⟩:=ho;unfold BX execOp;simp only [hx];refine Fy ?_;unfold NE at ht;unfold Instr.sliceAt;cases hu:P.underlying t with
 | none=>rw [hu] at ht;cases ht
 | some d=>
  rw [hu] at ht;cases d <;> first | (cases ht;done) | skip
  rename_i el
  simp only [Option.map_eq_some_iff,Prod.mk.injEq] at ht;obtain ⟨x0,hx0,rfl,rfl⟩:=ht;refine AF _ _ (An hu ?_);dsimp only;refine AF _ _ (Aw ?_);unfold Instr.sliceBounds;simp only [Option.map_some,Option.map_none,e,Bool.false_eq_true,↓reduceIte];refine AF _ _ (AF _ _ (Aw (AF _ _ (DN aA aA (AF _ _ (Aw (Aw ?_)))))));refine AF _ _ (EB hx0 (Aw ?_));simp only [Nat.sub_zero,Nat.zero_mul,Iz,Nat.add_zero,ite_self,Int.toNat_natCast];exact k
end
def eBo(b:Bool):Array Value:=#[.bool b]
theorem can_sl{h:GH}{r n:Nat}{p:Bool}{c:HH}{t:TypeId}{f:Nat×Nat}(hb:h r=some (p,.cells (F8 c) t f))(hn:n<=4):AD h (.slice (some ⟨r,0,none⟩) n 4) 1 eBo (PC c n):=by
 refine ⟨some ⟨r,0,none⟩,4,by simp [PC],by simpa [PC] using hn,by simp [PC];omega,λi hi=>⟨r,0,rfl,p,_,t,f,hb,?_,?_⟩⟩
 ·have:i<n:=by simpa [PC] using hi
  show 0+i*1+1<=4;omega
 ·have hi':i<n:=by simpa [PC] using hi
  have h4:i<4:=aA
  have e:(PC c n)[i]=c i:=by simp [PC]
  rw [e]
  match i,h4 with
  | 0,_=>rfl
  | 1,_=>rfl
  | 2,_=>rfl
  | 3,_=>rfl
theorem PG{ws:List AE}{c c':HH}{np k:Nat}(h:Ep ws (np-k) c=c')(hk:np<=k):c=c':=by
 rw [Nat.sub_eq_zero_of_le hk] at h;exact h
theorem UU{ws:List AE}{c c':HH}{np k:Nat}(h:Ep ws (np-k) c=c')(hk:k<np):Ep ws (np-(k+1)) (Gz ws c)=c':=by
 rw [show np-k=(np-(k+1))+1 by omega] at h;exact h
def BJ(ws:List AE)(c:HH)(k:Nat):HH:=(ws.take k).foldl Hv c
theorem WH{ws:List AE}{c:HH}{k:Nat}(hk:k<ws.length):BJ ws c (k+1)=Hv (BJ ws c k) (ws.getD k AE.z):=by
 unfold BJ;rw [Du AE.z hk,List.foldl_append];rfl
theorem ZA{ws:List AE}{c:HH}{k:Nat}(hk:ws.length<=k):BJ ws c k=Gz ws c:=by
 unfold BJ Gz;rw [List.take_of_length_le hk]
structure AG where
 ways:Nat->Int
 works:Nat->Int
def AG.zero:AG:=⟨λ_=>0,λ_=>0⟩
def Ag(p:AG):Array Value:=#[.int .i64 (p.ways 0),.int .i64 (p.ways 1),.int .i64 (p.ways 2),.int .i64 (p.ways 3),.int .i64 (p.ways 4),
 .int .i64 (p.works 0),.int .i64 (p.works 1),.int .i64 (p.works 2),.int .i64 (p.works 3)]
theorem Fo(p:AG):(Value.agg (Ag p)).cells.size=9:=rfl
theorem Fp(p:AG):Value.fine (.agg (Ag p))=true:=rfl
theorem Ga(p:AG):0+9<=(Ag p).size:=Nat.le_refl 9
theorem Gb(p q:AG):B1 (Ag p) 0 (Value.agg (Ag q)).cells.toList=Ag q:=by
 simp [Value.cells,Ag,B1]
def AG.setWay(p:AG)(i:Nat)(n:Int):AG:={ p with ways:=λk=>if k=i then n else p.ways k }
def AG.setWork(p:AG)(i:Nat)(n:Int):AG:={ p with works:=λk=>if k=i then n else p.works k }
theorem Gc{p:AG}{i:Nat}(h:i<5):(Ag p)[0+i*1]? =some (.int .i64 (p.ways i)):=by
 match i,h with
 | 0,_=>rfl
 | 1,_=>rfl
 | 2,_=>rfl
 | 3,_=>rfl
 | 4,_=>rfl
theorem Jr{p:AG}{i:Nat}(h:i<4):(Ag p)[5+i*1]? =some (.int .i64 (p.works i)):=by
 match i,h with
 | 0,_=>rfl
 | 1,_=>rfl
 | 2,_=>rfl
 | 3,_=>rfl
theorem Q0{p:AG}{i:Nat}{n:Int}(h:i<5):B1 (Ag p) (0+i*1) [.int .i64 n]=Ag (p.setWay i n):=by
 match i,h with
 | 0,_=>rfl
 | 1,_=>rfl
 | 2,_=>rfl
 | 3,_=>rfl
 | 4,_=>rfl
theorem PH{p:AG}{i:Nat}{n:Int}(h:i<4):B1 (Ag p) (5+i*1) [.int .i64 n]=Ag (p.setWork i n):=by
 match i,h with
 | 0,_=>rfl
 | 1,_=>rfl
 | 2,_=>rfl
 | 3,_=>rfl
def AG.put(p:AG)(nw i:Nat)(n:Int):AG:=if i<nw then p.setWay i n else p.setWork (i-nw) n
theorem AG.put_put(p:AG)(nw i:Nat)(n m:Int):(p.put nw i n).put nw i m=p.put nw i m:=by
 unfold AG.put;split
 ·unfold AG.setWay;congr 1;funext k;simp only [];split <;> rfl
 ·unfold AG.setWork;congr 1;funext k;simp only [];split <;> rfl
def Fc(p:AG)(l:List Int):Int:=(l.map λk=>p.ways k.toNat).sum
def Ck(ns:List AJ)(p:AG):Bool:=ns.all λx=>decide (x.low<=Fc p x.ways/\Fc p x.ways<=x.high)
structure B2(p:AG):Prop where
 ways:∀k,0<=p.ways k/\p.ways k<=30
 works:∀k,0<=p.works k/\p.works k<=30
def OI(ns:List AJ)(p:AG)(k:Nat):Bool:=decide ((ns.getD k AJ.z).low<=Fc p (ns.getD k AJ.z).ways/\Fc p (ns.getD k AJ.z).ways<=(ns.getD k AJ.z).high)
theorem TN{p:AG}{l:List Int}{q:Nat}(h:q<l.length):Fc p (l.take (q+1))=Fc p (l.take q)+p.ways (l.getD q 0).toNat:=by
 unfold Fc;rw [Du 0 h];simp
theorem NU{p:AG}{l:List Int}{q:Nat}(h:l.length<=q):Fc p (l.take q)=Fc p l:=by rw [List.take_of_length_le h]
theorem UV{p:AG}{ns:List AJ}{k q:Nat}{s:Int}(hs:s=Fc p ((ns.getD k AJ.z).ways.take q))(hq:(ns.getD k AJ.z).ways.length<=q)(h:(ns.getD k AJ.z).low<=s/\s<=(ns.getD k AJ.z).high):OI ns p k=true:=by
 rw [NU hq] at hs;subst hs;exact decide_eq_true h
theorem WI{p:AG}{ns:List AJ}{k:Nat}(h:∀j,j<k->OI ns p j=true)(hk:ns.length<=k):Ck ns p=true:=by
 unfold Ck;rw [List.all_eq_true];intro x hx;obtain ⟨i,hi,rfl⟩:=List.mem_iff_getElem.1 hx
 have:=h i aA
 unfold OI at this;rw [Dm AJ.z hi] at this;exact this
theorem ZB{p:AG}{ns:List AJ}{k q:Nat}{s:Int}(hk:k<ns.length)(hs:s=Fc p ((ns.getD k AJ.z).ways.take q))(hq:(ns.getD k AJ.z).ways.length<=q)(h:¬((ns.getD k AJ.z).low<=s/\s<=(ns.getD k AJ.z).high)):Ck ns p=false:=by
 rw [NU hq] at hs;subst hs;rw [Dm AJ.z hk] at h;unfold Ck;rw [List.all_eq_false];exact ⟨ns[k],List.getElem_mem hk,by simpa using h⟩
theorem PI{f:Nat->Bool}{k:Nat}(h:∀j,j<k->f j=true)(e:f k=true):∀j,j<k+1->f j=true:=λj hj=>by
 rcases Nat.lt_succ_iff_lt_or_eq.1 hj with q | rfl
 ·exact h j q
 ·exact e
theorem PJ{nw:Nat}{ns:List AJ}(h:∀k,k<ns.length->D4 nw ns k=0)(k:Nat):(ns.getD k AJ.z).ways.length<=5/\(∀q,0<=(ns.getD k AJ.z).ways.getD q 0/\((ns.getD k AJ.z).ways.getD q 0=0\/(ns.getD k AJ.z).ways.getD q 0<=(nw:Int)-1)):=by
 rcases Nat.lt_or_ge k ns.length with hk | hk
 ·have e:=h k hk;unfold D4 at e;split at e
  ·cases e
  ·split at e
   ·cases e
   ·rename_i h5 h6
    refine ⟨aA,λq=>?_⟩;rcases Nat.lt_or_ge q (ns.getD k AJ.z).ways.length with hq | hq
    ·have h7:¬∃x ∈ (ns.getD k AJ.z).ways,¬(0<=x/\x<=(nw:Int)-1):=by simpa [List.any_eq_true] using h6
     have h8:0<=(ns.getD k AJ.z).ways.getD q 0/\(ns.getD k AJ.z).ways.getD q 0<=(nw:Int)-1:=Classical.byContradiction λz=>h7 ⟨_,BQ hq,z⟩;exact ⟨h8.1,.inr h8.2⟩
    ·rw [CI hq];exact ⟨Int.le_refl _,.inl rfl⟩
 ·rw [CI hk];refine ⟨by simp [AJ.z],λq=>?_⟩;simp [AJ.z]
def CW(ws:List AE)(js:List AO)(i:Nat):Int:=if i<ws.length then (ws.getD i AE.z).low else (js.getD (i-ws.length) AO.z).low
def G0(ws:List AE)(js:List AO)(i:Nat):Int:=if i<ws.length then (ws.getD i AE.z).high else (js.getD (i-ws.length) AO.z).high
def Cr(ag:AG->Bool)(ws:List AE)(js:List AO):Nat->Nat->AG->List AG
 | 0,_,p=>[p]
 | f+1,i,p=>(Ig (CW ws js i) (G0 ws js i)).flatMap λn=>if i+1=ws.length/\ag (p.put ws.length i n)=false then [] else Cr ag ws js f (i+1) (p.put ws.length i n)
def CQ(ag:AG->Bool)(ws:List AE)(js:List AO)(f i:Nat)(p:AG)(n:Int):List AG:=
 if i+1=ws.length/\ag (p.put ws.length i n)=false then [] else Cr ag ws js f (i+1) (p.put ws.length i n)
theorem Gq(ag:AG->Bool)(ws:List AE)(js:List AO)(f i:Nat)(p:AG) :
  Cr ag ws js (f+1) i p=(Ig (CW ws js i) (G0 ws js i)).flatMap (CQ ag ws js f i p):=rfl
def AC(ws:List AE)(js:List AO)(ns:List AJ):List AG:=
 if 0<ws.length\/Ck ns AG.zero=true then Cr (Ck ns) ws js (ws.length+js.length) 0 AG.zero else []
def HI(nw i:Nat):Nat:=if i<nw then 0+i*1 else 5+(i-nw)*1
theorem ZC{nw i:Nat}(h:i<nw):HI nw i=0+i*1:=if_pos h
theorem WJ{nw i:Nat}(h:¬i<nw):HI nw i=5+(i-nw)*1:=if_neg h
theorem KJ{p:AG}{nw nj i:Nat}{v:Int}(hw:nw<=5)(hj:nj<=4)(hi:i<nw+nj):(Ag (p.put nw i v))[HI nw i]? =some (.int .i64 v):=by
 unfold AG.put HI;split
 ·rw [Gc aA];simp [AG.setWay]
 ·rw [Jr aA];simp [AG.setWork]
theorem F9{p:AG}{nw nj i:Nat}{v:Int}(hw:nw<=5)(hj:nj<=4)(hi:i<nw+nj):B1 (Ag p) (HI nw i) [.int .i64 v]=Ag (p.put nw i v):=by
 unfold AG.put HI;split
 ·exact Q0 aA
 ·exact PH aA
theorem Js{nw nj i:Nat}(hw:nw<=5)(hj:nj<=4)(hi:i<nw+nj):HI nw i+1<=9:=by unfold HI;split <;> omega
def AG.zeros(p:AG)(nw i:Nat):Prop:=(∀k,i<=k->k<nw->p.ways k=0)/\∀k,i<=nw+k->p.works k=0
theorem AG.zeros_put{p:AG}{nw i:Nat}(h:p.zeros nw i):p.put nw i 0=p:=by
 obtain ⟨wy,wo⟩:=p;unfold AG.put AG.setWay AG.setWork;split
 ·rename_i hi
  congr 1;funext k;split
  ·rename_i e;subst e;exact (h.1 k (Nat.le_refl _) hi).symm
  ·rfl
 ·rename_i hi
  congr 1;funext k;split
  ·rename_i e;subst e;exact (h.2 (i-nw) aA).symm
  ·rfl
theorem AG.zeros_next{p:AG}{nw i:Nat}{v:Int}(h:p.zeros nw i):(p.put nw i v).zeros nw (i+1):=by
 unfold AG.put;split
 ·refine ⟨λk h1 h2=>?_,λk h1=>h.2 k aA⟩;show (if k=i then v else p.ways k)=0;rw [if_neg aA];exact h.1 k aA h2
 ·refine ⟨λk h1 h2=>h.1 k aA h2,λk h1=>?_⟩;show (if k=i-nw then v else p.works k)=0;rw [if_neg aA];exact h.2 k aA
theorem AG.zeros_zero(nw i:Nat):AG.zero.zeros nw i:=⟨λ_ _ _=>rfl,λ_ _=>rfl⟩
theorem B2.zero:B2 AG.zero:=⟨λ_=>(aC:(0:Int)<=0/\(0:Int)<=30),λ_=>(aC:(0:Int)<=0/\(0:Int)<=30)⟩
theorem B2.put{p:AG}(h:B2 p){nw i:Nat}{v:Int}(hv:0<=v/\v<=30):B2 (p.put nw i v):=by
 unfold AG.put;split
 ·refine ⟨λk=>?_,h.works⟩;show 0<=(if k=i then v else p.ways k)/\(if k=i then v else p.ways k)<=30;split
  ·exact hv
  ·exact h.ways k
 ·refine ⟨h.ways,λk=>?_⟩;show 0<=(if k=i-nw then v else p.works k)/\(if k=i-nw then v else p.works k)<=30;split
  ·exact hv
  ·exact h.works k
section
variable {bag kinds:Int} {ps:List ByteArray} {ws:List AE} {js:List AO} {ns:List AJ} {ag:AG->Bool} {p:AG} {all pre:List AG} {f i k:Nat}
theorem BT.few(b:BT bag kinds ps ws js ns)(hi:i<ws.length+js.length):0<=CW ws js i/\CW ws js i<=G0 ws js i/\G0 ws js i<=30/\G0 ws js i-CW ws js i<2:=by
 unfold CW G0;by_cases h:i<ws.length
 ·rw [if_pos h,if_pos h];exact (US b.way i h).time
 ·rw [if_neg h,if_neg h];exact (PE (b.job (i-ws.length) aA)).time
theorem ZD(e:i+1=ws.length)(h:ag (p.put ws.length i (CW ws js i+(k:Int)))=false) :
  pre++(Cj (CW ws js i) (k+1)).flatMap (CQ ag ws js f i p)=pre++(Cj (CW ws js i) k).flatMap (CQ ag ws js f i p):=by
 rw [NM];unfold CQ;rw [if_pos ⟨e,h⟩,List.append_nil]
theorem RZ(h:¬(i+1=ws.length/\ag (p.put ws.length i (CW ws js i+(k:Int)))=false)) :
  pre++(Cj (CW ws js i) (k+1)).flatMap (CQ ag ws js f i p)=(pre++(Cj (CW ws js i) k).flatMap (CQ ag ws js f i p))++Cr ag ws js f (i+1) (p.put ws.length i (CW ws js i+(k:Int))):=by
 rw [NM,<-List.append_assoc];congr 1;unfold CQ;rw [if_neg h]
theorem NV(hw:CV all pre (Cr ag ws js (f+1) i p))(hk:CW ws js i+(k:Int)<=G0 ws js i)(h:¬(i+1=ws.length/\ag (p.put ws.length i (CW ws js i+(k:Int)))=false)) :
  CV all (pre++(Cj (CW ws js i) k).flatMap (CQ ag ws js f i p)) (Cr ag ws js f (i+1) (p.put ws.length i (CW ws js i+(k:Int)))):=by
 rw [Gq] at hw
 have:=hw.round hk
 unfold CQ at this ⊢;rw [if_neg h] at this;exact this
end
theorem WK{lo hi:Int}(h:hi-lo<2):(Ig lo hi).length<=2:=by unfold Ig Cj;simp;omega
theorem Lc{bag kinds:Int}{ps:List ByteArray}{ws:List AE}{js:List AO}{ns:List AJ}(b:BT bag kinds ps ws js ns)(ag:AG->Bool):∀(f i:Nat)(p:AG),i+f=ws.length+js.length->(Cr ag ws js f i p).length<=2 ^ f
 | 0,_,_,_=>Nat.le_refl _
 | f+1,i,p,h=>by
  rw [Gq];have h1:=(b.few (i:=i) aA).2.2.2;have h2:=UD (f:=CQ ag ws js f i p) (c:=2 ^ f) (l:=Ig (CW ws js i) (G0 ws js i)) λx _=>by
   unfold CQ;split
   ·exact Nat.zero_le _
   ·exact Lc b ag f (i+1) _ aA
  have h3:=Nat.mul_le_mul_right (2 ^ f) (WK h1);rw [Nat.pow_succ];omega
theorem Fq{bag kinds:Int}{ps:List ByteArray}{ws:List AE}{js:List AO}{ns:List AJ}(b:BT bag kinds ps ws js ns):(AC ws js ns).length<=2000000:=by
 unfold AC;split
 ·have h1:=Lc b (Ck ns) (ws.length+js.length) 0 AG.zero aA;have h2:2 ^ (ws.length+js.length)<=2 ^ 9:=Nat.pow_le_pow_right aA (by have:=b.wlen;have:=b.jlen;omega);omega
 ·exact Nat.zero_le _
def MX(bag kinds:Int)(ps:List ByteArray)(ws:List AE)(js:List AO)(ns:List AJ):Int:=if BV bag kinds ps ws js ns=0 then ((AC ws js ns).length:Int) else 0
section
variable {bag kinds:Int} {ps:List ByteArray} {ws:List AE} {js:List AO} {ns:List AJ}
theorem ZE(h:¬BV bag kinds ps ws js ns=0):(.tuple #[.int .i64 0,.int .i64 (BV bag kinds ps ws js ns)]:Value)=.tuple #[.int .i64 (MX bag kinds ps ws js ns),.int .i64 (BV bag kinds ps ws js ns)]:=by
 unfold MX;rw [if_neg h]
theorem tHist_ok(h:¬¬BV bag kinds ps ws js ns=0):(.tuple #[.int .i64 ((AC ws js ns).length:Int),.int .i64 0]:Value)=.tuple #[.int .i64 (MX bag kinds ps ws js ns),.int .i64 (BV bag kinds ps ws js ns)]:=by
 have e:=Decidable.not_not.1 h;unfold MX;rw [if_pos e,e]
end
section
variable {V:Type} {hB h hc h':GH} {I:List V->(Nat->Prop)->GH->Prop} {S:GH->Prop} {rp:Nat} {T:TypeId} {c c':Array Value} {X0 X:Nat->Prop} {pre l:List V} {v:Value}
theorem Ec.stoppedI{I':List V->(Nat->Prop)->GH->Prop}{pre':List V}(hv:v=.bool false)(r:∀l',Ec hB I S pre X0 h l' (.bool false) h'):Ec hB I' S pre' X0 h l v h':=by
 obtain ⟨ok,X',e,hs,hk,hl,_,h2⟩:=r [];cases e;exact ⟨false,X',hv,hs,hk,hl,(λx=>by cases x),h2⟩
def DT(I:List V->(Nat->Prop)->GH->Prop)(rp:Nat)(T:TypeId)(c:Array Value):List V->(Nat->Prop)->GH->Prop:=λpre X h=>
 ∃X',I pre X' h/\¬X' rp/\(∀b,X b↔X' b\/b=rp)/\h rp=some (true,.cells c T (0,0))
theorem DT.prom(P:GK hB I):GK hB (DT I rp T c):=by
 refine ⟨?_,?_⟩
 ·rintro pre X h b ⟨X',i,n,hX,hp⟩ hb;rcases (hX b).1 hb with q | rfl
  ·exact P.dom _ _ _ _ i q
  ·exact ⟨_,_,hp,rfl⟩
 ·rintro pre X h h' ⟨X',i,n,hX,hp⟩ same lB;exact ⟨X',P.stable _ _ _ _ i (λb hb=>same b ((hX b).2 (.inl hb))) lB,n,hX,by rw [same rp ((hX rp).2 (.inr rfl))];exact hp⟩
theorem DT.box(x:DT I rp T c pre X h):h rp=some (true,.cells c T (0,0)):=by obtain ⟨_,_,_,_,e⟩:=x;exact e
theorem DT.mem(x:DT I rp T c pre X h):X rp:=by obtain ⟨X',_,_,hX,_⟩:=x;exact (hX rp).2 (.inr rfl)
theorem ET.put(P:GK hB I)(y:ET hB (DT I rp T c) X0 h pre X hc)(rB:hB rp=none)(nb:h' rp=some (true,.cells c' T (0,0)))(ho:∀b,b≠rp->h' b=hc b):ET hB (DT I rp T c') X0 h pre X h':=by
 obtain ⟨⟨X',i,n,hX,hp⟩,sub,keep,base⟩:=y;exact ⟨⟨X',P.store i n ho (base.upd rB ho),n,hX,nb⟩,sub,keep.store' (sub rp ((hX rp).2 (.inr rfl))) ho,base.upd rB ho⟩
theorem DT.call{P:Program}{W:Wk P}{yv:Value}{args:Array Value}(x:DT I rp T c pre X hc)(k:∀X',I pre X' hc->B0 W yv args hc (Ec hB I S pre X' hc l)):B0 W yv args hc (Ec hB (DT I rp T c) S pre X hc l):=by
 have x':=x;obtain ⟨X',i,n,hX,hp⟩:=x;refine (k X' i).mono λv h' r=>?_;obtain ⟨ok,X1,hv,hs,hk,hl,h1,h2⟩:=r;have n1:¬X1 rp:=λq=>(hs rp q).elim n λe=>by rw [hp] at e;cases e
 refine ⟨ok,λb=>X1 b\/b=rp,hv,?_,λb p o hb hn=>hk b p o hb λq=>hn ((hX b).2 (.inl q)),hl,λe=>⟨X1,h1 e,n1,λ_=>Iff.rfl,hk.box hp n rfl⟩,h2⟩;rintro b (q | rfl)
 ·exact (hs b q).imp (λq=>(hX b).2 (.inl q)) id
 ·exact .inl ((hX _).2 (.inr rfl))
theorem DT.start(x:I pre X hc)(hp:hc rp=some (true,.cells c T (0,0)))(n:¬X rp):DT I rp T c pre (λb=>X b\/b=rp) hc:=⟨X,x,n,λ_=>Iff.rfl,hp⟩
theorem DT.final{X0:Nat->Prop}(y:ET hB I X0 h pre X hc)(hn:h rp=none)(r:Ec hB (DT I rp T c) S pre (λb=>X b\/b=rp) hc l v h'):Ec hB I S pre X0 h l v h':=by
 obtain ⟨ok,X1,hv,hs,hk,hl,h1,h2⟩:=r;cases ok with
 | true=>
  obtain ⟨X2,i2,n2,hX2,hp2⟩:=h1 rfl;refine ⟨true,X2,hv,λb q=>?_,?_,hl,λ_=>i2,λe=>by cases e⟩
  ·rcases hs b ((hX2 b).2 (.inl q)) with (q1 | rfl) | q1
   ·exact y.sub b q1
   ·exact absurd q n2
   ·exact subX y.sub y.keep (X1:=λz=>z=b) (λz e=>.inr (by rw [e];exact q1)) b rfl
  ·intro b p o hb hX;obtain ⟨o',e1,e2⟩:=y.keep b p o hb hX;obtain ⟨o2,e3,e4⟩:=hk b p o' e1 (λq=>q.elim (λq=>(y.sub b q).elim hX λe=>by rw [e] at hb;cases hb) λe=>by rw [e,hn] at hb;cases hb);refine ⟨o2,e3,?_⟩;rcases e2 with rfl | e2
   ·exact e4
   ·rcases e4 with rfl | e4
    ·exact .inr e2
    ·exact .inr ⟨e2.1,e4.2⟩
 | false=>
  refine ⟨false,λb=>X0 b\/h b=none,hv,λb q=>q,?_,hl,(λe=>by cases e),λ_=>h2 rfl⟩;intro b p o hb hX;obtain ⟨o',e1,e2⟩:=y.keep b p o hb hX;obtain ⟨o2,e3,e4⟩:=hk b p o' e1 (λq=>q.elim (λq=>(y.sub b q).elim hX λe=>by rw [e] at hb;cases hb) λe=>by rw [e,hn] at hb;cases hb);refine ⟨o2,e3,?_⟩;rcases e2 with rfl | e2
  ·exact e4
  ·rcases e4 with rfl | e4
   ·exact .inr e2
   ·exact .inr ⟨e2.1,e4.2⟩
end
end Go.Ns
namespace Go.Ns
open Go.Conc
abbrev EM:=Nat->Nat->Int
def KU(m:EM):Array Value:=#[.int .i64 (m 0 0),.int .i64 (m 0 1),.int .i64 (m 0 2),.int .i64 (m 0 3),.int .i64 (m 1 0),.int .i64 (m 1 1),.int .i64 (m 1 2),.int .i64 (m 1 3),
 .int .i64 (m 2 0),.int .i64 (m 2 1),.int .i64 (m 2 2),.int .i64 (m 2 3),.int .i64 (m 3 0),.int .i64 (m 3 1),.int .i64 (m 3 2),.int .i64 (m 3 3)]
def EM.zero:EM:=λ_ _=>0
def EM.set(m:EM)(i k:Nat)(v:Int):EM:=λa b=>if a=i/\b=k then v else m a b
theorem Jt{m:EM}{i k:Nat}(hi:i<4)(hk:k<4):(KU m)[0+i*4+k*1]? =some (.int .i64 (m i k)):=by
 match i,hi with
 | 0,_=>match k,hk with
  | 0,_=>rfl
  | 1,_=>rfl
  | 2,_=>rfl
  | 3,_=>rfl
 | 1,_=>match k,hk with
  | 0,_=>rfl
  | 1,_=>rfl
  | 2,_=>rfl
  | 3,_=>rfl
 | 2,_=>match k,hk with
  | 0,_=>rfl
  | 1,_=>rfl
  | 2,_=>rfl
  | 3,_=>rfl
 | 3,_=>match k,hk with
  | 0,_=>rfl
  | 1,_=>rfl
  | 2,_=>rfl
  | 3,_=>rfl
theorem Lf{m:EM}{i k:Nat}{v:Int}(hi:i<4)(hk:k<4):B1 (KU m) (0+i*4+k*1) [.int .i64 v]=KU (m.set i k v):=by
 match i,hi with
 | 0,_=>match k,hk with
  | 0,_=>rfl
  | 1,_=>rfl
  | 2,_=>rfl
  | 3,_=>rfl
 | 1,_=>match k,hk with
  | 0,_=>rfl
  | 1,_=>rfl
  | 2,_=>rfl
  | 3,_=>rfl
 | 2,_=>match k,hk with
  | 0,_=>rfl
  | 1,_=>rfl
  | 2,_=>rfl
  | 3,_=>rfl
 | 3,_=>match k,hk with
  | 0,_=>rfl
  | 1,_=>rfl
  | 2,_=>rfl
  | 3,_=>rfl
def Ks(i:Nat)(m:EM)(k:Nat):EM:=if¬(i:Int)=(k:Int) then m.set i k 1048576 else m
def G1(i:Nat)(m:EM)(n:Nat):EM:=(List.range n).foldl (Ks i) m
def Ik(n:Nat):EM:=(List.range n).foldl (λm i=>G1 i m 4) EM.zero
def MY(p:AG)(ws:List AE)(m:EM)(k:Nat):EM:=(m.set (ws.getD k AE.z).a.toNat (ws.getD k AE.z).b.toNat (p.ways k)).set (ws.getD k AE.z).b.toNat (ws.getD k AE.z).a.toNat (p.ways k)
def BP(p:AG)(ws:List AE)(n:Nat):EM:=(List.range n).foldl (MY p ws) (Ik 4)
def OJ(by_ i:Nat)(m:EM)(k:Nat):EM:=m.set i k (min (m i k) (m i by_+m by_ k))
def HT(by_ i:Nat)(m:EM)(n:Nat):EM:=(List.range n).foldl (OJ by_ i) m
def NW(by_ np:Nat)(m:EM)(i:Nat):EM:=if m i by_=1048576 then m else HT by_ i m np
def Eg(by_ np:Nat)(m:EM)(n:Nat):EM:=(List.range n).foldl (NW by_ np) m
def DH(np:Nat)(m:EM)(n:Nat):EM:=(List.range n).foldl (λm b=>Eg b np m np) m
def Au(np:Nat)(ws:List AE)(p:AG):EM:=DH np (BP p ws ws.length) np
theorem A5{β:Type}(f:β->Nat->β)(b:β)(n:Nat):(List.range (n+1)).foldl f b=f ((List.range n).foldl f b) n:=by rw [List.range_succ,List.foldl_append];rfl
def EM.ok(m:EM):Prop:=∀i k,0<=m i k/\m i k<=1048576
theorem EM.ok_set{m:EM}(h:m.ok){i k:Nat}{v:Int}(hv:0<=v/\v<=1048576):(m.set i k v).ok:=λa b=>by
 unfold EM.set;split
 ·exact hv
 ·exact h a b
theorem EM.ok_zero:EM.zero.ok:=λ_ _=>⟨Int.le_refl 0,(aC:(0:Int)<=1048576)⟩
theorem Hw{β:Type}{Q:β->Prop}{f:β->Nat->β}(hf:∀b k,Q b->Q (f b k)):∀{l:List Nat}{b:β},Q b->Q (l.foldl f b)
 | [],_,h=>h
 | x ::l,b,h=>Hw hf (l:=l) (hf b x h)
theorem ZF{i:Nat}{m:EM}{k:Nat}(h:m.ok):(Ks i m k).ok:=by
 unfold Ks;split
 ·exact EM.ok_set h aC
 ·exact h
theorem far0K_ok{i:Nat}{m:EM}{n:Nat}(h:m.ok):(G1 i m n).ok:=Hw (λ_ _=>ZF) h
theorem YL{n:Nat}:(Ik n).ok:=Hw (λ_ _ h=>far0K_ok h) EM.ok_zero
theorem ZG{p:AG}{ws:List AE}{m:EM}{k:Nat}(hp:B2 p)(h:m.ok):(MY p ws m k).ok:=by
 have:=hp.ways k
 exact EM.ok_set (EM.ok_set h aA) aA
theorem Kt{p:AG}{ws:List AE}{n:Nat}(hp:B2 p):(BP p ws n).ok:=Hw (λ_ _ h=>ZG hp h) YL
theorem WL{b i:Nat}{m:EM}{k:Nat}(h:m.ok):(OJ b i m k).ok:=by
 have h1:=h i k;have h2:=h i b;have h3:=h b k;exact EM.ok_set h aA
theorem YM{b i:Nat}{m:EM}{n:Nat}(h:m.ok):(HT b i m n).ok:=Hw (λ_ _ h=>WL h) h
theorem farI1_ok{b np:Nat}{m:EM}{i:Nat}(h:m.ok):(NW b np m i).ok:=by
 unfold NW;split
 ·exact h
 ·exact YM h
theorem OK{b np:Nat}{m:EM}{n:Nat}(h:m.ok):(Eg b np m n).ok:=Hw (λ_ _ h=>farI1_ok h) h
theorem UW{np:Nat}{m:EM}{n:Nat}(h:m.ok):(DH np m n).ok:=Hw (λ_ _ h=>OK h) h
theorem CD{c c':Array Value}(h:c.size=c'.size):B1 c 0 c'.toList=c':=by
 apply Array.toList_inj.1;rw [ER _ _ _ (by simp [h])];simp [h]
theorem IV{b:Bool}(h:(!b)=true):b=false:=by cases b <;> simp_all
theorem IW{b:Bool}(h:(!b)=false):b=true:=by cases b <;> simp_all
abbrev FB:=(Int×Int×Int×Int×Int)×Int×Int
def Es(a:FB):Value:=.agg #[.int .i64 a.1.1,.int .i64 a.1.2.1,.int .i64 a.1.2.2.1,.int .i64 a.1.2.2.2.1,.int .i64 a.1.2.2.2.2,.int .i64 a.2.1,.int .i64 a.2.2]
def UX:FB->Option Int:=λ_=>none
def AG.w5(p:AG):Int×Int×Int×Int×Int:=(p.ways 0,p.ways 1,p.ways 2,p.ways 3,p.ways 4)
theorem FB.eq_iff(a b:FB):((a.1.1==b.1.1 && (a.1.2.1==b.1.2.1 && (a.1.2.2.1==b.1.2.2.1 && (a.1.2.2.2.1==b.1.2.2.2.1 && (a.1.2.2.2.2==b.1.2.2.2.2 && true))))) && (a.2.1==b.2.1 && (a.2.2==b.2.2 && true)))=decide (a=b):=by
 obtain ⟨⟨a1,a2,a3,a4,a5⟩,a6,a7⟩:=a;obtain ⟨⟨b1,b2,b3,b4,b5⟩,b6,b7⟩:=b;rw [Bool.eq_iff_iff];simp [and_assoc]
theorem Q1(a:FB):Instr.sameBits 10000 (Es a) (Es a)=true:=by
 have hi:∀(n:Nat)(x:Int),Instr.sameBits n (.int .i64 x) (.int .i64 x)=true:=λn x=>by
  cases n <;> (unfold Instr.sameBits;simp)
 unfold Es;show Instr.sameBits (9999+1) _ _=true;unfold Instr.sameBits;simp only [List.zip_cons_cons,List.zip_nil_left,List.all_cons,List.all_nil,hi];simp
def WM(m:EM)(w:Int×Int×Int×Int×Int)(i:Nat)(M:FB->Option Int)(k:Nat):FB->Option Int:=λb=>if b=(w,(i:Int),(k:Int)) then some (m i k) else M b
def GA(m:EM)(w:Int×Int×Int×Int×Int)(i:Nat)(M:FB->Option Int)(n:Nat):FB->Option Int:=(List.range n).foldl (WM m w i) M
def CP(m:EM)(w:Int×Int×Int×Int×Int)(np:Nat)(M:FB->Option Int)(n:Nat):FB->Option Int:=(List.range n).foldl (λM i=>GA m w i M np) M
theorem NX{m:EM}{w:Int×Int×Int×Int×Int}{i k:Nat}{M:FB->Option Int}:∀{n:Nat},k<n->GA m w i M n (w,(i:Int),(k:Int))=some (m i k)
 | 0,h=>absurd h (Nat.not_lt_zero _)
 | n+1,h=>by
  unfold GA;rw [A5];unfold WM;by_cases e:k=n
  ·subst e;rw [if_pos rfl]
  ·rw [if_neg (λq=>e (by have h2:(k:Int)=(n:Int):=congrArg (λz:FB=>z.2.2) q;omega))];exact NX (n:=n) aA
theorem I9{m:EM}{w:Int×Int×Int×Int×Int}{i:Nat}{M:FB->Option Int}{b:FB}(hb:b.1≠w\/b.2.1≠(i:Int)):∀{n:Nat},GA m w i M n b=M b
 | 0=>rfl
 | n+1=>by
  unfold GA;rw [A5];unfold WM;rw [if_neg (λq=>by subst q;rcases hb with h | h <;> exact h rfl)];exact I9 hb (n:=n)
theorem NY{m:EM}{w:Int×Int×Int×Int×Int}{np i k:Nat}{M:FB->Option Int}(hk:k<np):∀{n:Nat},i<n->CP m w np M n (w,(i:Int),(k:Int))=some (m i k)
 | 0,h=>absurd h (Nat.not_lt_zero _)
 | n+1,h=>by
  unfold CP;rw [A5];by_cases e:i=n
  ·subst e;exact NX hk
  ·rw [I9 (.inr (by show (i:Int)≠(n:Int);omega))];exact NY hk (n:=n) aA
theorem Lg{m:EM}{w:Int×Int×Int×Int×Int}{np:Nat}{M:FB->Option Int}{b:FB}(hb:b.1≠w):∀{n:Nat},CP m w np M n b=M b
 | 0=>rfl
 | n+1=>by
  unfold CP;rw [A5,I9 (.inl hb)];exact Lg hb (n:=n)
theorem w5_at{p q:AG}(e:q.w5=p.w5){k:Nat}(h:k<5):q.ways k=p.ways k:=by
 simp only [AG.w5,Prod.mk.injEq] at e;obtain ⟨e0,e1,e2,e3,e4⟩:=e
 match k,h with
 | 0,_=>exact e0
 | 1,_=>exact e1
 | 2,_=>exact e2
 | 3,_=>exact e3
 | 4,_=>exact e4
theorem PK{p q:AG}{ws:List AE}(e:q.w5=p.w5):∀{n:Nat},n<=5->BP q ws n=BP p ws n
 | 0,_=>rfl
 | n+1,h=>by
  have h1:=PK (ws:=ws) e (n:=n) aA;unfold BP at h1 ⊢;rw [A5,A5,h1];unfold MY;rw [w5_at e aA]
theorem Ra{p q:AG}{ws:List AE}{np:Nat}(hw:ws.length<=5)(e:q.w5=p.w5):Au np ws q=Au np ws p:=by
 unfold Au;rw [PK e hw]
def GP(np:Nat)(ws:List AE)(l:List AG)(M:FB->Option Int):Prop:=∀q ∈ l,∀i k:Nat,i<np->k<np->M (q.w5,(i:Int),(k:Int))=some (Au np ws q i k)
theorem GP.call{np:Nat}{ws:List AE}{pq:List AG}{k:Nat}{M:FB->Option Int}(h:GP np ws (pq.take k) M)(hk:k<pq.length)(hw:ws.length<=5) :
  GP np ws (pq.take (k+1)) (CP (Au np ws (pq.getD k AG.zero)) (pq.getD k AG.zero).w5 np M np):=by
 intro q hq i j hi hj;by_cases e:q.w5=(pq.getD k AG.zero).w5
 ·rw [e,NY hj hi,Ra hw e]
 ·rw [Lg e];rw [Du AG.zero hk] at hq;rcases List.mem_append.1 hq with h1 | h1
  ·exact h q h1 i j hi hj
  ·rw [List.mem_singleton.1 h1] at e;exact absurd rfl e
theorem GP.skip{np:Nat}{ws:List AE}{pq:List AG}{k:Nat}{M:FB->Option Int}(h:GP np ws (pq.take k) M)(hk:k<pq.length)(hw:ws.length<=5)(h0:¬(k:Int)=0)(e:(pq.getD k AG.zero).w5=(pq.getD (k-1) AG.zero).w5) :
  GP np ws (pq.take (k+1)) M:=by
 intro q hq i j hi hj;rw [Du AG.zero hk] at hq;rcases List.mem_append.1 hq with h1 | h1
 ·exact h q h1 i j hi hj
 ·rw [List.mem_singleton.1 h1,e,Ra hw e];refine h _ ?_ i j hi hj;rw [Dm AG.zero aA];exact List.mem_take_iff_getElem.2 ⟨k-1,aA,rfl⟩
def ED(h:GH)(r np:Nat)(ws:List AE)(pq:List AG):Prop:=∃pm M,MapAt h r pm Es Do M/\GP np ws pq M
theorem ED.le{h h':GH}{r np:Nat}{ws:List AE}{pq:List AG}(x:ED h r np ws pq)(l:h.Le h'):ED h' r np ws pq:=by
 obtain ⟨pm,M,⟨es,clk,hb,hl⟩,hM⟩:=x;exact ⟨pm,M,⟨es,clk,l.keep hb rfl,hl⟩,hM⟩
structure DY(hB:GH)(r:Nat)(M:FB->Option Int)(h hc:GH):Prop where
 ok:Cq hc r Es Do M
 keep:Bf (λb=>b=r) h hc
 base:hB.Le hc
def FRes(hB:GH)(r:Nat)(M:FB->Option Int)(h h':GH):Prop:=Cq h' r Es Do M/\Bf (λb=>b=r) h h'/\hB.Le h'
section
variable {hB h hc h':GH} {r:Nat} {M M':FB->Option Int}
theorem Cq.some(x:Cq h r Es Do M):∃o,h r=some (true,o)/\Jf o=false:=by obtain ⟨es,clk,hb,_⟩:=x;exact ⟨_,hb,rfl⟩
theorem DY.start(x:Cq h r Es Do M)(l:hB.Le h):DY hB r M h h:=⟨x,Bf.refl _ _,l⟩
theorem DY.le(y:DY hB r M h hc)(l:hc.Le h'):DY hB r M h h':=by
 obtain ⟨o,ho,_⟩:=y.ok.some;exact ⟨y.ok.le_other ((l.keep ho rfl).trans ho.symm),y.keep.trans (λ_ q=>.inl q) (l.keepX _),y.base.trans l⟩
theorem DY.store(y:DY hB r M h hc){q:Nat}(hq:h q=none)(qB:hB q=none)(hn:q≠r)(ho:∀b,b≠q->h' b=hc b):DY hB r M h h':=
 ⟨y.ok.le_other (ho r (Ne.symm hn)),y.keep.store hq ho,y.base.upd qB ho⟩
theorem DY.put(y:DY hB r M h hc)(rB:hB r=none)(x:Cq h' r Es Do M')(ho:∀b,b≠r->h' b=hc b):DY hB r M' h h':=⟨x,y.keep.store' (.inl rfl) ho,y.base.upd rB ho⟩
theorem DY.call(y:DY hB r M h hc)(m:FRes hB r M' hc h'):DY hB r M' h h':=⟨m.1,y.keep.trans (λ_ q=>.inl q) m.2.1,m.2.2⟩
theorem DY.ne(y:DY hB r M h hc){q:Nat}(hq:hc q=none):q≠r:=λe=>by
 obtain ⟨o,ho,_⟩:=y.ok.some;rw [e,ho] at hq;cases hq
theorem DY.nothing(y:DY hB r M h hc){q:Nat}(hq:hc q=none):h q=none:=by
 cases hx:h q with
 | none=>rfl
 | some x=>
  obtain ⟨o',h1,_⟩:=y.keep q x.1 x.2 hx (y.ne hq);rw [h1] at hq;cases hq
theorem NZ(x:h r=some (true,.map #[] 0)):Cq h r Es Do UX:=Cq.empty x
theorem Cq.slDel{V:Type}(x:Cq h r Es Do M){v:Value}{n:Nat}{enc:V->Array Value}{xs:List V}(y:AD h v n enc xs):AD (h.del r) v n enc xs:=by
 obtain ⟨es,clk,hb,_⟩:=x;exact AD.slDel y hb
theorem Cq.leF(x:Cq h r Es Do M)(l:h.Le h'):Cq h' r Es Do M:=by
 obtain ⟨o,ho,e⟩:=x.some;exact x.le_other ((l.keep ho e).trans ho.symm)
theorem DY.res(y:DY hB r M h hc):FRes hB r M h hc:=⟨y.ok,y.keep,y.base⟩
end
theorem Na{bag kinds:Int}{ps:List ByteArray}{ws:List AE}{js:List AO}{ns:List AJ}(b:BT bag kinds ps ws js ns){ag:AG->Bool}:∀{f i:Nat}{p:AG},i+f=ws.length+js.length->B2 p->∀q ∈ Cr ag ws js f i p,B2 q
 | 0,_,p,_,hp,q,hq=>by rw [List.mem_singleton.1 hq];exact hp
 | f+1,i,p,h,hp,q,hq=>by
  rw [Gq] at hq;obtain ⟨n,hn,hq⟩:=List.mem_flatMap.1 hq;have h1:=b.few (i:=i) aA;have h2:=Yr.1 hn;unfold CQ at hq;split at hq
  ·cases hq
  ·exact Na b (f:=f) aA (hp.put aA) q hq
section
variable {bag kinds:Int} {ps:List ByteArray} {ws:List AE} {js:List AO} {ns:List AJ}
theorem GB(b:BT bag kinds ps ws js ns):∀q ∈ AC ws js ns,B2 q:=by
 intro q hq;unfold AC at hq;split at hq
 ·exact Na b aA B2.zero q hq
 ·cases hq
theorem PL(b:BT bag kinds ps ws js ns)(k:Nat):B2 ((AC ws js ns).getD k AG.zero):=by
 rcases Nat.lt_or_ge k (AC ws js ns).length with h | h
 ·exact GB b _ (BQ h)
 ·rw [CI h];exact B2.zero
def AK(bag kinds:Int)(ps:List ByteArray)(ws:List AE)(js:List AO)(ns:List AJ)(s:Int):Int:=
 if¬BV bag kinds ps ws js ns=0 then BV bag kinds ps ws js ns else if¬s=0 then s else if (AC ws js ns).length=0 then 9 else 0
variable {s:Int}
theorem YN(h:¬BV bag kinds ps ws js ns=0):AK bag kinds ps ws js ns s=BV bag kinds ps ws js ns:=if_pos h
theorem YO(h:¬¬BV bag kinds ps ws js ns=0)(h2:¬s=0):AK bag kinds ps ws js ns s=s:=by unfold AK;rw [if_neg h,if_pos h2]
theorem YP(h:¬¬BV bag kinds ps ws js ns=0)(h2:¬¬s=0)(h3:(AC ws js ns).length=0):AK bag kinds ps ws js ns s=9:=by unfold AK;rw [if_neg h,if_neg h2,if_pos h3]
theorem openB_4(h:¬¬BV bag kinds ps ws js ns=0)(h2:¬¬s=0)(h3:¬(AC ws js ns).length=0):AK bag kinds ps ws js ns s=0:=by unfold AK;rw [if_neg h,if_neg h2,if_neg h3]
theorem Eu(h:AK bag kinds ps ws js ns s=0):BT bag kinds ps ws js ns/\s=0/\0<(AC ws js ns).length:=by
 unfold AK at h;split at h
 ·rename_i a;exact absurd h a
 ·split at h
  ·rename_i a b;exact absurd h b
  ·split at h
   ·cases h
   ·rename_i a b c
    exact ⟨Cn (Decidable.not_not.1 a),Decidable.not_not.1 b,aA⟩
theorem w5_eq{p q:AG}(h:(!((p.ways 0==q.ways 0 && (p.ways 1==q.ways 1 && (p.ways 2==q.ways 2 && (p.ways 3==q.ways 3 && (p.ways 4==q.ways 4 && true)))))))=false):p.w5=q.w5:=by
 simp only [Bool.not_eq_false',Bool.and_eq_true,beq_iff_eq,and_true] at h;obtain ⟨e0,e1,e2,e3,e4⟩:=h;simp only [AG.w5,e0,e1,e2,e3,e4]
theorem GP.is{h:GH}{r np:Nat}{ws:List AE}{pq:List AG}{M:FB->Option Int}{k:Nat}(x:Cq h r Es Do M)(hM:GP np ws (pq.take k) M)(hk:pq.length<=k):ED h r np ws pq:=by
 rw [List.take_of_length_le hk] at hM;exact ⟨true,M,x,hM⟩
theorem Rb{a b c d e f w:Value}{r:Nat}(h:w.cells=#[w]):Instr.fill (λx=>#[(0,6),(6,1),(7,1)][x]?) #[.int .i64 0,.int .i64 0,.slice none 0 0,.slice none 0 0,.slice none 0 0,.slice none 0 0,.slice none 0 0,.map none] [(0,.agg #[a,b,c,d,e,f]),(1,w),(2,.map (some r))]=some #[a,b,c,d,e,f,w,.map (some r)]:=by
 have e1:∀cs,(Value.agg cs).cells=cs:=λ_=>rfl;have e2:∀q,(Value.map q).cells=#[.map q]:=λ_=>rfl;simp [Instr.fill,h,e1,e2]
end
end Go.Ns
namespace Go.Ns
open Go.Conc
section
variable {P:Program} {E:GQ P} {O:Nat->Value} {ds:List Deferred} {h:GH} {T:(Nat->Value)->List Deferred->GH->Prop}
variable {dst:Option Nat} {ty:TypeId} {pos:String} {af:Array Edge} {gd:Option (Nat×Bool)}
def Lh(P:Program)(e:TypeId):Option Nat:=(P.info? e).map (·.bytes)
theorem TO(z:Value)(n:Nat):(Array.range n).map (λi=>(#[z]:Array Value)[i%(#[z]:Array Value).size]!)=Array.replicate n z:=by
 apply Array.ext
 ·simp
 ·intro i h1 h2;simp [Nat.mod_one]
theorem Li{t:TypeId}{l c:Operand}{N by_:Nat}{z:Value}{e:TypeId}(hs:DS P t=some (1,#[z],e))(hby:Lh P e=some by_)(hl:AQ O l=.int .i64 N)(hc:AQ O c=.int .i64 N)(hb:by_*N<=281474976710656)(hN2:N<=16777216)
  (k:∀r h',h r=none->h.Le h'->h' r=some (true,.cells (Array.replicate N z) e (0,0))->(∀b,b≠r->h' b=h b)->T (putS O dst (.slice (some ⟨r,0,none⟩) N N)) ds h'):BX E ⟨dst,.makeSlice t l c,ty,pos,af,gd⟩ O ds h T:=by
 unfold BX execOp;refine Fy ?_;unfold DS at hs;unfold Instr.makeSlice;rw [hl,hc];cases hu:P.underlying t with
 | none=>rw [hu] at hs;cases hs
 | some d=>
  rw [hu] at hs;cases d <;> first | (cases hs;done) | skip
  rename_i e'
  simp only at hs;cases ht:Ce P e' with
  | none=>rw [ht] at hs;cases hs
  | some x=>
   cases hz:Bz P e' with
   | none=>rw [ht,hz] at hs;cases hs
   | some z'=>
    rw [ht,hz] at hs;simp only [Option.some.injEq,Prod.mk.injEq] at hs;obtain ⟨hx2,rfl,rfl⟩:=hs;refine AF _ _ (An hu ?_);refine AF _ _ (Aw ?_);refine AF _ _ (Aw ?_);unfold Lh at hby;unfold Bz at hz;cases hi:P.info? e' with
    | none=>rw [hi] at hz;cases hz
    | some i=>
    rw [hi] at hz hby;simp only [Option.map_some,Option.some.injEq] at hby;simp only [Option.map_eq_some_iff] at hz;obtain ⟨v,hv,hvz⟩:=hz;refine AF _ _ (Cl hi ?_);have hw:IntKind.i64.wrap (N:Int)=N:=IntWalk.i64_in _ aA;simp only [hw,hby];have hb':((by_:Int)*(N:Int))<=281474976710656:=by rw [<-Int.natCast_mul];exact Int.ofNat_le.2 hb
    rw [if_neg (by simp;omega)];simp only [Int.toNat_natCast];have hask:∀(m:Nat)(Q:Unit->GH->Prop),Q () h->(askRoom m).gh P h Q:=λm Q q=>by
     unfold askRoom;split
     ·exact ⟨rfl,q⟩
     ·exact q
    refine AF _ _ (hask _ _ ?_);refine AF _ _ (GT (by rw [ht];rfl) ?_);dsimp only;rw [hx2,Nat.mul_one];by_cases hN:N=0
    ·subst hN;rw [if_pos rfl];refine AF _ _ (Aw ?_);rw [show (Array.range 0).map (λi=>(#[]:Array Value)[i%(#[]:Array Value).size]!)=Array.replicate 0 z from aD];refine AF _ _ ?_;unfold newRow;refine AF _ _ (λr hr=>?_);exact k r _ hr (GH.Le.new hr _ _) (GH.set_same _ _ _ _) λb hb=>GH.set_ne _ _ _ hb
    rw [if_neg hN];unfold zeroValue;refine AF _ _ (AF _ _ (AF _ _ (Cl hi ?_)));rw [hv];refine Aw ?_;refine AF _ _ (Aw ?_);rw [hvz,TO];refine AF _ _ ?_;unfold newRow;refine AF _ _ (λr hr=>?_);exact k r _ hr (GH.Le.new hr _ _) (GH.set_same _ _ _ _) λb hb=>GH.set_ne _ _ _ hb
theorem Ju{V:Type}{enc:V->Array Value}{x:V}{z:Value}(he:enc x=#[z]):∀N:Nat,Da enc (List.replicate N x)=List.replicate N z
 | 0=>rfl
 | N+1=>by
  have:=Ju he N
  unfold Da at this ⊢;rw [List.replicate_succ,List.flatMap_cons,this,he];rfl
theorem AT.made{V:Type}{h h':GH}{r N:Nat}{t:TypeId}{enc:V->Array Value}{x:V}{z:Value}(hr:h r=none)(hb:h' r=some (true,.cells (Array.replicate N z) t (0,0)))(hN:N<=16777216)(he:enc x=#[z]) :
  AT h h' (.slice (some ⟨r,0,none⟩) N N) t 1 enc (List.replicate N x):=
 .inr ⟨r,N,_,by rw [List.length_replicate],hr,hb,aD,aD,by rw [List.length_replicate];omega,by rw [Ju he,List.length_replicate,Nat.mul_one];simp,λy hy=>by rw [(List.mem_replicate.1 hy).2,he];rfl⟩
end
def FC(nj:Nat)(k:Int):Int:=if¬(0<=k/\k<=(nj:Int)-1) then 6 else 0
def HU(nj:Nat)(l:List Int)(k:Nat):Int:=if¬FC nj (l.getD k 0)=0 then FC nj (l.getD k 0) else if (l.take k).any (λx=>decide (l.getD k 0=x))=true then 5 else 0
def Ah(nj:Nat)(l:List Int):Int:=Cy (HU nj l) 0 l.length
def GC(bag kinds:Int)(ps:List ByteArray)(ws:List AE)(js:List AO)(ns:List AJ)(l:List Int):Int:=
 if¬BV bag kinds ps ws js ns=0 then BV bag kinds ps ws js ns else Ah js.length l
theorem Nc{nj:Nat}{k:Int}(h:FC nj k=0):0<=k/\k<nj:=by
 unfold FC at h;split at h
 ·cases h
 ·omega
theorem FD{nj:Nat}{l:List Int}(h:Ah nj l=0)(k:Nat)(hk:k<l.length):0<=l.getD k 0/\l.getD k 0<nj:=by
 have h1:=DQ h k (Nat.zero_le _) aA;unfold HU at h1;split at h1
 ·rename_i a;exact absurd h1 a
 ·rename_i a;exact Nc (Decidable.not_not.1 a)
def GM(out ps:List Int):Nat->List Int
 | 0=>out
 | i+1=>(GM out ps i).set i ((GM out ps i).getD i 0+ps.getD i 0)
def CH(kinds:Int)(js:List AO)(l:List Int):Nat->List Int
 | 0=>List.replicate kinds.toNat 0
 | q+1=>GM (CH kinds js l q) (js.getD (l.getD q 0).toNat AO.z).parts (js.getD (l.getD q 0).toNat AO.z).parts.length
def Cs(kinds:Int)(js:List AO)(l:List Int):List Int:=CH kinds js l l.length
theorem Lj(out ps:List Int):∀i,(GM out ps i).length=out.length
 | 0=>rfl
 | i+1=>by rw [GM,List.length_set,Lj out ps i]
theorem Lk(out ps:List Int)(hl:ps.length=out.length):∀i,i<=ps.length->∀j,(GM out ps i).getD j 0=if j<i then out.getD j 0+ps.getD j 0 else out.getD j 0
 | 0,_,j=>by rw [if_neg aA];rfl
 | i+1,h,j=>by
  have e:=Lk out ps hl i aA;have hn:=Lj out ps i;unfold GM;rw [List.getD_eq_getElem?_getD,List.getElem?_set];by_cases hij:i=j
  ·subst hij;rw [if_pos rfl,if_pos aA,if_pos aA,Option.getD_some,e i,if_neg aA]
  ·rw [if_neg hij,<-List.getD_eq_getElem?_getD,e j];by_cases h1:j<i
   ·rw [if_pos h1,if_pos aA]
   ·rw [if_neg h1,if_neg aA]
section
variable {bag kinds:Int} {ps:List ByteArray} {ws:List AE} {js:List AO} {ns:List AJ} {l:List Int}
theorem Ku(b:BT bag kinds ps ws js ns){k:Int}(h:0<=k/\k<js.length):JobOK ps.length kinds (js.getD k.toNat AO.z):=PE (b.job k.toNat aA)
theorem Hx(b:BT bag kinds ps ws js ns):∀q,(CH kinds js l q).length=kinds.toNat
 | 0=>List.length_replicate
 | q+1=>by rw [CH,Lj,Hx b q]
theorem Kv(b:BT bag kinds ps ws js ns)(hr:∀k,k<l.length->0<=l.getD k 0/\l.getD k 0<js.length):∀q,q<=l.length->∀j,0<=(CH kinds js l q).getD j 0/\(CH kinds js l q).getD j 0<=5*(q:Int)
 | 0,_,j=>by
  unfold CH;rw [List.getD_eq_getElem?_getD,List.getElem?_replicate];split <;> simp
 | q+1,h,j=>by
  have e:=Kv b hr q aA j;have x:=Ku b (hr q aA);have x2:=x.part j;have x3:=x.len;unfold CH;rw [Lk _ _ (by rw [Hx b q];omega) _ (Nat.le_refl _)];split <;> omega
theorem addP_rng(b:BT bag kinds ps ws js ns)(hr:∀k,k<l.length->0<=l.getD k 0/\l.getD k 0<js.length){q:Nat}(hq:q<l.length){i:Nat}(hi:i<(js.getD (l.getD q 0).toNat AO.z).parts.length) :
  (GM (CH kinds js l q) (js.getD (l.getD q 0).toNat AO.z).parts i).length=(js.getD (l.getD q 0).toNat AO.z).parts.length/\0<=(GM (CH kinds js l q) (js.getD (l.getD q 0).toNat AO.z).parts i).getD i 0/\(GM (CH kinds js l q) (js.getD (l.getD q 0).toNat AO.z).parts i).getD i 0<=5*(q:Int)/\
  0<=(js.getD (l.getD q 0).toNat AO.z).parts.getD i 0/\(js.getD (l.getD q 0).toNat AO.z).parts.getD i 0<=5:=by
 have x:=Ku b (hr q hq);have e:=Kv b hr q aA i;have x3:=x.len;have hl:=Hx (l:=l) b q;refine ⟨by rw [Lj,hl];omega,?_⟩;rw [Lk _ _ (by rw [hl];omega) i aA,if_neg aA];exact ⟨e.1,e.2,x.part i⟩
theorem Kw(b:BT bag kinds ps ws js ns):(Cs kinds js l).length=kinds.toNat:=Hx b _
theorem WN(b:BT bag kinds ps ws js ns)(hr:∀k,k<l.length->0<=l.getD k 0/\l.getD k 0<js.length)(j:Nat):0<=(Cs kinds js l).getD j 0/\(Cs kinds js l).getD j 0<=5*(l.length:Int):=Kv b hr _ (Nat.le_refl _) j
theorem sum_take(xs:List Int){k:Nat}(h:k<xs.length):(xs.take (k+1)).sum=(xs.take k).sum+xs.getD k 0:=by
 rw [List.take_add_one,List.sum_append,List.getD_eq_getElem?_getD,List.getElem?_eq_getElem h];simp
theorem sum_all(xs:List Int){k:Nat}(h:xs.length<=k):(xs.take k).sum=xs.sum:=by rw [List.take_of_length_le h]
theorem UY(h:GC bag kinds ps ws js ns l=0):BT bag kinds ps ws js ns/\∀k,k<l.length->0<=l.getD k 0/\l.getD k 0<js.length:=by
 unfold GC at h;split at h
 ·rename_i a;exact absurd h a
 ·rename_i a;exact ⟨Cn (Decidable.not_not.1 a),FD h⟩
def Rc(bag kinds:Int)(ps:List ByteArray)(ws:List AE)(js:List AO)(ns:List AJ)(l:List Int):List Int:=if¬GC bag kinds ps ws js ns l=0 then [] else Cs kinds js l
def YQ(bag kinds:Int)(ps:List ByteArray)(ws:List AE)(js:List AO)(ns:List AJ)(l:List Int):Bool:=if¬GC bag kinds ps ws js ns l=0 then false else decide ((Cs kinds js l).sum<=bag)
end
end Go.Ns
namespace Go.Ns
open Go.Conc
section
variable {P:Program} {E:GQ P} {O:Nat->Value} {ds:List Deferred} {h:GH} {T:(Nat->Value)->List Deferred->GH->Prop}
variable {dst:Option Nat} {ty:TypeId} {pos:String} {af:Array Edge} {gd:Option (Nat×Bool)}
theorem Kx{t kt vt:TypeId}{x ix:Operand}{r np:Nat}{ws:List AE}{pq:List AG}{q:AG}{a b:Int}{z:Value}(ht:LQ P t=some (kt,vt))(hx:AQ O x=.map (some r))(hk:AQ O ix=Es (q.w5,a,b))(hm:ED h r np ws pq)
  (hc:∀a:FB,ckP P 4 kt (Es a)=true)
  (he:∀a b:FB,Od P 4 kt (Es a) (Es b)=some ((a.1.1==b.1.1 && (a.1.2.1==b.1.2.1 && (a.1.2.2.1==b.1.2.2.1 && (a.1.2.2.2.1==b.1.2.2.2.1 && (a.1.2.2.2.2==b.1.2.2.2.2 && true))))) && (a.2.1==b.2.1 && (a.2.2==b.2.2 && true))))
  (hz:(P.info? vt).bind (·.zero)=some z) (hq:q ∈ pq) (ha:0<=a/\a<np) (hb:0<=b/\b<np)
  (k:T (putS O dst (.int .i64 (Au np ws q a.toNat b.toNat))) ds h):BX E ⟨dst,.lookup t x ix false,ty,pos,af,gd⟩ O ds h T:=by
 obtain ⟨pm,M,hM,hF⟩:=hm;have e:=hF q hq a.toNat b.toNat aA aA;rw [Int.toNat_of_nonneg ha.1,Int.toNat_of_nonneg hb.1] at e;refine RO (d:=3) (a:=(q.w5,a,b)) ht hx hk hM rfl (hc _) (λb=>by rw [he,FB.eq_iff]) hz ?_;rw [e];exact k
theorem Re{V:Type}{t:TypeId}{x:Operand}{olo ohi:Option Operand}{n:Nat}{enc:V->Array Value}{xs:List V}{v:Value}{hk:GH}(lo hi:Nat)(ht:Ei P t=some n)(hs:AD hk v n enc xs)(hx:AQ O x=v)
  (hlo:match olo with | none=>lo=0 | some o=>∃kd,AQ O o=.int kd lo) (hhi:match ohi with | none=>hi=xs.length | some o=>∃kd,AQ O o=.int kd hi) (h1:lo<=hi) (h2:hi<=xs.length)
  (k:∀v',AD hk v' n enc ((xs.take hi).drop lo)->T (putS O dst v') ds h):BX E ⟨dst,.slice t x olo ohi none,ty,pos,af,gd⟩ O ds h T:=by
 have hs':=hs;obtain ⟨a,cap,rfl,hc,_,_⟩:=hs';exact KH lo hi ht hc hx hlo hhi h1 h2 (k _ (hs.part h1 h2))
end
def UZ(F:AG->Int)(l:List AG):Nat->Int
 | 0=>F (l.getD 0 AG.zero)
 | k+1=>min (UZ F l k) (F ((l.drop 1).getD k AG.zero))
def Ua(F:AG->Int)(l:List AG):Nat->Int
 | 0=>F (l.getD 0 AG.zero)
 | k+1=>max (Ua F l k) (F ((l.drop 1).getD k AG.zero))
def CY(F:AG->Int)(l:List AG):Int:=UZ F l (l.length-1)
def BG(F:AG->Int)(l:List AG):Int:=Ua F l (l.length-1)
theorem MZ{l:List AG}{k:Nat}(h:k<l.length-1):(l.drop 1).getD k AG.zero ∈ l:=List.mem_of_mem_drop (BQ (by rw [List.length_drop];exact h))
def DZ(s v:Int):Int:=if s=0 then v else 0
theorem Ll(v:Int):DZ 0 v=v:=if_pos rfl
theorem Nd{s v:Int}(h:¬s=0):DZ s v=0:=if_neg h
end Go.Ns
namespace Go.Ns
open Go.Conc
theorem WO:∀(n m:Nat)(f:Nat->Nat),(∀i,i<m->f i<n)->(∀i j,i<j->j<m->f i≠f j)->m<=n
 | 0,m,f,h,_=>by
  rcases Nat.eq_zero_or_pos m with e | e
  ·omega
  ·exact absurd (h 0 e) (Nat.not_lt_zero _)
 | n+1,m,f,h,d=>by
  rcases Nat.eq_zero_or_pos m with e | e
  ·omega
  ·have x:=WO n (m-1) (λi=>if f i=n then f (m-1) else f i) (λi hi=>by
    have h1:=h i aA;have h2:=h (m-1) aA;have h3:=d i (m-1) hi aA;show (if f i=n then f (m-1) else f i)<n;split <;> omega) (λi j hij hj=>by
    have h1:=d i j hij aA;have h2:=d i (m-1) aA aA;have h3:=d j (m-1) aA aA;show (if f i=n then f (m-1) else f i)≠(if f j=n then f (m-1) else f j);split <;> split <;> omega)
   omega
theorem Hf{nj:Nat}{l:List Int}(h:Ah nj l=0):l.length<=nj:=by
 refine WO nj l.length (λk=>(l.getD k 0).toNat) (λi hi=>?_) λi j hij hj=>?_
 ·have:=FD h i hi
  show (l.getD i 0).toNat<nj;omega
 ·have hi:=FD h i aA;have hj':=FD h j hj;have h1:=DQ h j (Nat.zero_le _) aA;unfold HU at h1;split at h1
  ·rename_i a;exact absurd h1 a
  ·split at h1
   ·cases h1
   ·rename_i a b
    show (l.getD i 0).toNat≠(l.getD j 0).toNat;intro e;refine b (List.any_eq_true.2 ⟨l.getD i 0,?_,decide_eq_true aA⟩);rw [List.mem_iff_getElem];refine ⟨i,by rw [List.length_take];omega,?_⟩;rw [List.getElem_take,List.getD_eq_getElem?_getD,List.getElem?_eq_getElem aA];rfl
def DI(js:List AO)(l:List Int):Nat->Int
 | 0=>0
 | q+1=>(js.getD (l.getD q 0).toNat AO.z).place
def BZ(np:Nat)(ws:List AE)(js:List AO)(p:AG)(l:List Int):Nat->Int
 | 0=>0
 | q+1=>BZ np ws js p l q+(Au np ws p (DI js l q).toNat (js.getD (l.getD q 0).toNat AO.z).place.toNat+p.works (l.getD q 0).toNat)
def Ev(np:Nat)(ws:List AE)(js:List AO)(p:AG)(l:List Int):Nat->List Int
 | 0=>[]
 | q+1=>Ev np ws js p l q++[BZ np ws js p l (q+1)]
def AV(np:Nat)(ws:List AE)(js:List AO)(p:AG)(l:List Int):Int:=BZ np ws js p l l.length+Au np ws p (DI js l l.length).toNat 0
theorem JA(np:Nat)(ws:List AE)(js:List AO)(p:AG)(l:List Int):∀q,(Ev np ws js p l q).length=q
 | 0=>rfl
 | q+1=>by rw [Ev,List.length_append,JA np ws js p l q];rfl
theorem PM(np:Nat)(ws:List AE)(js:List AO)(p:AG)(l:List Int):∀q i,i<q->(Ev np ws js p l q).getD i 0=BZ np ws js p l (i+1)
 | 0,i,h=>absurd h (Nat.not_lt_zero _)
 | q+1,i,h=>by
  have hl:=JA np ws js p l q;rw [Ev,List.getD_eq_getElem?_getD];by_cases e:i<q
  ·rw [List.getElem?_append_left aA,<-List.getD_eq_getElem?_getD];exact PM np ws js p l q i e
  ·have e2:i=q:=aA
   subst e2;rw [List.getElem?_append_right aA,hl,Nat.sub_self];rfl
section
variable {bag kinds:Int} {ps:List ByteArray} {ws:List AE} {js:List AO} {ns:List AJ} {l:List Int} {p:AG}
theorem Rf{np:Nat}(hp:B2 p):(Au np ws p).ok:=UW (Kt hp)
theorem PN(b:BT bag kinds ps ws js ns)(hr:∀k,k<l.length->0<=l.getD k 0/\l.getD k 0<js.length):∀q,q<=l.length->0<=DI js l q/\DI js l q<ps.length
 | 0,_=>by have:=b.plen;show (0:Int)<=0/\(0:Int)<_;omega
 | q+1,h=>by have:=(Ku b (hr q aA)).place;show 0<=(js.getD (l.getD q 0).toNat AO.z).place/\(js.getD (l.getD q 0).toNat AO.z).place<ps.length;omega
theorem Rh(hp:B2 p):∀q,0<=BZ ps.length ws js p l q/\BZ ps.length ws js p l q<=1048606*(q:Int)
 | 0=>⟨Int.le_refl 0,Int.le_refl 0⟩
 | q+1=>by
  have e:=Rh hp q;have f:=Rf (np:=ps.length) (ws:=ws) hp (DI js l q).toNat (js.getD (l.getD q 0).toNat AO.z).place.toNat;have w:=hp.works (l.getD q 0).toNat;unfold BZ;omega
end
end Go.Ns
namespace Go.Ns
open Go.Conc
theorem ED.store{h h':GH}{q r np:Nat}{ws:List AE}{pq:List AG}(x:ED h r np ws pq)(ho:∀b,b≠q->h' b=h b)(n:r≠q):ED h' r np ws pq:=by
 obtain ⟨pm,M,⟨es,clk,hb,hl⟩,hM⟩:=x;exact ⟨pm,M,⟨es,clk,(ho r n).trans hb,hl⟩,hM⟩
def eSp(x:Int×Int):Array Value:=#[.int .i64 x.1,.int .i64 x.2]
section
variable (np:Nat) (ws:List AE) (js:List AO) (pq:List AG) (l:List Int)
def Ri(i:Nat):Int:=CY (λx=>BZ np ws js x l (i+1)) pq
def PO(i:Nat):Int:=BG (λx=>BZ np ws js x l (i+1)) pq
def JB:Nat->List (Int×Int)
 | 0=>[]
 | q+1=>JB q++[(Ri np ws js pq l q,PO np ws js pq l q)]
theorem PP:∀q,(JB np ws js pq l q).length=q
 | 0=>rfl
 | q+1=>by rw [JB,List.length_append,PP q];rfl
def PQ(i:Nat):Bool:=decide (PO np ws js pq l i<=(js.getD (l.getD i 0).toNat AO.z).due)
def By(bag kinds:Int):Bool:=decide ((Cs kinds js l).sum<=bag) && (List.range l.length).all (PQ np ws js pq l)
variable {np ws js pq l}
theorem ZH{q:Nat}(h:¬(js.getD (l.getD q 0).toNat AO.z).due<BG (λx=>BZ np ws js x l ((q:Int).toNat+1)) pq):PQ np ws js pq l q=true:=decide_eq_true (Int.not_lt.1 h)
theorem ZI{q:Nat}(h:(js.getD (l.getD q 0).toNat AO.z).due<BG (λx=>BZ np ws js x l ((q:Int).toNat+1)) pq):PQ np ws js pq l q=false:=decide_eq_false (Int.not_le.2 h)
variable {bag kinds:Int}
theorem WP(h:¬(Cs kinds js l).sum<=bag):By np ws js pq l bag kinds=false:=by unfold By;rw [decide_eq_false h];rfl
theorem ZJ{k:Nat}(hk:k<l.length)(h:(js.getD (l.getD k 0).toNat AO.z).due<BG (λx=>BZ np ws js x l ((k:Int).toNat+1)) pq):By np ws js pq l bag kinds=false:=by
 unfold By;rw [Bool.and_eq_false_iff];refine .inr (Bool.eq_false_iff.2 λe=>?_)
 have:=List.all_eq_true.1 e k (List.mem_range.2 hk)
 rw [ZI h] at this;cases this
theorem safe_all{k:Nat}(h:¬¬(Cs kinds js l).sum<=bag)(hs:∀j,j<k->PQ np ws js pq l j=true)(hk:l.length<=k):By np ws js pq l bag kinds=true:=by
 unfold By;rw [decide_eq_true (Decidable.not_not.1 h),Bool.true_and];exact List.all_eq_true.2 λj hj=>hs j (by have:=List.mem_range.1 hj;omega)
end
def CO:Nat->List Int
 | 0=>[]
 | k+1=>CO k++[(k:Int)]
theorem C4:∀n,(CO n).length=n
 | 0=>rfl
 | n+1=>by rw [CO,List.length_append,C4 n];rfl
def Ew(nj:Nat)(l:List Int)(i:Int):Int:=if¬Ah nj l=0 then Ah nj l else if¬(0<=i/\i<=(l.length:Int)-1) then 1 else 0
theorem Ub{nj:Nat}{l:List Int}{i:Int}(h:Ew nj l i=0):Ah nj l=0/\0<=i/\i<l.length:=by
 unfold Ew at h;split at h
 ·rename_i a;exact absurd h a
 ·rename_i a
  split at h
  ·cases h
  ·exact ⟨Decidable.not_not.1 a,aA⟩
section
variable (bag kinds:Int) (ps:List ByteArray) (ws:List AE) (js:List AO) (ns:List AJ) (l:List Int)
def Rj:List (Int×Int):=if¬AK bag kinds ps ws js ns (Ah js.length l)=0 then [] else JB ps.length ws js (AC ws js ns) l l.length
def Bt:Bool:=if¬AK bag kinds ps ws js ns (Ah js.length l)=0 then false else By ps.length ws js (AC ws js ns) l bag kinds
def Kf(i:Int):Int:=
 if¬AK bag kinds ps ws js ns (Ew js.length l i)=0 then 0 else if (js.getD (l.getD i.toNat 0).toNat AO.z).due<Ri ps.length ws js (AC ws js ns) l i.toNat then 1
 else if PO ps.length ws js (AC ws js ns) l i.toNat<=(js.getD (l.getD i.toNat 0).toNat AO.z).due then 2 else 0
variable {bag kinds ps ws js ns l} {i:Int}
theorem late_yes(h0:AK bag kinds ps ws js ns (Ew js.length l i)=0)(h:(js.getD (l.getD i.toNat 0).toNat AO.z).due<CY (λx=>BZ ps.length ws js x l (i.toNat+1)) (AC ws js ns)):(1:Int)=Kf bag kinds ps ws js ns l i:=by
 unfold Kf;rw [if_neg (λx=>x h0)];exact (if_pos h).symm
theorem late_no(h0:AK bag kinds ps ws js ns (Ew js.length l i)=0)(h:¬(js.getD (l.getD i.toNat 0).toNat AO.z).due<CY (λx=>BZ ps.length ws js x l (i.toNat+1)) (AC ws js ns))
  (h2:BG (λx=>BZ ps.length ws js x l (i.toNat+1)) (AC ws js ns)<=(js.getD (l.getD i.toNat 0).toNat AO.z).due):(2:Int)=Kf bag kinds ps ws js ns l i:=by
 unfold Kf;rw [if_neg (λx=>x h0)];exact ((if_neg h).trans (if_pos h2)).symm
theorem ZK(h0:AK bag kinds ps ws js ns (Ew js.length l i)=0)(h:¬(js.getD (l.getD i.toNat 0).toNat AO.z).due<CY (λx=>BZ ps.length ws js x l (i.toNat+1)) (AC ws js ns))
  (h2:¬BG (λx=>BZ ps.length ws js x l (i.toNat+1)) (AC ws js ns)<=(js.getD (l.getD i.toNat 0).toNat AO.z).due):(0:Int)=Kf bag kinds ps ws js ns l i:=by
 unfold Kf;rw [if_neg (λx=>x h0)];exact ((if_neg h).trans (if_neg h2)).symm
theorem late_bad(h0:¬AK bag kinds ps ws js ns (Ew js.length l i)=0):(0:Int)=Kf bag kinds ps ws js ns l i:=by unfold Kf;rw [if_pos h0]
end
end Go.Ns
namespace Go.Ns
open Go.Conc
def Gr(i:Nat)(pq:List AG):Nat->List Int
 | 0=>[]
 | k+1=>Gr i pq k++[(pq.getD k AG.zero).works i]
theorem G2(i:Nat)(pq:List AG):∀k,(Gr i pq k).length=k
 | 0=>rfl
 | k+1=>by rw [Gr,List.length_append,G2 i pq k];rfl
theorem PR{i:Nat}{pq:List AG}{k:Nat}(h:0<k):Gr i pq k≠[]:=λe=>by
 have:=G2 i pq k
 rw [e] at this;simp at this;omega
def Ma(bag kinds:Int)(ps:List ByteArray)(ws:List AE)(js:List AO)(ns:List AJ)(i:Int):List Int:=
 if¬AK bag kinds ps ws js ns (FC js.length i)=0 then [] else Dk (Ee (Gr i.toNat (AC ws js ns) (AC ws js ns).length))
end Go.Ns
namespace Go.Ns
open Go.Conc
theorem Uc{h:GH}{r:Nat}{M:Int->Option Int}(x:Cq h r Do Do M):∃y,h r=some y:=by
 obtain ⟨es,clk,hb,_⟩:=x;exact ⟨_,hb⟩
def Dq(ns:List AJ)(mask:Int)(k:Nat):List AJ:=((List.range k).filter (NO mask)).map λ(i:Nat)=>ns.getD i AJ.z
section
variable {ns:List AJ} {mask:Int} {k:Nat} {h:GH}
theorem pickN_t(hb:mask.fdiv (2 ^ k)%2=1):Dq ns mask (k+1)=Dq ns mask k++[ns.getD k AJ.z]:=by
 unfold Dq;rw [Jk (by unfold NO;rw [decide_eq_true hb]),List.map_append];rfl
theorem pickN_f(hb:¬mask.fdiv (2 ^ k)%2=1):Dq ns mask (k+1)=Dq ns mask k:=by
 unfold Dq;rw [Jl (by unfold NO;rw [decide_eq_false hb])]
theorem Rk(ns:List AJ)(mask:Int)(k:Nat):(Dq ns mask k).length<=k:=by
 unfold Dq;rw [List.length_map]
 have:=List.length_filter_le (NO mask) (List.range k)
 rwa [List.length_range] at this
theorem Ud(ns:List AJ)(mask:Int)(k q:Nat)(hq:q<(Dq ns mask k).length):∃i,i<k/\(Dq ns mask k).getD q AJ.z=ns.getD i AJ.z:=by
 have hm:(Dq ns mask k).getD q AJ.z ∈ Dq ns mask k:=BQ hq;unfold Dq at hm ⊢;obtain ⟨i,hi,e⟩:=List.mem_map.1 hm;exact ⟨i,List.mem_range.1 (List.mem_filter.1 hi).1,e.symm⟩
theorem AY.pick(x:AY h ns)(mask:Int)(k:Nat):AY h (Dq ns mask k):=λq=>by
 by_cases hq:q<(Dq ns mask k).length
 ·obtain ⟨i,_,e⟩:=Ud ns mask k q hq;rw [e];exact x i
 ·rw [List.getD_eq_getElem?_getD,List.getElem?_eq_none aA];exact AY.nil h 0
theorem AY.fine1(x:AY h ns)(k:Nat):(Ap (ns.getD k AJ.z)).toList.all (·.oneCell')=true:=by
 show (((ns.getD k AJ.z).wv.oneCell') && (true && (true && true)))=true;rw [(AD.one (x k)).2];rfl
theorem AY.fine(x:AY h ns):∀y ∈ ns,(Ap y).toList.all (·.oneCell')=true:=λy hy=>by
 obtain ⟨i,hi,e⟩:=List.mem_iff_getElem.1 hy
 have:=x.fine1 i
 rw [List.getD_eq_getElem?_getD,List.getElem?_eq_getElem hi] at this;rw [<-e];exact this
theorem TP{nw:Nat}{ns ns':List AJ}{k i:Nat}(e:ns'.getD k AJ.z=ns.getD i AJ.z):D4 nw ns' k=D4 nw ns i:=by unfold D4;rw [e]
theorem BT.pick{bag kinds:Int}{ps:List ByteArray}{ws:List AE}{js:List AO}(b:BT bag kinds ps ws js ns)(mask:Int):BT bag kinds ps ws js (Dq ns mask ns.length):=
 { b with
  nlen:=Nat.le_trans (Rk ns mask ns.length) b.nlen
  note:=λk hk=>by
   obtain ⟨i,hi,e⟩:=Ud ns mask ns.length k hk;rw [TP e];exact b.note i hi }
end
section
variable (ws:List AE) (js:List AO) (ns:List AJ)
def Fi(x:Bool×List Int)(l:List Int):Bool:=x.1 && (decide ((x.2.length:Int)<l.length) || (decide ((l.length:Int)=x.2.length) && decide (0<E8 l x.2)))
def CB:Nat->Bool×List Int
 | 0=>(false,[])
 | q+1=>if Fi (CB q) (Dp (q:Int) ns.length)=true then CB q else if (AC ws js (Dq ns (q:Int) ns.length)).length=0 then (true,Dp (q:Int) ns.length) else CB q
variable {ws js ns} {q:Nat}
theorem IB(h:Fi (CB ws js ns q) (Dp (q:Int) ns.length)=true):CB ws js ns (q+1)=CB ws js ns q:=if_pos h
theorem Nf(h:Fi (CB ws js ns q) (Dp (q:Int) ns.length)=false)(h2:((AC ws js (Dq ns (q:Int) ns.length)).length:Int)=0):CB ws js ns (q+1)=(true,Dp (q:Int) ns.length):=by
 rw [CB,if_neg (by rw [h];simp),if_pos aA]
theorem Ng(h:Fi (CB ws js ns q) (Dp (q:Int) ns.length)=false)(h2:¬((AC ws js (Dq ns (q:Int) ns.length)).length:Int)=0):CB ws js ns (q+1)=CB ws js ns q:=by
 rw [CB,if_neg (by rw [h];simp),if_neg aA]
theorem ZL{x:Bool×List Int}{l:List Int}(h:x.1=false):Fi x l=false:=by unfold Fi;rw [h];rfl
theorem ZM{x:Bool×List Int}{l:List Int}(h:¬(x.2.length:Int)<l.length)(h2:¬(l.length:Int)=x.2.length):Fi x l=false:=by
 unfold Fi;rw [decide_eq_false h,decide_eq_false h2];simp
theorem ZN{x:Bool×List Int}{l:List Int}(h:¬(x.2.length:Int)<l.length)(h2:¬0<E8 l x.2):Fi x l=false:=by
 unfold Fi;rw [decide_eq_false h,decide_eq_false h2];simp
theorem Rn{x:Bool×List Int}{l:List Int}(h:x.1=true)(h1:(x.2.length:Int)<l.length):Fi x l=true:=by
 unfold Fi;rw [h,decide_eq_true h1];simp
theorem Ro{x:Bool×List Int}{l:List Int}(h:x.1=true)(h1:(l.length:Int)=x.2.length)(h2:0<E8 l x.2):Fi x l=true:=by
 unfold Fi;rw [h,decide_eq_true h1,decide_eq_true h2];simp
theorem pow_16:∀{n:Nat},n<=4->(1:Int)<=(2:Int) ^ n/\(2:Int) ^ n<=16
 | 0,_=>aC
 | 1,_=>aC
 | 2,_=>aC
 | 3,_=>aC
 | 4,_=>aC
theorem PS:∀q,(CB ws js ns q).2.length<=ns.length
 | 0=>Nat.zero_le _
 | q+1=>by
  have e:=PS q;unfold CB;split
  ·exact e
  ·split
   ·exact RU _ _
   ·exact e
def Gt(bag kinds:Int)(ps:List ByteArray)(ws:List AE)(js:List AO)(ns:List AJ):List Int:=
 if¬BV bag kinds ps ws js ns=0 then [] else if (0:Int)<(AC ws js ns).length then [] else (CB ws js ns (2 ^ ns.length)).2
end
section
variable {bag kinds:Int} {ps:List ByteArray} {ws:List AE} {js:List AO} {ns:List AJ} {q:Nat}
theorem Ue(h:¬BV bag kinds ps ws js ns=0):Gt bag kinds ps ws js ns=[]:=if_pos h
theorem TQ(h:(0:Int)<(AC ws js ns).length):Gt bag kinds ps ws js ns=[]:=by
 unfold Gt;rw [if_pos h];exact ite_self _
theorem Uf(h:BV bag kinds ps ws js ns=0)(h1:¬(0:Int)<(AC ws js ns).length)(hq:¬(q:Int)<(2:Int) ^ ((ns.length:Int)).toNat)(hq2:(q:Int)<=(2:Int) ^ ((ns.length:Int)).toNat):Gt bag kinds ps ws js ns=(CB ws js ns q).2:=by
 have e:((2 ^ ns.length:Nat):Int)=(2:Int) ^ ((ns.length:Int)).toNat:=by rw [Int.toNat_natCast,Int.natCast_pow];rfl
 rw [<-e] at hq hq2
 have:2 ^ ns.length=q:=aA
 unfold Gt;rw [if_neg (λx=>x h),if_neg h1,this]
end
section
variable (ws:List AE) (js:List AO) (ns:List AJ)
abbrev KV(pq:List AG)(i:Nat):Nat->Int:=λk=>(pq.getD k AG.zero).ways i
def Ug(pq:List AG)(i:Nat):Int:=Kc (KV pq i) pq.length
def HV(pq:List AG)(k:Nat):Int×Int:=askTo (Ug pq) (pq.length:Int) k
theorem Rp{pq:List AG}{k:Nat}(h:Ug pq k<(HV pq k).2):HV pq (k+1)=((k:Int),Ug pq k):=if_pos h
theorem Rq{pq:List AG}{k:Nat}(h:¬Ug pq k<(HV pq k).2):HV pq (k+1)=HV pq k:=if_neg h
def TR(bag kinds:Int)(ps:List ByteArray)(ws:List AE)(js:List AO)(ns:List AJ):Int:=if¬AK bag kinds ps ws js ns 0=0 then 0 else (HV (AC ws js ns) ws.length).1
def OL(bag kinds:Int)(ps:List ByteArray)(ws:List AE)(js:List AO)(ns:List AJ):Int:=if¬AK bag kinds ps ws js ns 0=0 then 0 else (HV (AC ws js ns) ws.length).2
end
end Go.Ns
namespace Go.Ns
open Go.Conc
def N7(hs:GH)(k0 ln:Nat)(c:Array Value)(t:TypeId)(k:Nat)(v:Value)(h:GH):Prop:=k=k0->∃r,v=.slice (some ⟨r,0,none⟩) ln ln/\hs r=none/\h r=some (true,.cells c t (0,0))
theorem N7.mono(hs:GH)(k0 ln:Nat)(c:Array Value)(t:TypeId):∀k v h1 h2,GH.Le h1 h2->N7 hs k0 ln c t k v h1->N7 hs k0 ln c t k v h2:=λ_ _ _ _ l x e=>by
 obtain ⟨r,q1,q2,q3⟩:=x e;exact ⟨r,q1,q2,l.keep q3 rfl⟩
theorem Mb{P:Program}{E:GQ P}{O:Nat->Value}{ds:List Deferred}{hs hx:GH}{dst:Option Nat}{ty:TypeId}{pos:String}{af:Array Edge}{gd:Option (Nat×Bool)}{t:TypeId}{len n k0 k:Nat}{z cells:Array Value}{e:TypeId}{parts:Array (Nat×Operand)}
  (h0:DS P t=some (n,z,e)) (hl:len*n<=2 ^ 24) (hn:(len*n=0)=False) (hf:Instr.fill (λi=>some (i*n,n)) ((Array.range (len*n)).map (z[·%z.size]!)) (parts.map λ(i,x)=>(i,AQ O x)).toList=some cells) (l:hs.Le hx) :
  BX E ⟨dst,.buildSlice t len parts,ty,pos,af,gd⟩ O ds hx λσ' ds' h'=>ds'=ds/\∃v,σ'=putS O dst v/\hx.Le h'/\N7 hs k0 len cells e k v h':=
 AZ h0 hl hn hf λr h' hr le bx _=>⟨rfl,_,rfl,le,λ_=>⟨r,rfl,GH.Le.nothing l hr,bx⟩⟩
def LfW(hs:GH)(k0 ln:Nat)(c:Array Value)(t:TypeId)(n:Nat)(Fr:GH->Prop)(k:Nat)(v:Value)(h:GH):Prop:=N7 hs k0 ln c t k v h/\(k=n->Fr h)
theorem LfW.mono(hs:GH)(k0 ln:Nat)(c:Array Value)(t:TypeId)(n:Nat){Fr:GH->Prop}(m:∀h1 h2,GH.Le h1 h2->Fr h1->Fr h2):∀k v h1 h2,GH.Le h1 h2->LfW hs k0 ln c t n Fr k v h1->LfW hs k0 ln c t n Fr k v h2:=λ_ _ _ _ l x=>⟨N7.mono _ _ _ _ _ _ _ _ _ l x.1,λe=>m _ _ l (x.2 e)⟩
theorem WQ{P:Program}{E:GQ P}{O:Nat->Value}{ds:List Deferred}{hs hx:GH}{dst:Option Nat}{ty:TypeId}{pos:String}{af:Array Edge}{gd:Option (Nat×Bool)}{t:TypeId}{len n k0 N:Nat}{z cells:Array Value}{e:TypeId}{parts:Array (Nat×Operand)}{Fr:GH->Prop}(hk:k0≠N)
  (h0:DS P t=some (n,z,e)) (hl:len*n<=2 ^ 24) (hn:(len*n=0)=False) (hf:Instr.fill (λi=>some (i*n,n)) ((Array.range (len*n)).map (z[·%z.size]!)) (parts.map λ(i,x)=>(i,AQ O x)).toList=some cells) (l:hs.Le hx) :
  BX E ⟨dst,.buildSlice t len parts,ty,pos,af,gd⟩ O ds hx λσ' ds' h'=>ds'=ds/\∃v,σ'=putS O dst v/\hx.Le h'/\LfW hs k0 len cells e N Fr k0 v h':=
 AZ h0 hl hn hf λr h' hr le bx _=>⟨rfl,_,rfl,le,λ_=>⟨r,rfl,GH.Le.nothing l hr,bx⟩,λe=>absurd e hk⟩
theorem tFg{P:Program}{E:GQ P}{l:List Oper}{n:Nat}{fl:Bool}{hs:GH}{ds:List Deferred}{Lw:Nat->Value->GH->Prop}{F:(Nat->Value)->GH->Prop}{π:List Nat}{O:Nat->Value}{h:GH}{m k g d:Nat}{dst:Option Nat}{op:Op}{ty:TypeId}{pos:String}{af:Array Edge}{v:Value}{w:Bool}{og:Oper}
  (hk:KZ m=(.p,k)) (ho:l[k]? =some ⟨dst,op,ty,pos,af,some (g,w)⟩) (h1:l[g]? =some og) (h2:og.dst=some d) (h3:O d=.bool w) (x:∀hx,Lw n undef hx->Sw E ⟨dst,op,ty,pos,af,some (g,w)⟩ O ds hx v)
  (y:TD E l n fl hs ds Lw F (dK π) (putS O dst v) h):TD E l n fl hs ds Lw F (dK (m ::π)) O h:=by
 unfold dK;rw [hk];exact ⟨_,true,ho,HP h1 h2 h3,λe=>(by cases e),λ_=>⟨v,x,y⟩⟩
theorem tWLg{P:Program}{E:GQ P}{l:List Oper}{n:Nat}{hs:GH}{ds:List Deferred}{Lw:Nat->Value->GH->Prop}{F:(Nat->Value)->GH->Prop}{π:List Nat}{O:Nat->Value}{h:GH}{m k g d:Nat}{dst:Option Nat}{op:Op}{ty:TypeId}{pos:String}{af:Array Edge}{w:Bool}{og:Oper}(hk:KZ m=(.w,k))(ho:l[k]? =some ⟨dst,op,ty,pos,af,some (g,w)⟩)(h1:l[g]? =some og)(h2:og.dst=some d)(h3:O d=.bool w)
  (x:BX E ⟨dst,op,ty,pos,af,some (g,w)⟩ O ds h λσ' ds' h'=>ds'=ds/\∃v,σ'=putS O dst v/\Lw n undef h'/\TD E l n false hs ds Lw F (dK π) (putS O dst v) h'):TD E l n false hs ds Lw F (dK (m ::π)) O h:=by
 unfold dK;rw [hk];exact ⟨_,true,ho,HP h1 h2 h3,λe=>(by cases e),λ_ hx hg=>by rw [hg.2 rfl];exact x⟩
def Ty(h:GH)(t:TypeId)(v:Value):Prop:=∀b,CX v=some b->∃p c f,h b=some (p,.cells c t f)
def Dr(h:GH)(t:TypeId)(v:Value)(xs:List Int):Prop:=AD h v 1 eI xs/\Ty h t v
theorem Dr.le{h h':GH}{t:TypeId}{v:Value}{xs:List Int}(x:Dr h t v xs)(l:h.Le h'):Dr h' t v xs:=⟨x.1.le l,λb hb=>by
 obtain ⟨p,c,f,q⟩:=x.2 b hb;exact ⟨p,c,f,l.keep q rfl⟩⟩
theorem Dr.nil(h:GH)(t:TypeId):Dr h t (.slice none 0 0) []:=⟨AD.nil _ _ _,λb hb=>by cases hb⟩
theorem Dr.own{h0 h:GH}{t:TypeId}{v:Value}{xs:List Int}(o:AT h0 h v t 1 eI xs):Dr h t v xs:=⟨o.sl,λb hb=>by
 rcases o with ⟨rfl,_⟩ | ⟨b1,cap,c,rfl,_,h2,_⟩
 ·cases hb
 ·simp only [CX,Option.some.injEq] at hb;subst hb;exact ⟨_,_,_,h2⟩⟩
theorem Dr.same{h h':GH}{t:TypeId}{w:Value}{xs:List Int}(x:Dr h t w xs)(key:∀b,CX w=some b->h' b=h b):Dr h' t w xs:=by
 refine ⟨?_,λb hb=>by rw [key b hb];exact x.2 b hb⟩;obtain ⟨a,cap,hv,hc,hm,he⟩:=x.1;refine ⟨a,cap,hv,hc,hm,λi hi=>?_⟩;obtain ⟨b,off,h1,h2⟩:=he i hi;exact ⟨b,off,h1,h2.same (key b (by rw [hv,h1];rfl))⟩
theorem Dr.grown{V:Type}{h h' h0:GH}{v v':Value}{t t':TypeId}{n:Nat}{enc:V->Array Value}{ys:List V}(g:GO h h' v v')(o:AT h0 h v t' n enc ys)(ne:t'≠t){w:Value}{xs:List Int}(x:Dr h t w xs):Dr h' t w xs:=
 x.same λb hb=>by
  obtain ⟨p,c,f,q⟩:=x.2 b hb;rw [q];refine g.1 b _ q λe=>?_;rcases o with ⟨rfl,_⟩ | ⟨b1,cap,c1,rfl,_,h2,_⟩
  ·cases e
  ·simp only [CX,Option.some.injEq] at e;subst e;rw [q] at h2;cases h2;exact ne rfl
theorem Dr.keepX{X:Nat->Prop}{h h':GH}{t:TypeId}{w:Value}{xs:List Int}(x:Dr h t w xs)(k:Bf X h h')(n:∀b,CX w=some b->¬X b):Dr h' t w xs:=
 x.same λb hb=>by
  obtain ⟨p,c,f,q⟩:=x.2 b hb;rw [q];exact k.box q (n b hb) rfl
theorem Dr.store{h h':GH}{t t':TypeId}{w:Value}{xs:List Int}{r:Nat}{p:Bool}{c:Array Value}{f:Nat×Nat}(x:Dr h t w xs)(hr:h r=some (p,.cells c t' f))(ne:t'≠t)(ho:∀b,b≠r->h' b=h b):Dr h' t w xs:=
 x.same λb hb=>ho b λe=>by
  obtain ⟨p2,c2,f2,q⟩:=x.2 b hb;rw [e,hr] at q;cases q;exact ne rfl
def B4(h:GH)(t:TypeId)(l:List Sl):Prop:=∀k,Dr h t (l.getD k Sl.z).1 (l.getD k Sl.z).2
theorem B4.le{h h':GH}{t:TypeId}{l:List Sl}(x:B4 h t l)(e:h.Le h'):B4 h' t l:=λk=>(x k).le e
theorem B4.nil(h:GH)(t:TypeId):B4 h t []:=λk=>by
 rw [CI aD];exact Dr.nil _ _
theorem PT{V:Type}(z:V)(a b:List V)(k:Nat):(a++b).getD k z=if k<a.length then a.getD k z else b.getD (k-a.length) z:=by
 simp only [List.getD_eq_getElem?_getD,List.getElem?_append];split <;> rfl
theorem B4.app{h:GH}{t:TypeId}{l l':List Sl}(a:B4 h t l)(b:B4 h t l'):B4 h t (l++l'):=λk=>by
 rw [PT];split
 ·exact a k
 ·exact b _
theorem B4.one{h:GH}{t:TypeId}{x:Sl}(a:Dr h t x.1 x.2):B4 h t [x]:=λk=>by
 cases k with
 | zero=>exact a
 | succ k=>rw [CI aD];exact Dr.nil _ _
theorem B4.fine{h:GH}{t:TypeId}{l:List Sl}(a:B4 h t l):∀y ∈ l,(Jd y).toList.all (·.oneCell')=true:=λy hy=>by
 obtain ⟨i,hi,e⟩:=List.mem_iff_getElem.1 hy;have z:=a i;rw [List.getD_eq_getElem?_getD,List.getElem?_eq_getElem hi] at z;have z2:Dr h t l[i].1 l[i].2:=z;rw [<-e];show ((l[i].1.oneCell') && true)=true;rw [(AD.one z2.1).2];rfl
theorem Mc(a b:List Sl):A4 (a++b)=A4 a++A4 b:=by simp [A4]
section
variable {V:Type} {hB:GH} {I:List V->(Nat->Prop)->GH->Prop} {S:GH->Prop} {X0 X X1:Nat->Prop} {h hc h':GH} {pre l:List V} {v v':Value}
def JC(hB:GH)(X0 X:Nat->Prop)(h:GH)(v:Value):Prop:=∀b,CX v=some b->¬X b/\(X0 b\/h b=none)/\hB b=none
theorem ET.old(y:ET hB I X0 h pre X hc){b:Nat}(e:hc b=none):X0 b\/h b=none:=by
 by_cases q:X0 b
 ·exact .inl q
 ·refine .inr ?_;cases hb:h b with
  | none=>rfl
  | some x=>
   obtain ⟨o',h1,_⟩:=y.keep b x.1 x.2 hb q;rw [e] at h1;cases h1
theorem ET.fresh(P:GK hB I)(y:ET hB I X0 h pre X hc)(o:∀b,CX v=some b->hc b=none):JC hB X0 X h v:=λb hb=>⟨P.off y.inv (o b hb),y.old (o b hb),y.base.nothing (o b hb)⟩
theorem JC.grown(f:JC hB X0 X h v)(P:GK hB I)(y:ET hB I X0 h pre X hc)(g:GO hc h' v v'):JC hB X0 X h v':=λb hb=>by
 rcases g.2 with e | ⟨⟨r,e1,e2⟩,_⟩
 ·exact f b (e▸hb)
 ·rw [e1] at hb;cases hb;exact ⟨P.off y.inv e2,y.old e2,y.base.nothing e2⟩
theorem ET.app(P:GK hB I)(y:ET hB I X0 h pre X hc)(g:GO hc h' v v')(f:JC hB X0 X h v):ET hB I X0 h pre X h':=by
 have lB:hB.Le h':=λb p o hb=>by
  obtain ⟨o1,h1,h2⟩:=y.base b p o hb;exact ⟨o1,g.1 b _ h1 λe=>(by rw [(f b e).2.2] at hb;cases hb),h2⟩
 refine ⟨P.stable _ _ hc h' y.inv (λb hb=>?_) lB,y.sub,λb p o hb hn=>?_,lB⟩
 ·obtain ⟨p,o,h1,_⟩:=P.dom _ _ _ b y.inv hb;rw [h1];exact g.1 b _ h1 λe=>(f b e).1 hb
 ·obtain ⟨o1,h1,h2⟩:=y.keep b p o hb hn;exact ⟨o1,g.1 b _ h1 λe=>(f b e).2.1.elim hn λq=>(by rw [q] at hb;cases hb),h2⟩
theorem ET.callL(y:ET hB I X0 h pre X hc)(f:JC hB X0 X h v){u:Value}(r:Ec hB I S pre (λb=>X b\/CX v=some b) hc l u h') :
  ∃ok X',u=.bool ok/\(∀b,X' b->(X b\/CX v=some b)\/hc b=none)/\Bf (λb=>X b\/CX v=some b) hc h'/\(ok=true->ET hB I X0 h (pre++l) X' h')/\(ok=false->∀l',Ec hB I S pre X0 h l' (.bool false) h'):=by
 obtain ⟨ok,X',hv,hs,hk,hl,h1,h2⟩:=r;have s:∀b,(X b\/CX v=some b)->X0 b\/h b=none:=λb q=>q.elim (y.sub b) λe=>(f b e).2.1;have kk:Bf X0 h h':=y.keep.trans s hk;have ss:=subX s y.keep hs;exact ⟨ok,X',hv,hs,hk,λe=>⟨h1 e,ss,kk,hl⟩,λe l'=>⟨false,X',rfl,ss,kk,hl,(λx=>by cases x),λ_=>h2 e⟩⟩
end
structure PU{P:Program}(W:Wk P)(hB:GH)(yv:Value)(t:TypeId)(I:List (List Int)->(Nat->Prop)->GH->Prop)(S:GH->Prop)(all:List (List Int)):Prop where
 prom:GK hB I
 one:yv.cells=#[yv]
 call:∀pre p post X h v,all=pre++p ::post->I pre X h->hB.Le h->Dr h t v p->(∀b,CX v=some b->¬X b/\hB b=none)->B0 W yv #[v] h (Ec hB I S pre (λb=>X b\/CX v=some b) h [p])
section
variable {P:Program} {E:GQ P} {O:Nat->Value} {ds:List Deferred}
theorem Rr{t0:TypeId}{all:List (List Int)}{hB hc:GH}{J:List (List Int)->(Nat->Prop)->GH->Prop}{Stop:Code->GH->Prop}{Y0:Nat->Prop}{par:Tmp}{f:Operand}{assign body:Code}{Q:Post}
  (hrd:E.rd=none) (hpar:Nat.blt par E.N=true) (hJ:GK hB J) (hB0:hB.Le hc) (j0:J [] Y0 hc)
  (hS:∀c (h h':GH) l lo,Stop c h->h l=some (true,.loop lo)->(∀b,b≠l->h' b=h b)->Stop c h')
  (src:∀(yv:Value)(I:List (List Int)->(Nat->Prop)->GH->Prop)(Sp:GH->Prop)(X:Nat->Prop)(h:GH),PU E.wk hB yv t0 I Sp all->hB.Le h->I [] X h->B0 E.wk (AQ O f) #[yv] h λ_ h'=>YEnd hB I Sp all X h h')
  (round:∀(l d:Nat)(lo:Loop)(pre:List (List Int))(p:List Int)(post:List (List Int))(Y:Nat->Prop)(h:GH)(v:Value),all=pre++p ::post->J pre Y h->hB.Le h->hB l=none->¬Y l->h l=some (true,.loop lo)->Dr h t0 v p->(∀b,CX v=some b->¬Y b/\hB b=none)->
   Tr ⟨E.wk,E.fn,some l,E.N⟩ assign (upd O par v) [] h λe σ' ds' h1=>e=.normal/\h1 l=some (true,.loop lo)/\∀h2,h2 l=some (true,.loop { lo with state:=.busy })->(∀b,b≠l->h2 b=h1 b)->
    Tr ⟨E.wk,E.fn,some l,E.N⟩ body σ' ds' h2 (UE hB J Stop (pre++[p]) (λb=>Y b\/CX v=some b) h l lo))
  (fin:∀(d l:Nat)(h':GH),hB.Le h'->hB d=none->hB l=none->hc d=none->h' d=some (true,.deferred (some []))->
   (∀Y,J all Y h'->(∀b,Y b->b≠d)->Q .normal O ({ target:=.collected d,args:=#[] } ::ds) h')/\
   (∀c,Stop c h'->match c with
    | .exit id=>Q (.exit id) O ({ target:=.collected d,args:=#[] } ::ds) h'
    | .ret=>Q .ret O ({ target:=.collected d,args:=#[] } ::ds) h'
    | _=>False)):Tr E (.rangeFunc f #[par] assign body) O ds hc Q:=by
 refine LS hrd λt d l hs hd hl hne=>?_;have hl':hB l=none:=hB0.nothing hl;have hd':hB d=none:=hB0.nothing hd;let lo:Loop:={ state:=.ready,pending:=none,fn:=E.fn,tmps:=t,params:=#[par],assign,body,defers:=d };have nYl:¬Y0 l:=hJ.off j0 hl;have nYd:¬Y0 d:=hJ.off j0 hd;have hL1:((hc.set d true (.deferred (some []))).set l true (.loop lo)) l=some (true,.loop lo):=GH.set_same _ _ _ _;have hL2:((hc.set d true (.deferred (some []))).set l true (.loop lo)) d=some (true,.deferred (some [])):=by rw [GH.set_ne _ _ _ (Ne.symm hne)];exact GH.set_same _ _ _ _
 have hL3:∀b,b≠l->b≠d->((hc.set d true (.deferred (some []))).set l true (.loop lo)) b=hc b:=λb h1 h2=>by rw [GH.set_ne _ _ _ h1,GH.set_ne _ _ _ h2]
 have hLB:hB.Le ((hc.set d true (.deferred (some []))).set l true (.loop lo)):=(hB0.trans (GH.Le.new hd _ _)).trans (GH.Le.new (by rw [GH.set_ne _ _ _ hne];exact hl) _ _);have hI0:NN J l d lo [] (λb=>Y0 b\/b=l\/b=d) ((hc.set d true (.deferred (some []))).set l true (.loop lo)):=by
  refine ⟨Y0,hJ.stable _ _ hc _ j0 (λb hb=>hL3 b (λe=>nYl (e▸hb)) (λe=>nYd (e▸hb))) hLB,λb=>Iff.rfl,nYl,nYd,hL1,hL2⟩
 have prom:GK hB (NN J l d lo):=by
  refine ⟨?_,?_⟩
  ·rintro pre X h b ⟨Y,j,hX,_,_,h1,h2⟩ hb;rcases (hX b).1 hb with h3 | rfl | rfl
   ·exact hJ.dom _ _ _ _ j h3
   ·exact ⟨_,_,h1,rfl⟩
   ·exact ⟨_,_,h2,rfl⟩
  ·rintro pre X h h' ⟨Y,j,hX,n1,n2,h1,h2⟩ same lB;refine ⟨Y,hJ.stable _ _ h h' j (λb hb=>same b ((hX b).2 (.inl hb))) lB,hX,n1,n2,?_,?_⟩
   ·rw [same l ((hX l).2 (.inr (.inl rfl)))];exact h1
   ·rw [same d ((hX d).2 (.inr (.inr rfl)))];exact h2
 have yk:PU E.wk hB (.func (.yield l) #[] #[]) t0 (NN J l d lo) (RS Stop l d lo) all:=by
  refine ⟨prom,rfl,?_⟩;rintro pre p post X h v hall ⟨Y,j,hX,n1,n2,h1,h2⟩ lB hsv hvX;have nvl:CX v≠some l:=λe=>by obtain ⟨_,_,_,q⟩:=hsv.2 l e;rw [h1] at q;cases q
  have nvd:CX v≠some d:=λe=>by obtain ⟨_,_,_,q⟩:=hsv.2 d e;rw [h2] at q;cases q
  refine Og h1 rfl ?_;have ef:(lo.params.zip #[v]).foldl (λtmps x=>tmps.setIfInBounds x.1 x.2) lo.tmps=t.setIfInBounds par v:=by simp [lo]
  rw [ef];show Bd E.wk l E.fn (t.setIfInBounds par v) assign body h _;have hs':=hs.put hpar v;refine NI (N:=E.N) hs'.1 ?_;have e0:(λi=>(t.setIfInBounds par v).getD i undef)=upd O par v:=funext hs'.2;rw [e0];refine KC ?_ (round l d lo pre p post Y h v hall j lB hl' n1 h1 hsv λb hb=>⟨λq=>(hvX b hb).1 ((hX b).2 (.inl q)),(hvX b hb).2⟩);rintro e σ' ds' ha ⟨rfl,ha1,hb⟩;refine ⟨rfl,lo,ha1,rfl,?_⟩;refine KC ?_ (hb _ (GH.set_same _ _ _ _) λb hb=>GH.set_ne _ _ _ hb);rintro e σ2 ds2 h3 ⟨g1,Y',g2,g3,g4,g5⟩;have hd3:h3 d=some (true,.deferred (some [])):=g3.box h2 (λq=>q.elim (λq=>q.elim n2 nvd) (λe=>hne e.symm)) rfl;have nl:¬Y' l:=λq=>(g2 l q).elim (λq=>q.elim n1 nvl) λe=>by rw [h1] at e;cases e
  have nd:¬Y' d:=λq=>(g2 d q).elim (λq=>q.elim n2 nvd) λe=>by rw [h2] at e;cases e
  have key:∀(lo2:Loop)(ok:Bool),(if ok then J (pre++[p]) Y' (h3.set l true (.loop lo2))/\lo2=lo else RS Stop l d lo (h3.set l true (.loop lo2)))->Ec hB (NN J l d lo) (RS Stop l d lo) pre (λb=>X b\/CX v=some b) h [p] (.bool ok) (h3.set l true (.loop lo2)):=by
   intro lo2 ok hok;refine ⟨ok,λb=>Y' b\/b=l\/b=d,rfl,?_,?_,?_,?_,?_⟩
   ·rintro b (hb | rfl | rfl)
    ·exact (g2 b hb).imp (λq=>q.imp (λq=>(hX b).2 (.inl q)) id) id
    ·exact .inl (.inl ((hX _).2 (.inr (.inl rfl))))
    ·exact .inl (.inl ((hX _).2 (.inr (.inr rfl))))
   ·intro b q o hb hn;have nb:b≠l:=λe=>hn (.inl ((hX b).2 (.inr (.inl e))));rw [GH.set_ne _ _ _ nb];exact g3 b q o hb λq=>q.elim (λz=>z.elim (λz=>hn (.inl ((hX b).2 (.inl z)))) λz=>hn (.inr z)) nb
   ·exact g4.upd hl' λb hb=>GH.set_ne _ _ _ hb
   ·rintro rfl;simp only [if_true] at hok;obtain ⟨hj,rfl⟩:=hok;exact ⟨Y',hj,λb=>Iff.rfl,nl,nd,GH.set_same _ _ _ _,by rw [GH.set_ne _ _ _ (Ne.symm hne)];exact hd3⟩
   ·rintro rfl;simpa using hok
  have js:∀(lo2:Loop),J (pre++[p]) Y' h3->J (pre++[p]) Y' (h3.set l true (.loop lo2)):=λlo2 hj=>hJ.store hj nl (λb hb=>GH.set_ne _ _ _ hb) (g4.upd hl' λb hb=>GH.set_ne _ _ _ hb);have ss:∀c (lo2:Loop),Stop c h3->Stop c (h3.set l true (.loop lo2)):=λc lo2 hc=>hS c h3 _ l _ hc g1 λb hb=>GH.set_ne _ _ _ hb;refine ⟨_,g1,?_⟩;cases e with
  | normal=>exact key _ true (by simp only [if_true];exact ⟨js _ g5,rfl⟩)
  | exit id=>exact key _ false (by simp only [Bool.false_eq_true,if_false];exact ⟨_,ss _ _ g5,GH.set_same _ _ _ _,by rw [GH.set_ne _ _ _ (Ne.symm hne)];exact hd3⟩)
  | ret=>exact key _ false (by simp only [Bool.false_eq_true,if_false];exact ⟨_,ss _ _ g5,GH.set_same _ _ _ _,by rw [GH.set_ne _ _ _ (Ne.symm hne)];exact hd3⟩)
  | goto _=>exact g5.elim
  | panic _=>exact g5.elim
  | outgrown=>exact g5.elim
 refine (src _ _ _ _ _ yk hLB hI0).mono ?_;rintro v h' ⟨X',hs',hk,hl2,hor⟩;rcases hor with ⟨Y,j,hX,n1,n2,h1,h2⟩ | ⟨c,hst,h1,h2⟩
 ·refine ⟨lo,h1,rfl,?_⟩;show Q .normal O _ _;have hB':=hl2.upd hl' (λb hb=>GH.set_ne h' true (.loop { lo with state:=.exhausted }) hb);refine (fin d l _ hB' hd' hl' hd (by rw [GH.set_ne _ _ _ (Ne.symm hne)];exact h2)).1 Y (hJ.store j n1 (λb hb=>GH.set_ne _ _ _ hb) hB') λb hb e=>n2 (e▸hb)
 ·refine ⟨_,h1,rfl,?_⟩;have hB':=hl2.upd hl' (λb hb=>GH.set_ne h' true (.loop { { lo with state:=.done,pending:=some c } with state:=.exhausted }) hb)
  have:=(fin d l _ hB' hd' hl' hd (by rw [GH.set_ne _ _ _ (Ne.symm hne)];exact h2)).2 c (hS c h' _ l _ hst h1 λb hb=>GH.set_ne _ _ _ hb)
  cases c with
  | exit id=>exact this
  | ret=>exact this
  | _=>exact this.elim
end
def HW(l:List Int)(k:Int):Bool:=l.any (λx=>decide (k=x))
def BK(jobs:List Int):Nat->List Int->List (List Int)
 | 0,l=>[l]
 | f+1,l=>l ::jobs.flatMap λk=>if HW l k=true then [] else BK jobs f (l++[k])
def CJ(jobs:List Int):Nat->List Int->Int->List (List Int)
 | 0,_,_=>[]
 | f+1,l,k=>if HW l k=true then [] else BK jobs f (l++[k])
theorem FR(jobs:List Int)(f:Nat)(l:List Int):BK jobs f l=l ::jobs.flatMap (CJ jobs f l):=by
 cases f with
 | zero=>simp [BK,CJ]
 | succ f=>rfl
def C5(jobs:List Int):List (List Int):=BK jobs jobs.length []
def Ky(jobs l:List Int):Nat:=(jobs.filter λk=> !HW l k).length
theorem hasI_app(l:List Int)(k j:Int):HW (l++[k]) j=(HW l j || decide (j=k)):=by simp [HW]
theorem Nh{jobs l:List Int}{k:Int}(hk:k ∈ jobs)(h:HW l k=false):Ky jobs (l++[k])<Ky jobs l:=by
 unfold Ky;have key:∀js:List Int,(js.filter λj=> !HW (l++[k]) j).length<=(js.filter λj=> !HW l j).length/\(k ∈ js->(js.filter λj=> !HW (l++[k]) j).length<(js.filter λj=> !HW l j).length):=by
  intro js
  induction js with
  | nil=>exact ⟨Nat.le_refl _,λe=>by cases e⟩
  | cons j js ih=>
   obtain ⟨ih1,ih2⟩:=ih;rw [List.filter_cons,List.filter_cons,hasI_app];by_cases e:j=k
   ·subst e;simp only [h,Bool.false_or,decide_true,Bool.not_true,Bool.false_eq_true,if_false,Bool.not_false,if_true,List.length_cons];exact ⟨aA,λ_=>aA⟩
   ·rw [decide_eq_false e,Bool.or_false];split
    ·simp only [List.length_cons];exact ⟨aA,λq=>by have:=ih2 ((List.mem_cons.1 q).resolve_left λz=>e z.symm);omega⟩
    ·exact ⟨ih1,λq=>ih2 ((List.mem_cons.1 q).resolve_left λz=>e z.symm)⟩
 exact (key jobs).2 hk
theorem WR{jobs:List Int}{i:Nat}{F:Int->List (List Int)}(hi:i<jobs.length):(jobs.take (i+1)).flatMap F=(jobs.take i).flatMap F++F (jobs.getD i 0):=by
 rw [Du 0 hi,List.flatMap_append];simp
theorem CV.job{all pre:List (List Int)}{jobs:List Int}{f i:Nat}{l:List Int}(w:CV all pre (BK jobs f l))(hi:i<jobs.length):CV all (pre++[l]++(jobs.take i).flatMap (CJ jobs f l)) (CJ jobs f l (jobs.getD i 0)):=by
 rw [FR] at w;have w2:CV all pre ([l]++((jobs.take i).flatMap (CJ jobs f l)++(CJ jobs f l (jobs.getD i 0)++(jobs.drop (i+1)).flatMap (CJ jobs f l)))):=by
  rw [<-List.append_assoc (List.flatMap _ _),<-WR hi,<-List.flatMap_append,List.take_append_drop];exact w
 exact (w2.right.right).left
theorem CV.head{all pre:List (List Int)}{jobs:List Int}{f:Nat}{l:List Int}(w:CV all pre (BK jobs f l)):CV all pre [l]:=by
 rw [FR] at w;exact CV.left (a:=[l]) w
section
variable {jobs l:List Int} {f f' i:Nat} {k:Int} {all pre:List (List Int)}
theorem WT(hk:k ∈ jobs)(h:HW l k=false)(hu:Ky jobs l<=f):∃f',f=f'+1:=⟨f-1,by have:=Nh hk h;omega⟩
theorem Lm(hf:f=f'+1)(h:HW l k=false):CJ jobs f l k=BK jobs f' (l++[k]):=by
 subst hf;exact if_neg (by rw [h];simp)
theorem Q2(h:HW l k=true):CJ jobs f l k=[]:=by
 cases f with
 | zero=>rfl
 | succ f=>exact if_pos h
theorem Q3(hi:i<jobs.length)(h:HW l (jobs.getD i 0)=true):pre++[l]++(jobs.take (i+1)).flatMap (CJ jobs f l)=pre++[l]++(jobs.take i).flatMap (CJ jobs f l):=by
 rw [WR hi,Q2 h,List.append_nil]
theorem TS(hi:i<jobs.length)(hf:f=f'+1)(h:HW l (jobs.getD i 0)=false):pre++[l]++(jobs.take (i+1)).flatMap (CJ jobs f l)=(pre++[l]++(jobs.take i).flatMap (CJ jobs f l))++BK jobs f' (l++[jobs.getD i 0]):=by
 rw [WR hi,Lm hf h,<-List.append_assoc]
theorem ZO(hi:jobs.length<=i):pre++BK jobs f l=pre++[l]++(jobs.take i).flatMap (CJ jobs f l):=by
 rw [List.take_of_length_le hi,FR];simp
theorem CV.go(w:CV all pre (BK jobs f l))(hi:i<jobs.length)(hf:f=f'+1)(h:HW l (jobs.getD i 0)=false):CV all (pre++[l]++(jobs.take i).flatMap (CJ jobs f l)) (BK jobs f' (l++[jobs.getD i 0])):=by
 have z:=w.job hi
 rwa [Lm hf h] at z
end
end Go.Ns
namespace Go.Ns
open Go.Conc
theorem HF.mem{h:GH}{l:List Sl}(a:HF h l){x:Sl}(hx:x ∈ l):AD h x.1 1 eI x.2:=by
 obtain ⟨i,hi,e⟩:=List.mem_iff_getElem.1 hx;have z:=a i;rw [List.getD_eq_getElem?_getD,List.getElem?_eq_getElem hi] at z;have z2:AD h l[i].1 1 eI l[i].2:=z;rw [<-e];exact z2
theorem B4.all{h:GH}{t:TypeId}{l:List Sl}(a:B4 h t l):HF h l:=λk=>(a k).1
theorem B4.drop1{h:GH}{t:TypeId}{l:List Sl}(a:B4 h t l):B4 h t (l.drop 1):=λk=>by
 rw [List.getD_eq_getElem?_getD,List.getElem?_drop,<-List.getD_eq_getElem?_getD];exact a (1+k)
theorem WU{l:List Sl}{k:Nat}(h:k<l.length-1):(l.drop 1).getD k Sl.z ∈ l:=List.mem_of_mem_drop (BQ (by rw [List.length_drop];exact h))
section
variable (G:List Int->Int) (l:List (List Int))
def DE:Nat->List Int×Int
 | 0=>(l.getD 0 [],G (l.getD 0 []))
 | k+1=>if G ((l.drop 1).getD k [])<(DE k).2 then ((l.drop 1).getD k [],G ((l.drop 1).getD k [])) else DE k
def Cu:List Int:=(DE G l (l.length-1)).1
end
section
variable {G:List Int->Int} {l:List Sl} {k:Nat}
theorem WV(l:List Sl):(A4 l).length=l.length:=List.length_map _
theorem Ni(hk:k<l.length-1):((A4 l).drop 1).getD k []=((l.drop 1).getD k Sl.z).2:=by
 have e:(A4 l).drop 1=A4 (l.drop 1):=by unfold A4;rw [List.map_drop]
 rw [e,Fg (by rw [List.length_drop];exact hk)]
theorem Lp(hk:k<l.length-1)(h:G ((l.drop 1).getD k Sl.z).2<(DE G (A4 l) k).2):DE G (A4 l) (k+1)=(((l.drop 1).getD k Sl.z).2,G ((l.drop 1).getD k Sl.z).2):=by
 rw [DE,Ni hk,if_pos h]
theorem Lq(hk:k<l.length-1)(h:¬G ((l.drop 1).getD k Sl.z).2<(DE G (A4 l) k).2):DE G (A4 l) (k+1)=DE G (A4 l) k:=by
 rw [DE,Ni hk,if_neg h]
theorem Uh(hk:k=l.length-1):Cu G (A4 l)=(DE G (A4 l) k).1:=by unfold Cu;rw [WV,hk]
end
theorem Nj{G:List Int->Int}{l:List (List Int)}:∀k,k<l.length->(DE G l k).1 ∈ l
 | 0,h=>BQ h
 | k+1,h=>by
  unfold DE;split
  ·exact List.mem_of_mem_drop (BQ (by rw [List.length_drop];omega))
  ·exact Nj k aA
theorem WW{G:List Int->Int}{l:List (List Int)}(h:0<l.length):Cu G l ∈ l:=Nj _ aA
theorem PW:∀(n k:Nat),k<n->(CO n).getD k 0=(k:Int)
 | 0,k,h=>absurd h (Nat.not_lt_zero _)
 | n+1,k,h=>by
  have hl:=C4 n;rw [CO,List.getD_eq_getElem?_getD];by_cases e:k<n
  ·rw [List.getElem?_append_left aA,<-List.getD_eq_getElem?_getD];exact PW n k e
  ·have e2:k=n:=aA
   subst e2;rw [List.getElem?_append_right aA,hl,Nat.sub_self];rfl
theorem JD{n:Nat}{x:Int}(h:x ∈ CO n):0<=x/\x<n:=by
 obtain ⟨i,hi,e⟩:=List.mem_iff_getElem.1 h;have hl:=C4 n
 have:=PW n i aA
 rw [List.getD_eq_getElem?_getD,List.getElem?_eq_getElem hi,Option.getD_some,e] at this;omega
theorem Jv{jobs:List Int}:∀(f:Nat)(l:List Int),(∀x ∈ l,x ∈ jobs)->∀r ∈ BK jobs f l,(∀x ∈ r,x ∈ jobs)/\r.length<=l.length+f
 | 0,l,h,r,hr=>by
  rw [BK,List.mem_singleton] at hr;subst hr;exact ⟨h,Nat.le_refl _⟩
 | f+1,l,h,r,hr=>by
  rw [BK,List.mem_cons] at hr;rcases hr with rfl | hr
  ·exact ⟨h,aA⟩
  ·obtain ⟨k,hk,hr⟩:=List.mem_flatMap.1 hr;split at hr
   ·cases hr
   ·have:=Jv f (l++[k]) (λx hx=>by
     rcases List.mem_append.1 hx with hx | hx
     ·exact h x hx
     ·rw [List.mem_singleton.1 hx];exact hk) r hr
    refine ⟨this.1,?_⟩;have e:=this.2;rw [List.length_append,List.length_singleton] at e;omega
theorem TT{jobs r:List Int}(h:r ∈ C5 jobs):(∀x ∈ r,x ∈ jobs)/\r.length<=jobs.length:=by
 have:=Jv jobs.length [] (λx hx=>by cases hx) r h
 simpa using this
def TU(nj:Nat)(l:List Int):Prop:=(∀k,k<l.length->0<=l.getD k 0/\l.getD k 0<nj)/\l.length<=4
theorem Jw{n:Nat}{jobs r:List Int}(hj:∀x ∈ jobs,0<=x/\x<(n:Int))(hl:jobs.length<=4)(h:r ∈ C5 jobs):TU n r:=by
 obtain ⟨h1,h2⟩:=TT h;exact ⟨λk hk=>hj _ (h1 _ (BQ hk)),aA⟩
theorem Jx{jobs:List Int}(hj:jobs.length<=4):∀(f:Nat)(l:List Int),f<=4->(BK jobs f l).length<=5 ^ f*1
 | 0,l,_=>Nat.le_refl _
 | f+1,l,hf=>by
  have key:∀js:List Int,(js.flatMap λk=>if HW l k=true then [] else BK jobs f (l++[k])).length<=js.length*5 ^ f:=by
   intro js
   induction js with
   | nil=>simp
   | cons j js ih=>
    rw [List.flatMap_cons,List.length_append,List.length_cons,Nat.add_mul,Nat.one_mul,Nat.add_comm];refine Nat.add_le_add ih ?_;split
    ·exact Nat.zero_le _
    ·have:=Jx hj f (l++[j]) aA;omega
  rw [BK,List.length_cons];have h1:=key jobs;have h2:jobs.length*5 ^ f<=4*5 ^ f:=Nat.mul_le_mul_right _ hj;have h3:1<=5 ^ f:=Nat.one_le_pow _ _ aC;rw [Nat.pow_succ];omega
theorem HX{jobs:List Int}(hj:jobs.length<=4):(C5 jobs).length<=625:=by
 have h:=Jx hj jobs.length [] hj;have h2:5 ^ jobs.length<=5 ^ 4:=Nat.pow_le_pow_right aC hj;unfold C5;omega
end Go.Ns
namespace Go.Ns
open Go.Conc
section
variable {P:Program} {M:Type} {F:MT P M} {i:Option (Cp M)} {O:Nat->Value} {ds:List Deferred} {h:GH} {Q:O5 M}
theorem trI_td{id:Nat}{l:List Oper}(n:Nat)(fl:Bool)(π:List Nat)(hm:P.follows .mixedOrders=true)
  (ok:Om l (l.take n) 0 [] (λcls=>On P F.N l n cls fl (dK π))=true) (x:TD (F.env i) l n fl h ds (λ_ _ _=>True) (λσ' h'=>GL F l.toArray (l.drop n) i σ' ds h' Q) (dK π) O h):N6 F (.region id l.toArray true) i O ds h Q:=by
 obtain ⟨cls,h1⟩:=Ho ok;intro b k cs L t hb hr hl hs hq;exact YE (E:=F.env i) n cls fl (dK π) hm (λ_ _ _ _ _ y=>y) trivial h1 x hb hr hs λσ' h' f t' ht'=>f n b k cs L t' (λj=>aD) hb hr hl ht' hq
def JE(P:Program):Frame:={ (default:Frame) with fn:=P.funcs.size,defers:=[],mode:=.panicking [goexitEntry] }
theorem quit_bot:QuitsIn P 1 (G (JE P) []):=.inr ⟨rfl,{ G (JE P) [] with status:=.finished },λw=>by
 show unwind P false (JE P) [] none w=_;have hcat:(JE P).catches P=false:=by
  unfold Frame.catches
  have:P.funcs[(JE P).fn]? =none:=Array.getElem?_eq_none (Nat.le_refl _)
  rw [this];rfl
 have hd:(JE P).defers=[]:=rfl;have hmd:(JE P).mode=.panicking [goexitEntry]:=rfl;unfold unwind;simp only [hd,hmd,hcat]
 rfl,rfl⟩
theorem Ui{fn:Func}{f:FuncId}{args:Array Value}{t:Array Value}{ops:Array Oper}(hf:P.funcs[f]? =some fn)(hres:fn.results=#[]):QuitsIn P 4 (G (Ci (Frame.enter P f args .deferred) t [] [.inRegion ops []]) [JE P]):=by
 refine .inr ⟨rfl,G (Ci (Frame.enter P f args .deferred) t [] []) [JE P],λw=>by rw [A7];simp [stepG.exec,Ci,G],?_⟩;refine .inr ⟨rfl,G (Ea (Frame.enter P f args .deferred) t [] []) [JE P],λw=>by rw [A7];simp [stepG.exec,Ci,Ea,G,Frame.enter],?_⟩;refine .inr ⟨rfl,G (JE P) [],λw=>?_,quit_bot⟩;show unwind P false (Ea (Frame.enter P f args .deferred) t [] []) [JE P] none w=_;have hfn:(Ea (Frame.enter P f args .deferred) t [] []).fn=f:=rfl;have hk:(Ea (Frame.enter P f args .deferred) t [] []).kind=.deferred:=rfl;have hmd:(Ea (Frame.enter P f args .deferred) t [] []).mode=.returning:=rfl;have hd:(Ea (Frame.enter P f args .deferred) t [] []).defers=[]:=rfl;have r1:∀t,(results fn t).runT P w #[]=(.ok (.tuple #[]) w,#[]):=λt=>by
  unfold results;rw [hres];simp only [Array.mapM_empty];rfl
 unfold unwind;simp only [hd,hmd,hfn,hf,r1,GStep.after,doReturn,hk,seen_none];rfl
def JF(F:MT P M)(R:Code)(args:Array Value)(i:Option (Cp M))(O:Nat->Value)(h:GH):Prop:=∀t,Bc t F.N O->(F.wk i).K (G (Ci (Frame.enter P F.fn args .deferred) t [] [.code R]) [JE P]) h
theorem Md{fn:Func}{c R:Code}{s:Cp M}{ars cap args:Array Value}(hm:F.main=false)(hrd:F.rd=none)(ha:ars++cap=args)(hf:P.funcs[F.fn]? =some fn)(hc:AM fn=true)(hb:fn.body=some (.seq c R))(hN:F.N=fn.ntmps)(hsz:args.size<=fn.ntmps)(hs:¬s.isDone)
  (x:N6 F c (some s) (λi=>args.getD i undef) [] h λi e O ds h=>e=.normal/\ds=[]/\JF F R args i O h):FJ P F.Rep F.W.K s false (born P { target:=.fn (.func F.fn) cap,args:=ars }) h:=by
 have hwk:∀s,(F.wk (some s)).K=EI P false (IN P F.Rep F.W.K s false):=λs=>by show EI P F.main (IN P F.Rep F.W.K s F.main)=_;rw [hm]
 rw [Gu hs];refine LL _ _ _ _ rfl λw f=>⟨G (Frame.enter P F.fn args .deferred) [JE P],w,#[],h,?_,Bm.refl f,?_⟩
 ·subst ha;have hi:(invoke (.fn (.func F.fn) cap) ars).runT P w #[]=(.ok (.enter F.fn (ars++cap)) w,#[]):=TG hf hc w;show callDeferred P (JE P) [] none { target:=.fn (.func F.fn) cap,args:=ars } w=_;unfold callDeferred;rw [if_neg aD];simp only [hi,seen_none];rfl
 have e0:Frame.enter P F.fn args .deferred=Ci (Frame.enter P F.fn args .deferred) (args++Array.replicate (fn.ntmps-args.size) undef) [] [.code (.seq c R)]:=by simp [Frame.enter,Ci,hf,hb]
 rw [e0,<-hwk s];refine Wk.go (Ci (Frame.enter P F.fn args .deferred) (args++Array.replicate (fn.ntmps-args.size) undef) [] (.code c ::.code R ::[])) (λw=>by rw [A7];simp [stepG.exec,Ci,G]) ?_;refine x (Frame.enter P F.fn args .deferred) [.code R] [JE P] (λ_ _ _ _ _=>False) _ rfl hrd.symm (λi=>⟨λ_ _ _ q=>q.elim,λ_ _ _ _ q=>q.elim,λ_ _ _ _ _ _ q=>q.elim⟩) ⟨by rw [hN];simp;omega,λi=>?_⟩ ?_
 ·by_cases hi:i<args.size
  ·simp [Array.getD_eq_getD_getElem?,Array.getElem?_append_left hi]
  ·simp only [Array.getD_eq_getD_getElem?];rw [Array.getElem?_append_right aA,Array.getElem?_eq_none (show args.size<=i by omega),Array.getElem?_replicate];split <;> rfl
 ·rintro i e O ds h' ⟨rfl,rfl,z⟩ t' ht';exact z t' ht'
theorem ZP{fn:Func}{id:Nat}{o1 o2:Oper}{args:Array Value}{c:Nat}{m:M}{v z:Value}{hm:GH}{h1:GH}(hmn:F.main=false)(hrd:F.rd=none)(hf:P.funcs[F.fn]? =some fn)(hres:fn.results=#[])
  (hg1:o1.guard=none) (hd1:Cz o1.dst F.N=true) (hg2:o2.guard=none) (hdf1:C1 o1.op=false) (hdf:C1 o2.op=false) (hd2:Cz o2.dst F.N=true)
  (x:BX (F.env (some (.send c m .done))) o1 O [] h λσ' ds' h'=>ds'=[]/\(∀w,(execOp (AQ σ') o2).runT P w #[]=(.ok (.comm #[scase c v z] true .send) w,#[]))/\GH.Split h' h1 hm/\F.Rep c m v hm) :
  JF F (.region id [o1,o2].toArray false) args (some (.send c m .done)) O h:=by
 intro t hs;refine Wk.go (Ci (Frame.enter P F.fn args .deferred) t [] (.inRegion [o1,o2].toArray [0,1] ::[])) (λw=>by rw [A7];simp [stepG.exec,Ci,G,List.range_eq_range',Array.range];rfl) ?_;refine KD (E:=F.env (some (.send c m .done))) (o:=o1) (rest:=[1]) rfl (by simp [Region.wanted,hg1]) (.inr hdf1) hd1 hs x ?_;rintro σ' ds' h' ⟨rfl,hr,hsp,hrep⟩ t' ht';refine EI.stop ⟨_,[JE P],v,z,hm,h1,rfl,⟨λw fw=>?_,hsp,hrep,4,?_⟩⟩
 ·rw [hmn];exact TE ht' rfl (by simp [Region.wanted,hg2]) (.inr hdf) (hr w)
 ·rw [C2 (ops:=[o1,o2].toArray) (i:=1) (o:=o2) rfl];exact Ui hf hres
theorem ZQ{dst:Option Nat}{x:Operand}{tys:Array TypeId}{ty:TypeId}{pos:String}{af:Array Edge}{gd:Option (Nat×Bool)}{ch s r:Nat}{w:World}(hx:AQ O x=.chan (some ch))(hw:w.heap[ch]? =some (.chan 0 #[] false s r false)) :
  (execOp (AQ O) ⟨dst,.call ⟨.builtin .close,#[x],tys⟩,ty,pos,af,gd⟩).runT P w #[]=(.ok (.value (.tuple #[])) { w with heap:=w.heap.setIfInBounds ch (.chan 0 #[] true s r false) },#[⟨.obj ch,false,true⟩,⟨.obj ch,true,true⟩]):=by
 have q:execOp (AQ O) ⟨dst,.call ⟨.builtin .close,#[x],tys⟩,ty,pos,af,gd⟩=builtin .close tys ty (#[x].map fun | .const _=>true | _=>false) (#[x].map (AQ O)):=by
  show (resolve (AQ O) _ ty).bind _=_;unfold resolve;rfl
 have e:(#[x].map (AQ O))=#[Value.chan (some ch)]:=by simp [hx]
 rw [q,e];show Sem.runT P (.getObj ch λo=>_) w #[]=_;unfold Sem.runT;rw [hw];show Sem.runT P (.setObj ch (.chan 0 #[] true s r false) _) w _=_;unfold Sem.runT;rw [hw];rfl
theorem PX{fn:Func}{id:Nat}{o1:Oper}{dst:Option Nat}{xo:Operand}{tys:Array TypeId}{ty:TypeId}{pos:String}{af:Array Edge}{args:Array Value}{c:Nat}(hmn:F.main=false)(hf:P.funcs[F.fn]? =some fn)(hres:fn.results=#[])
  (hg1:o1.guard=none) (hd1:Cz o1.dst F.N=true) (hdf1:C1 o1.op=false)
  (x:BX (F.env (some (.close c .done))) o1 O [] h λσ' ds' _=>ds'=[]/\AQ σ' xo=.chan (some c)) :
  JF F (.region id [o1,⟨dst,.call ⟨.builtin .close,#[xo],tys⟩,ty,pos,af,none⟩].toArray false) args (some (.close c .done)) O h:=by
 intro t hs;refine Wk.go (Ci (Frame.enter P F.fn args .deferred) t [] (.inRegion [o1,⟨dst,.call ⟨.builtin .close,#[xo],tys⟩,ty,pos,af,none⟩].toArray [0,1] ::[])) (λw=>by rw [A7];simp [stepG.exec,Ci,G,List.range_eq_range',Array.range];rfl) ?_;refine KD (E:=F.env (some (.close c .done))) (o:=o1) (rest:=[1]) rfl (by simp [Region.wanted,hg1]) (.inr hdf1) hd1 hs x ?_;rintro σ' ds' h' ⟨rfl,hx⟩ t' ht';refine EI.stop ⟨_,[JE P],Ci (Frame.enter P F.fn args .deferred) (Vj t' dst (.tuple #[])) [] [.inRegion [o1,⟨dst,.call ⟨.builtin .close,#[xo],tys⟩,ty,pos,af,none⟩].toArray []],[JE P],rfl,⟨λw s r fw hw=>?_,rfl,4,Ui hf hres⟩⟩;rw [hmn,O6 ht' (ops:=[o1,⟨dst,.call ⟨.builtin .close,#[xo],tys⟩,ty,pos,af,none⟩].toArray) (n:=1) (o:=⟨dst,.call ⟨.builtin .close,#[xo],tys⟩,ty,pos,af,none⟩) rfl (by simp [Region.wanted]) (.inr rfl)];simp only [stepG.apply,ZQ hx hw,if_true];have hk:((Ci (Frame.enter P F.fn args .deferred) t' [] [.inRegion [o1,⟨dst,.call ⟨.builtin .close,#[xo],tys⟩,ty,pos,af,none⟩].toArray [1]]).kind==CallKind.early)=false:=rfl;rw [C2 (ops:=[o1,⟨dst,.call ⟨.builtin .close,#[xo],tys⟩,ty,pos,af,none⟩].toArray) (i:=1) rfl];simp only [hk,Bool.false_eq_true,if_false];show GStep.go _ _ (seen P _ _++ #[])=_;rw [V9];rfl
end
end Go.Ns
namespace Go.Ns
open Go.Conc
theorem B4.at{h:GH}{t:TypeId}{l:List Sl}(a:B4 h t l){x:Sl}(hx:x ∈ l):Dr h t x.1 x.2:=by
 obtain ⟨i,hi,e⟩:=List.mem_iff_getElem.1 hx;have z:=a i;rw [List.getD_eq_getElem?_getD,List.getElem?_eq_getElem hi] at z;have z2:Dr h t l[i].1 l[i].2:=z;rw [<-e];exact z2
theorem B4.of{h:GH}{t:TypeId}{l:List Sl}(a:∀x ∈ l,Dr h t x.1 x.2):B4 h t l:=λk=>by
 by_cases hk:k<l.length
 ·exact a _ (BQ hk)
 ·rw [CI aA];exact Dr.nil _ _
theorem B4.grown{V:Type}{h h' h0:GH}{v v':Value}{t t':TypeId}{n:Nat}{enc:V->Array Value}{ys:List V}(g:GO h h' v v')(o:AT h0 h v t' n enc ys)(ne:t'≠t){l:List Sl}(x:B4 h t l):B4 h' t l:=λk=>(x k).grown g o ne
theorem B4.store{h h':GH}{t t':TypeId}{l:List Sl}{r:Nat}{p:Bool}{c:Array Value}{f:Nat×Nat}(x:B4 h t l)(hr:h r=some (p,.cells c t' f))(ne:t'≠t)(ho:∀b,b≠r->h' b=h b):B4 h' t l:=λk=>(x k).store hr ne ho
theorem Dr.storeL{h h':GH}{t:TypeId}{w:Value}{xs:List Int}{r:Nat}{p:Bool}{lo:Loop}(x:Dr h t w xs)(hr:h r=some (p,.loop lo))(ho:∀b,b≠r->h' b=h b):Dr h' t w xs:=
 x.same λb hb=>ho b λe=>by
  obtain ⟨p2,c2,f2,q⟩:=x.2 b hb;rw [e,hr] at q;cases q
def Rs(hB:GH)(r:Nat)(T t t0:TypeId)(F:List Int->Bool)(pre:List (List Int))(Y:Nat->Prop)(h:GH):Prop:=
 ∃w l',h r=some (true,.cells #[w] T (0,0))/\AT hB h w t 1 Jd l'/\BI w r/\hB r=none/\A4 l'=pre.filter F/\B4 h t0 l'/\∀b,Y b↔b=r\/CX w=some b\/∃x ∈ l',CX x.1=some b
section
variable {hB h h' ha hb:GH} {r:Nat} {T t t0:TypeId} {F:List Int->Bool} {pre:List (List Int)} {p:List Int} {w w' v:Value} {Y:Nat->Prop} {l':List Sl}
theorem PY(hB:GH)(r:Nat)(T t t0:TypeId)(F:List Int->Bool):GK hB (Rs hB r T t t0 F):=by
 refine ⟨?_,?_⟩
 ·rintro pre Y h b ⟨w,l',h1,h2,h3,h0,h5,h6,h4⟩ hb;rcases (h4 b).1 hb with rfl | h7 | ⟨x,hx,h7⟩
  ·exact ⟨_,_,h1,rfl⟩
  ·obtain ⟨c,hc⟩:=h2.cellsAt b h7;exact ⟨_,_,hc,rfl⟩
  ·obtain ⟨q,c,f,hc⟩:=(h6.at hx).2 b h7;exact ⟨_,_,hc,rfl⟩
 ·rintro pre Y h h' ⟨w,l',h1,h2,h3,h0,h5,h6,h4⟩ same lB;refine ⟨w,l',by rw [same r ((h4 r).2 (.inl rfl))];exact h1,h2.keep λb o hb ho=>by rw [same b ((h4 b).2 (.inr (.inl hb)))];exact ho,h3,h0,h5,.of λx hx=>(h6.at hx).same λb hb=>same b ((h4 b).2 (.inr (.inr ⟨x,hx,hb⟩))),h4⟩
theorem Nk(x:h r=some (true,.cells #[.slice none 0 0] T (0,0)))(h0:hB r=none):Rs hB r T t t0 F [] (λb=>b=r) h:=
 ⟨_,[],x,AT.nil _ _ _ _ _,BI.nil,h0,rfl,B4.nil _ _,λ_=>⟨.inl,λq=>q.elim id λe=>e.elim (λe=>by cases e) λ⟨_,e,_⟩=>by cases e⟩⟩
theorem Ru(hY:∀b,Y b↔b=r\/CX w=some b\/∃x ∈ l',CX x.1=some b)(g:GO ha hb w w')(hn:∀q,ha q=none->h q=none)(x:h' r=some (true,.cells #[w'] T (0,0)))(o:AT hB h' w' t 1 Jd (l'++[(v,p)]))(f:BI w' r)(h0:hB r=none)
  (hl:A4 l'=pre.filter F) (hp:F p=true) (ta:B4 h' t0 (l'++[(v,p)])):∃Y',(∀b,Y' b->(Y b\/CX v=some b)\/h b=none)/\Rs hB r T t t0 F (pre++[p]) Y' h':=by
 refine ⟨λb=>b=r\/CX w'=some b\/∃x ∈ l'++[(v,p)],CX x.1=some b,?_,w',_,x,o,f,h0,?_,ta,λ_=>Iff.rfl⟩
 ·rintro b (rfl | hb | ⟨y,hy,hb⟩)
  ·exact .inl (.inl ((hY _).2 (.inl rfl)))
  ·rcases g.2 with e | ⟨⟨q,e1,e2⟩,_⟩
   ·exact .inl (.inl ((hY _).2 (.inr (.inl (by rw [<-e];exact hb)))))
   ·rw [e1] at hb;cases hb;exact .inr (hn _ e2)
  ·rcases List.mem_append.1 hy with hy | hy
   ·exact .inl (.inl ((hY _).2 (.inr (.inr ⟨y,hy,hb⟩))))
   ·rw [List.mem_singleton.1 hy] at hb;exact .inl (.inr hb)
 ·rw [Mc,hl,List.filter_append];simp [A4,hp]
theorem WX(hY:∀b,Y b↔b=r\/CX w=some b\/∃x ∈ l',CX x.1=some b)(x:h' r=some (true,.cells #[w] T (0,0)))(o:AT hB h' w t 1 Jd l')(f:BI w r)(h0:hB r=none)(hl:A4 l'=pre.filter F)(hp:F p=false)(ta:B4 h' t0 l') :
  ∃Y',(∀b,Y' b->(Y b\/CX v=some b)\/h b=none)/\Rs hB r T t t0 F (pre++[p]) Y' h':=
 ⟨Y,λ_ q=>.inl (.inl q),w,l',x,o,f,h0,by rw [hl,List.filter_append];simp [hp],ta,hY⟩
end
def tVal:Dl->Value
 | .job i=>.int .i64 i
 | .res i b=>.agg #[.int .i64 i,.bool b]
 | .tick=>.bool true
def tOK(n:Nat):Dl->Prop
 | .job i=>i<n
 | .res i _=>i<n
 | .tick=>True
def N8(n:Nat):Nat->Dl->Value->GH->Prop:=λ_ m v hm=>v=tVal m/\tOK n m/\hm=λ_=>none
theorem GH.split_none(h:GH):GH.Split h h (λ_=>none) where
 left:=λb p o hb=>⟨p,hb,id⟩
 right:=λb p o hb=>by cases hb
 one:=λ_ _ _ _ hb=>by cases hb
 two:=λ_ _ _ hb _=>by cases hb
section
variable {cj co cd n k:Nat} {ok:Nat->Bool}
theorem ZR(h:k<n):some (HG cj (n-k) k)=some (.send cj (.job k) (HG cj (n-(k+1)) (k+1))):=by
 rw [show n-k=(n-(k+1))+1 by omega];rfl
theorem feed_end(h:n<=k):some (HG cj (n-k) k)=some (.close cj .done):=by rw [show n-k=0 by omega];rfl
theorem Uj:∀m k,¬(HG cj m k).isDone
 | 0,_=>id
 | _+1,_=>id
theorem Uk:∀m,¬(FO cj co cd ok m).isDone
 | 0=>id
 | _+1=>id
theorem ZS{m:Nat}:∀o,¬(UR co cd ok (FO cj co cd ok m) o).isDone
 | none=>id
 | some (.job _)=>id
 | some (.res _ _)=>id
 | some .tick=>id
theorem Rv:∀t,¬(EC co cd t).isDone
 | 0=>id
 | _+1=>id
theorem WY{t:Nat}:∀o,¬(MU (EC co cd t) o).isDone
 | none=>id
 | some (.job _)=>id
 | some (.res _ _)=>id
 | some .tick=>Rv t
theorem Ul:∀m R,¬(FP co ok m R).isDone
 | 0,_=>id
 | _+1,_=>id
theorem YR{c:Prop}[Decidable c]{a b:Cp Dl}(ha:¬a.isDone)(hb:¬b.isDone):¬(if c then a else b).isDone:=by split <;> assumption
theorem ZT{m:Nat}{R:List Nat}:∀o,¬(IA ok R (FP co ok m) o).isDone
 | none=>YR id id
 | some (.job _)=>id
 | some .tick=>id
 | some (.res _ _)=>YR (Ul _ _) id
theorem Um:∀m,¬(Hu cj co cd n ok m).isDone
 | 0=>id
 | _+1=>id
theorem WZ(h:k<3):some (EC co cd (3-k))=some (.recv cd (MU (EC co cd (3-(k+1))))):=by
 rw [show 3-k=(3-(k+1))+1 by omega];rfl
theorem ZU(h:3<=k):some (EC co cd (3-k))=some (.close co .done):=by rw [show 3-k=0 by omega];rfl
theorem ZV(h:k<3):some (Hu cj co cd n ok (3-k))=some (.spawn (FO cj co cd ok (n+1)) (Hu cj co cd n ok (3-(k+1)))):=by
 rw [show 3-k=(3-(k+1))+1 by omega];rfl
theorem crew_end(h:3<=k):some (Hu cj co cd n ok (3-k))=some (.spawn (EC co cd 3) (FP co ok (n+1) (List.range n))):=by rw [show 3-k=0 by omega];rfl
end
def TV(n:Nat)(ok:Nat->Bool)(R:List Nat):List Bool:=(List.range n).map λi=>if i ∈ R then false else ok i
theorem YS(n:Nat)(ok:Nat->Bool)(R:List Nat):(TV n ok R).length=n:=by unfold TV;rw [List.length_map,List.length_range]
theorem ZW(n:Nat)(ok:Nat->Bool):TV n ok (List.range n)=List.replicate n false:=by
 unfold TV;refine List.ext_getElem aD λi h1 h2=>?_
 have:i<n:=by simpa using h1
 simp [this]
theorem isL_put{n i:Nat}{ok:Nat->Bool}{R:List Nat}(hR:R.Nodup):(TV n ok R).set i (ok i)=TV n ok (R.erase i):=by
 unfold TV;refine List.ext_getElem aD λj h1 h2=>?_;rw [List.getElem_set];simp only [List.getElem_map,List.getElem_range,List.Nodup.mem_erase_iff hR];by_cases e:i=j
 ·subst e;simp
 ·rw [if_neg e]
  have:j≠i:=λq=>e q.symm
  simp [this]
theorem YT{n:Nat}{ok:Nat->Bool}{k:Nat}(hk:k<n):(TV n ok []).getD k false=ok k:=by
 unfold TV;rw [List.getD_eq_getElem?_getD,List.getElem?_map,List.getElem?_range hk];simp
def JG(fl:List Sl)(ok:Nat->Bool):Nat->List Sl
 | 0=>[]
 | k+1=>if ok k=true then JG fl ok k++[fl.getD k Sl.z] else JG fl ok k
theorem selS_t{fl:List Sl}{ok:Nat->Bool}{k:Nat}(h:ok k=true):JG fl ok (k+1)=JG fl ok k++[fl.getD k Sl.z]:=if_pos h
theorem selS_f{fl:List Sl}{ok:Nat->Bool}{k:Nat}(h:ok k=false):JG fl ok (k+1)=JG fl ok k:=if_neg (by rw [h];simp)
theorem Un(fl:List Sl)(ok:Nat->Bool):∀k,(JG fl ok k).length<=k
 | 0=>Nat.le_refl _
 | k+1=>by
  have:=Un fl ok k
  unfold JG;split
  ·rw [List.length_append,List.length_singleton];omega
  ·omega
theorem PZ{fl:List Sl}{G:List Int->Bool}:∀k,k<=fl.length->A4 (JG fl (λi=>G (fl.getD i Sl.z).2) k)=((A4 fl).take k).filter G
 | 0,_=>rfl
 | k+1,h=>by
  have ih:=PZ (fl:=fl) (G:=G) k aA;have e:(A4 fl).take (k+1)=(A4 fl).take k++[(fl.getD k Sl.z).2]:=by rw [Du [] (by rw [CC];omega),Fg (l:=fl) aA]
  unfold JG;rw [e,List.filter_append];by_cases q:G (fl.getD k Sl.z).2=true
  ·rw [if_pos q,Mc,ih,List.filter_cons_of_pos q];rfl
  ·rw [if_neg q,ih,List.filter_cons_of_neg q,List.filter_nil,List.append_nil]
end Go.Ns
namespace Go.Ns
open Go.Conc
section
variable {P:Program} {M:Type} {F:MT P M} {i i':Option (Cp M)} {O:Nat->Value} {ds:List Deferred} {h:GH} {Q:O5 M}
theorem trI_ix{c:Code}(e:i=i')(x:N6 F c i' O ds h Q):N6 F c i O ds h Q:=e▸x
theorem JH{ops:Array Oper}{l:List Oper}(e:i=i')(x:GL F ops l i' O ds h Q):GL F ops l i O ds h Q:=e▸x
theorem ZX{c:Code}{Q:Post}(x:N6 F c none O ds h λi e O ds h=>i=none/\Q e O ds h):Tr ⟨F.W,F.fn,F.rd,F.N⟩ c O ds h Q:=by
 intro b k cs L t hb hr hl hs hc;refine x b k cs (λi=>match i with | none=>L | some _=>λ_ _ _ _=>False) t hb hr (λi=>?_) hs λi e σ' ds' h' q t' ht'=>?_
 ·cases i with
  | none=>exact hl
  | some s=>exact ⟨λ_ _ _ x=>x.elim,λ_ _ _ _ x=>x.elim,λ_ _ _ _ _ _ x=>x.elim⟩
 ·obtain ⟨rfl,q⟩:=q;exact hc e σ' ds' h' q t' ht'
theorem trI_end{c:Code}{Q:Post}(x:Tr (F.env none) c O ds h Q):N6 F c none O ds h λi e O ds h=>i=none/\Q e O ds h:=
 Ij (KC (λ_ _ _ _ q=>⟨rfl,q⟩) x)
variable {dst:Option Nat} {ty:TypeId} {pos:String} {af:Array Edge} {gd:Option (Nat×Bool)}
theorem Pa{a x:Operand}{c:Nat}{v:Value}(ha:AQ O a=.chan (some c))(hx:AQ O x=v)(w:World):(execOp (AQ O) ⟨dst,.send a x,ty,pos,af,gd⟩).runT P w #[]=(.ok (.comm #[scase c v (.tuple #[])] true .send) w,#[]):=by
 subst hx;show (Result.ok (Next.comm #[{ chan:=AQ O a,send:=some (AQ O x),zero:=.tuple #[] }] true .send) w,#[])=_;rw [ha];rfl
theorem run_recv{a:Operand}{c:Nat}{t e:TypeId}{d:ChanDir}{ok:Bool}{z:Value}{inf:TypeInfo}(ht:P.underlying t=some (.chan d e))(hi:P.info? e=some inf)(hz:inf.zero=some z)(ha:AQ O a=.chan (some c))(w:World) :
  (execOp (AQ O) ⟨dst,.recv t a ok,ty,pos,af,gd⟩).runT P w #[]=(.ok (.comm #[rcase c z] true (.recv ok)) w,#[]):=by
 have h1:(zeroValue e).run P w=.ok z w:=by
  unfold zeroValue typeInfo;simp only [Sem.run_bind,program,hi];simp [Sem.run,hi,hz]
 have h2:(underlying t).run P w=.ok (.chan d e) w:=run_underlying ht w;rw [Sem.runT_eq];unfold execOp;simp [h1,h2,ha,rcase]
theorem Me{a:Operand}{c:Nat}{t e:TypeId}{d:ChanDir}{ok:Bool}{z:Value}(ht:P.underlying t=some (.chan d e))(hz:(P.info? e).map (·.zero)=some (some z))(ha:AQ O a=.chan (some c))(w:World) :
  (execOp (AQ O) ⟨dst,.recv t a ok,ty,pos,af,gd⟩).runT P w #[]=(.ok (.comm #[rcase c z] true (.recv ok)) w,#[]):=by
 obtain ⟨inf,hi,h2⟩:=Option.map_eq_some_iff.1 hz;exact run_recv ht hi h2 ha w
theorem Wa{x:Operand}{f:Fn}{cap:Array Value}{tys:Array TypeId}(hx:AQ O x=.func f #[] cap)(w:World):(execOp (AQ O) ⟨dst,.go ⟨.value x,#[],tys⟩,ty,pos,af,gd⟩).runT P w #[]=(.ok (.spawn { target:=.fn f cap,args:=#[] }) w,#[]):=by
 have e:resolve (AQ O) ⟨.value x,#[],tys⟩ ty=(pure { target:=.fn f cap,args:=#[] }:Sem Deferred):=by
  unfold resolve;simp only [hx,Deferred.ofValue];simp
 unfold execOp;simp only [e];rfl
variable {E:GQ P} {T:(Nat->Value)->List Deferred->GH->Prop}
theorem Jy{t e:TypeId}{d:ChanDir}{n:Operand}(ht:P.underlying t=some (.chan d e))(hi0:(P.info? e).isSome=true)(hn:AQ O n=.int .i64 0)
  (k:∀r h',h r=none->h.Le h'->h' r=some (true,.chan 0 #[] false 0 0 false)->(∀b,b≠r->h' b=h b)->T (putS O dst (.chan (some r))) ds h'):BX E ⟨dst,.makeChan t n,ty,pos,af,gd⟩ O ds h T:=by
 unfold BX execOp;refine Fy ?_;unfold Instr.makeChan;rw [hn];refine AF _ _ (Aw ?_);refine AF _ _ (An ht ?_);simp only [];obtain ⟨inf,hi⟩:=Option.isSome_iff_exists.1 hi0;refine AF _ _ (Cl hi ?_);rw [if_neg (by simp [IntKind.max];decide)];refine AF _ _ ?_;exact λr hr=>k r _ hr (GH.Le.new hr _ _) (GH.set_same _ _ _ _) λb hb=>GH.set_ne _ _ _ hb
end
section
variable {P:Program} {F:MT P Dl} {i i':Option (Cp Dl)} {O:Nat->Value} {ds:List Deferred} {h:GH} {Q:O5 Dl} {ops:Array Oper} {o:Oper} {l:List Oper} {n:Nat} {cj co cd c m k:Nat} {ok:Nat->Bool} {R:List Nat} {z:Value}
theorem JF.ix{X:Code}{args:Array Value}(e:i=i')(x:JF F X args i' O h):JF F X args i O h:=e▸x
theorem HY:GL F ops l (some .never) O ds h Q:=λ_ _ _ _ _ _ _ _ _ _ _ _=>EI.stop rfl
theorem GH.join_none(h:GH):h.join (λ_=>none)=h:=by
 funext b;unfold GH.join;cases h b <;> rfl
theorem Uo{s:Dl}{nx:Cp Dl}(hR:F.Rep=N8 n)(hg:o.guard=none)(hdf:C1 o.op=false)(hd:Cz o.dst F.N=true)(hr:∀w,(execOp (AQ O) o).runT P w #[]=(.ok (.comm #[scase c (tVal s) z] true .send) w,#[]))(hs:tOK n s)(hnx:¬nx.isDone)
  (x:GL F ops l (some nx) (putS O o.dst undef) ds h Q):GL F ops (o ::l) (some (.send c s nx)) O ds h Q:=
 Y4 hg hdf hd hr (GH.split_none h) (by rw [hR];exact ⟨rfl,hs,rfl⟩) hnx x
theorem Mf{f:Option Dl->Cp Dl}{r:Bool}(hR:F.Rep=N8 n)(hg:o.guard=none)(hdf:C1 o.op=false)(hd:Cz o.dst F.N=true)(hr:∀w,(execOp (AQ O) o).runT P w #[]=(.ok (.comm #[rcase c z] true (.recv r)) w,#[]))(hnx:∀o,¬(f o).isDone)
  (x:∀s,tOK n s->GL F ops l (some (f (some s))) (putS O o.dst (recvd r (tVal s) true)) ds h Q) (y:GL F ops l (some (f none)) (putS O o.dst (recvd r z false)) ds h Q):GL F ops (o ::l) (some (.recv c f)) O ds h Q:=
 Y5 hg hdf hd hr hnx (λs v hm hrep _=>by
  rw [hR] at hrep;obtain ⟨rfl,h2,rfl⟩:=hrep;rw [GH.join_none];exact x s h2) y
theorem Up(hR:F.Rep=N8 n)(hg:o.guard=none)(hdf:C1 o.op=false)(hd:Cz o.dst F.N=true)(hr:∀w,(execOp (AQ O) o).runT P w #[]=(.ok (.comm #[rcase cj z] true (.recv true)) w,#[]))
  (x:∀i,i<n->GL F ops l (some (.send co (.res i (ok i)) (FO cj co cd ok m))) (putS O o.dst (.tuple #[.int .i64 i,.bool true])) ds h Q) (y:GL F ops l (some (.send cd .tick .done)) (putS O o.dst (.tuple #[z,.bool false])) ds h Q) :
  GL F ops (o ::l) (some (FO cj co cd ok (m+1))) O ds h Q:=
 Mf (f:=UR co cd ok (FO cj co cd ok m)) hR hg hdf hd hr ZS (λs hs=>by
  cases s with
  | job i=>exact x i hs
  | res i b=>exact HY
  | tick=>exact HY) y
theorem Uq(hR:F.Rep=N8 n)(hg:o.guard=none)(hdf:C1 o.op=false)(hd:Cz o.dst F.N=true)(hr:∀w,(execOp (AQ O) o).runT P w #[]=(.ok (.comm #[rcase cd z] true (.recv false)) w,#[]))(hk:k<3)
  (x:GL F ops l (some (EC co cd (3-(k+1)))) (putS O o.dst (.bool true)) ds h Q):GL F ops (o ::l) (some (EC co cd (3-k))) O ds h Q:=
 JH (WZ hk) (Mf (f:=MU (EC co cd (3-(k+1)))) hR hg hdf hd hr WY (λs _=>by
  cases s with
  | job i=>exact HY
  | res i b=>exact HY
  | tick=>exact x) HY)
theorem ZY(hR:F.Rep=N8 n)(hg:o.guard=none)(hdf:C1 o.op=false)(hd:Cz o.dst F.N=true)(hr:∀w,(execOp (AQ O) o).runT P w #[]=(.ok (.comm #[rcase co z] true (.recv true)) w,#[]))
  (x:∀i,i<n->i ∈ R->GL F ops l (some (FP co ok m (R.erase i))) (putS O o.dst (.tuple #[.agg #[.int .i64 i,.bool (ok i)],.bool true])) ds h Q) (y:R=[]->GL F ops l (some .stop) (putS O o.dst (.tuple #[z,.bool false])) ds h Q) :
  GL F ops (o ::l) (some (FP co ok (m+1) R)) O ds h Q:=
 Mf (f:=IA ok R (FP co ok m)) hR hg hdf hd hr ZT (λs hs=>by
  cases s with
  | job i=>exact HY
  | tick=>exact HY
  | res i b=>
   by_cases e:i ∈ R/\b=ok i
   ·obtain ⟨e1,rfl⟩:=e;exact JH (show some (IA ok R (FP co ok m) (some (.res i (ok i))))=some (FP co ok m (R.erase i)) by unfold IA;simp [e1]) (x i hs e1)
   ·exact JH (show some (IA ok R (FP co ok m) (some (.res i b)))=some .never by show some (if i ∈ R/\b=ok i then _ else _)=_;rw [if_neg e]) HY) (by
  by_cases e:R=[]
  ·exact JH (show some (IA ok R (FP co ok m) none)=some .stop by unfold IA;rw [if_pos e]) (y e)
  ·exact JH (show some (IA ok R (FP co ok m) none)=some .never by unfold IA;rw [if_neg e]) HY)
end
theorem Ar.flags{h h':GH}{js:List AO}(s:h.Same h')(x:Ar h js):Ar h' js:=λk=>(x k).flags s
theorem AY.flags{h h':GH}{ns:List AJ}(s:h.Same h')(x:AY h ns):AY h' ns:=λk=>(x k).flags s
theorem HF.flags{h h':GH}{l:List Sl}(s:h.Same h')(a:HF h l):HF h' l:=λk=>(a k).flags s
theorem ED.flags{h h':GH}{r np:Nat}{ws:List AE}{pq:List AG}(s:h.Same h')(x:ED h r np ws pq):ED h' r np ws pq:=by
 obtain ⟨pm,M,⟨es,clk,hb,hl⟩,hM⟩:=x;obtain ⟨p',hb'⟩:=s _ _ _ hb;exact ⟨p',M,⟨es,clk,hb',hl⟩,hM⟩
theorem tr_lays5{P:Program}{E:GQ P}{id:Nat}{a0 a1 a2 a3 a4:Oper}{rest:List Oper}{d0 d1 d2 d3:Nat}{O:Nat->Value}{ds:List Deferred}{h:GH}{Q:Post}(o0 o1 o2 o3:Obj)(o4:Nat->Obj)(v0 v1 v2 v3:Nat->Value)(hm:P.follows .mixedOrders=true)
  (ok:F0 E.N (a0 ::a1 ::a2 ::a3 ::a4 ::rest) 5 [[],[],[],[],[0,2,3]]=true)
  (g0:a0.guard=none) (g1:a1.guard=none) (g2:a2.guard=none) (g3:a3.guard=none) (g4:a4.guard=none) (e0:a0.dst=some d0) (e1:a1.dst=some d1) (e2:a2.dst=some d2) (e3:a3.dst=some d3)
  (l0:∀σ' h',BX E a0 σ' ds h' λσ'' ds'' h''=>ds''=ds/\∃r,σ''=putS σ' a0.dst (v0 r)/\h' r=none/\h'.Le h''/\h'' r=some (true,o0)) (l1:∀σ' h',BX E a1 σ' ds h' λσ'' ds'' h''=>ds''=ds/\∃r,σ''=putS σ' a1.dst (v1 r)/\h' r=none/\h'.Le h''/\h'' r=some (true,o1))
  (l2:∀σ' h',BX E a2 σ' ds h' λσ'' ds'' h''=>ds''=ds/\∃r,σ''=putS σ' a2.dst (v2 r)/\h' r=none/\h'.Le h''/\h'' r=some (true,o2)) (l3:∀σ' h',BX E a3 σ' ds h' λσ'' ds'' h''=>ds''=ds/\∃r,σ''=putS σ' a3.dst (v3 r)/\h' r=none/\h'.Le h''/\h'' r=some (true,o3))
  (l4:∀r0 r2 σ' h',σ' d0=v0 r0->σ' d2=v2 r2->h' r2=some (true,o2)->BX E a4 σ' ds h' λσ'' ds'' h''=>ds''=ds/\σ''=σ'/\h'' r2=some (true,o4 r0)/\∀b,b≠r2->h'' b=h' b)
  (fin:∀(r0 r1 r2 r3:Nat) σ' h',h.Le h'->(h r0=none/\h' r0=some (true,o0)/\σ' d0=v0 r0)->(h r1=none/\h' r1=some (true,o1)/\σ' d1=v1 r1)->(h r2=none/\h' r2=some (true,o4 r0)/\σ' d2=v2 r2)->(h r3=none/\h' r3=some (true,o3)/\σ' d3=v3 r3)->
   (r0≠r1/\r0≠r2/\r0≠r3/\r1≠r2/\r1≠r3/\r2≠r3)->(∀t,(DX (a0 ::a1 ::a2 ::a3 ::a4 ::rest) 5).contains t=false->σ' t=O t)->DO E (a0 ::a1 ::a2 ::a3 ::a4 ::rest).toArray rest σ' ds h' Q):Tr E (.region id (a0 ::a1 ::a2 ::a3 ::a4 ::rest).toArray true) O ds h Q:=by
 let l:=a0 ::a1 ::a2 ::a3 ::a4 ::rest;let obj:Nat->Obj:=λi=>match i with | 0=>o0 | 1=>o1 | 2=>o2 | _=>o3
 let val:Nat->Nat->Value:=λi=>match i with | 0=>v0 | 1=>v1 | 2=>v2 | _=>v3
 have lay:∀i o,i<4->l[i]? =some o->∀σ' h',BX E o σ' ds h' λσ'' ds'' h''=>ds''=ds/\∃r,σ''=putS σ' o.dst (val i r)/\h' r=none/\h'.Le h''/\h'' r=some (true,obj i):=by
  intro i o hi ho σ' h';rcases i with _ | _ | _ | _ | i
  ·cases ho;exact l0 σ' h'
  ·cases ho;exact l1 σ' h'
  ·cases ho;exact l2 σ' h'
  ·cases ho;exact l3 σ' h'
  ·omega
 have nd:(DX l 5).Nodup:=by
  have:=ok
  unfold F0 at this;simp only [Bool.and_eq_true] at this;exact of_decide_eq_true this.1.2
 refine T8 5 [[],[],[],[],[0,2,3]] (λD σ' h'=>h.Le h'/\(D 4=true->D 0=true/\D 2=true)/\∃rs:Nat->Nat,(∀i,i<4->D i=true->h (rs i)=none/\h' (rs i)=some (true,if i=2/\D 4=true then o4 (rs 0) else obj i)/\∀o d,l[i]? =some o->o.dst=some d->σ' d=val i (rs i))/\
  (∀i j,i<4->j<4->D i=true->D j=true->i≠j->rs i≠rs j)/\∀t,(DX l 5).contains t=false->σ' t=O t) hm ok ⟨GH.Le.refl _,(λe=>by cases e),λ_=>0,(λ_ _ q=>by cases q),(λ_ _ _ _ q=>by cases q),λ_ _=>rfl⟩ ?_ ?_
 ·rintro D σ' h' i o ⟨l1',hD4,rs,h1,h2,h3⟩ hi hD ho hcl _;have hgd:o.guard=none:=by
   rcases i with _ | _ | _ | _ | _ | i
   ·cases ho;exact g0
   ·cases ho;exact g1
   ·cases ho;exact g2
   ·cases ho;exact g3
   ·cases ho;exact g4
   ·omega
  refine ⟨λ_=>?_,λq=>absurd (by unfold DM;rw [hgd];trivial) q⟩;by_cases hi4:i=4
  ·subst hi4;have c0:D 0=true:=hcl 0 aD;have c2:D 2=true:=hcl 2 aD;cases ho;obtain ⟨q1,q2,q3⟩:=h1 0 aC c0;obtain ⟨p1,p2,p3⟩:=h1 2 aC c2;rw [if_neg (λe=>by rw [hD] at e;cases e.2)] at p2;refine (l4 (rs 0) (rs 2) σ' h' (q3 a0 d0 rfl e0) (p3 a2 d2 rfl e2) p2).mono λσ'' ds'' h'' q=>?_;obtain ⟨rfl,rfl,k1,k2⟩:=q;refine ⟨rfl,λb p x hb=>?_,λ_=>⟨by rw [Bj aC];exact c0,by rw [Bj aC];exact c2⟩,rs,λj hj hDj=>?_,λa b ha hb hDa hDb hab=>?_,h3⟩
   ·rw [k2 b λe=>by subst e;rw [p1] at hb;cases hb];exact l1' b p x hb
   ·rw [Bj aA] at hDj;obtain ⟨u1,u2,u3⟩:=h1 j hj hDj;refine ⟨u1,?_,u3⟩;by_cases ej:j=2
    ·subst ej;rw [if_pos ⟨rfl,if_pos rfl⟩];exact k1
    ·rw [if_neg (λe=>ej e.1),k2 _ (h2 j 2 hj aC hDj c2 ej)];rw [if_neg (λe=>ej e.1)] at u2;exact u2
   ·rw [Bj aA] at hDa hDb;exact h2 a b ha hb hDa hDb hab
  ·have hi':i<4:=aA
   refine (lay i o hi' ho σ' h').mono λσ'' ds'' h'' q=>?_;obtain ⟨rfl,r,rfl,hr,l2',hr2⟩:=q;have h4e:G9 D i 4=D 4:=Bj (λe=>hi4 e.symm);have hne:∀j,j<4->D j=true->rs j≠r:=λj hj hDj e=>by
    have:=(h1 j hj hDj).2.1
    rw [e,hr] at this;cases this
   refine ⟨rfl,l1'.trans l2',λe=>?_,λj=>if j=i then r else rs j,λj hj hDj=>?_,λa b ha hb hDa hDb hab=>?_,λt ht=>?_⟩
   ·rw [h4e] at e;obtain ⟨c0,c2⟩:=hD4 e;exact ⟨by rw [Bj (λq=>by subst q;rw [hD] at c0;cases c0)];exact c0,by rw [Bj (λq=>by subst q;rw [hD] at c2;cases c2)];exact c2⟩
   ·by_cases e:j=i
    ·subst e;dsimp only;rw [if_pos rfl];refine ⟨l1'.nothing hr,?_,λo' d ho' hd=>?_⟩
     ·rw [if_neg (λe=>by have e2:=e.2;rw [h4e] at e2;have e3:=(hD4 e2).2;rw [<-e.1,hD] at e3;cases e3)];exact hr2
     ·obtain rfl:o'=o:=Option.some.inj (ho'.symm.trans ho);rw [hd];exact upd_same _ _ _
    ·dsimp only;rw [if_neg e];rw [Bj e] at hDj;obtain ⟨q1,q2,q3⟩:=h1 j hj hDj;refine ⟨q1,?_,λo' d ho' hd=>by rw [Cw λd' hd'=>D1 nd hi (aA:j<5) (λq=>e q.symm) ho ho' hd' hd];exact q3 o' d ho' hd⟩;rw [h4e];by_cases hc:j=2/\D 4=true
     ·rw [if_pos hc] at q2 ⊢;rw [if_neg (λq=>by have c0:=(hD4 hc.2).1;rw [q,hD] at c0;cases c0)];exact l2'.keep q2 rfl
     ·rw [if_neg hc] at q2 ⊢;exact l2'.keep q2 rfl
   ·show (if a=i then r else rs a)≠(if b=i then r else rs b);by_cases ea:a=i
    ·by_cases eb:b=i
     ·exact absurd (ea.trans eb.symm) hab
     ·rw [if_pos ea,if_neg eb];rw [Bj eb] at hDb;exact (hne b hb hDb).symm
    ·rw [Bj ea] at hDa;by_cases eb:b=i
     ·rw [if_neg ea,if_pos eb];exact hne a ha hDa
     ·rw [if_neg ea,if_neg eb];rw [Bj eb] at hDb;exact h2 a b ha hb hDa hDb hab
   ·rw [Cw (HN hi ho ht)];exact h3 t ht
 ·rintro D σ' h' ⟨l1',hD4,rs,h1,h2,h3⟩ hall;have A:∀i,i<5->D i=true:=hall;have f0:=h1 0 aC (A 0 aC);have f1:=h1 1 aC (A 1 aC);have f2:=h1 2 aC (A 2 aC);have f3:=h1 3 aC (A 3 aC);rw [if_neg (λe=>by have:=e.1;omega)] at f0;rw [if_neg (λe=>by have:=e.1;omega)] at f1;rw [if_pos ⟨rfl,A 4 aC⟩] at f2;rw [if_neg (λe=>by have:=e.1;omega)] at f3;have ne:=λi j (hi:i<4) (hj:j<4)=>h2 i j hi hj (A i aA) (A j aA);exact fin (rs 0) (rs 1) (rs 2) (rs 3) σ' h' l1' ⟨f0.1,f0.2.1,f0.2.2 a0 d0 rfl e0⟩ ⟨f1.1,f1.2.1,f1.2.2 a1 d1 rfl e1⟩ ⟨f2.1,f2.2.1,f2.2.2 a2 d2 rfl e2⟩ ⟨f3.1,f3.2.1,f3.2.2 a3 d3 rfl e3⟩
   ⟨ne 0 1 aC aC aC,ne 0 2 aC aC aC,ne 0 3 aC aC aC,ne 1 2 aC aC aC,ne 1 3 aC aC aC,ne 2 3 aC aC aC⟩ h3
section
variable {h h' h0:GH} {r:Nat}
theorem GH.cut_ne{b:Nat}(e:b≠r):h.cut r b=h b:=if_neg e
theorem GH.Le.cut(l:h0.Le h)(n:h0 r=none):h0.Le (h.cut r):=λb p o hb=>by
 rw [GH.cut_ne λe=>by subst e;rw [n] at hb;cases hb];exact l b p o hb
theorem AT.cut{V:Type}{v:Value}{t:TypeId}{n:Nat}{enc:V->Array Value}{xs:List V}(x:AT h0 h v t n enc xs)(f:BI v r):AT h0 (h.cut r) v t n enc xs:=
 x.keep λb o hb ho=>by rw [GH.cut_ne λe=>by subst e;exact f hb];exact ho
theorem AT.del'{V:Type}{v:Value}{t:TypeId}{n:Nat}{enc:V->Array Value}{xs:List V}(x:AT h0 h v t n enc xs)(f:BI v r):AT h0 (h.del r) v t n enc xs:=
 x.keep λb o hb ho=>by rw [GH.del_ne λe=>by subst e;exact f hb];exact ho
theorem Dr.keep3{X:Nat->Prop}{t0 T t:TypeId}{n l:Nat}{w v:Value}{p q:Bool}{c:Array Value}{f:Nat×Nat}{lo:Loop}{ys:List Sl}{hB:GH}{ys':List Int}(x:Dr h t0 v ys')(k:Bf X h h')(hX:∀b,X b->(b=r\/CX w=some b)\/b=l)(hr:h r=some (p,.cells c T f))(ow:AT hB h w t n Jd ys)(hl:h l=some (q,.loop lo))(n1:T≠t0)(n2:t≠t0):Dr h' t0 v ys':=
 x.keepX k λb hb q2=>by
  obtain ⟨p2,c2,f2,e⟩:=x.2 b hb;rcases hX b q2 with (rfl | q3) | rfl
  ·rw [hr] at e;cases e;exact n1 rfl
  ·rcases ow with ⟨rfl,_⟩ | ⟨b1,cap,c1,rfl,_,h2,_⟩
   ·cases q3
   ·simp only [CX,Option.some.injEq] at q3;subst q3;rw [h2] at e;cases e;exact n2 rfl
  ·rw [hl] at e;cases e
theorem Bf.mono{X Y:Nat->Prop}(k:Bf X h h')(s:∀b,X b->Y b):Bf Y h h':=λb p o hb hn=>k b p o hb λx=>hn (s b x)
end
theorem ZZ{n:Nat}{fl:List Sl}(h:A4 fl=C5 (CO n))(hn:n<=4)(i:Nat):TU n (fl.getD i Sl.z).2:=by
 by_cases hi:i<fl.length
 ·refine Jw (λx hx=>JD hx) (by rw [C4];exact hn) (r:=(fl.getD i Sl.z).2) ?_;rw [<-h,<-Fg hi];exact BQ (by rw [CC];exact hi)
 ·rw [CI aA];exact ⟨λk hk=>absurd hk (Nat.not_lt_zero _),Nat.zero_le _⟩
theorem Dr.storeD{h h':GH}{t:TypeId}{v:Value}{xs:List Int}{r:Nat}{p:Bool}{q:Option (List Deferred)}(x:Dr h t v xs)(hr:h r=some (p,.deferred q))(ho:∀b,b≠r->h' b=h b):Dr h' t v xs:=
 x.same λb hb=>ho b λe=>by
  obtain ⟨p2,c2,f2,z⟩:=x.2 b hb;rw [e,hr] at z;cases z
theorem B4.storeD{h h':GH}{t:TypeId}{l:List Sl}{r:Nat}{p:Bool}{q:Option (List Deferred)}(x:B4 h t l)(hr:h r=some (p,.deferred q))(ho:∀b,b≠r->h' b=h b):B4 h' t l:=λk=>
 (x k).same λb hb=>ho b λe=>by
  obtain ⟨p2,c2,f2,z⟩:=(x k).2 b hb;rw [e,hr] at z;cases z
theorem selS_all{fl:List Sl}{G:List Int->Bool}{all:List (List Int)}{k:Nat}(h:A4 fl=all)(h1:k<=fl.length)(h2:fl.length<=k):A4 (JG fl (λi=>G (fl.getD i Sl.z).2) k)=all.filter G:=by
 rw [PZ k h1,List.take_of_length_le (by rw [CC];exact h2),h]
theorem B4.sel{h:GH}{t:TypeId}{fl:List Sl}{ok:Nat->Bool}{k:Nat}(a:B4 h t fl):B4 h t (JG fl ok k):=by
 induction k with
 | zero=>exact B4.nil h t
 | succ k ih=>
  unfold JG;split
  ·exact B4.app ih (B4.one (a k))
  ·exact ih
end Go.Ns
namespace Go.Ns
theorem TW{P:Program}{O:Nat->Value}{h:GH}{fn:Func}{R:Value->GH->Prop}{a u s:Tmp}{t:TypeId}{b off:Nat}{v v' v2:Value}(hr:fn.results=#[.tmp u,.cell a t,.tmp s])(hv:O u=v)(ha:O a=.pointer (some ⟨b,off,none⟩))(hv':Rd P h t b off v')(hv2:O s=v2)(x:R (.tuple #[v,v',v2]) h):GR P fn O R [] h:=by
 unfold GR;rw [hr];subst hv;subst hv2;exact ⟨b,off,v',ha,hv',x⟩
section
variable (np:Nat) (ws:List AE) (js:List AO) (pq:List AG) (bag kinds:Int)
def Ge:List (List Int):=(C5 (CO js.length)).filter (λq=>By np ws js pq q bag kinds)
end
def JI(g:List (List Int))(x:List Int):List (List Int):=if 0<g.length/\(g.getD 0 []).length<x.length then [] else g
def JJ(g:List (List Int))(x:List Int):List (List Int):=if g.length=0\/x.length=(g.getD 0 []).length then g++[x] else g
def Ey(g:List (List Int))(x:List Int):List (List Int):=JJ (JI g x) x
def JK(l:List (List Int)):Nat->List (List Int)
 | 0=>[]
 | k+1=>Ey (JK l k) (l.getD k [])
def G3(g:List Sl)(x:Sl):List Sl:=if 0<g.length/\(g.getD 0 Sl.z).2.length<x.2.length then [] else g
def Hy(g:List Sl)(x:Sl):List Sl:=if g.length=0\/x.2.length=(g.getD 0 Sl.z).2.length then g++[x] else g
def DA(g:List Sl)(x:Sl):List Sl:=Hy (G3 g x) x
def BH(l:List Sl):Nat->List Sl
 | 0=>[]
 | k+1=>DA (BH l k) (l.getD k Sl.z)
section
variable {l g:List Sl} {x:Sl} {k:Nat}
theorem Pb(h0:0<g.length)(h1:(g.getD 0 Sl.z).2.length<x.2.length):DA g x=[x]:=by
 unfold DA G3;rw [if_pos ⟨h0,h1⟩];rfl
theorem Pc(h0:0<g.length)(h1:x.2.length=(g.getD 0 Sl.z).2.length):DA g x=g++[x]:=by
 unfold DA G3;rw [if_neg (λe=>by have:=e.2;omega)];unfold Hy;rw [if_pos (.inr h1)]
theorem Pd(h0:0<g.length)(h1:x.2.length<(g.getD 0 Sl.z).2.length):DA g x=g:=by
 unfold DA G3;rw [if_neg (λe=>by have:=e.2;omega)];unfold Hy;rw [if_neg];rintro (e | e) <;> omega
theorem Pe(h0:g.length=0):DA g x=g++[x]:=by
 unfold DA G3;rw [if_neg (λe=>by have:=e.1;omega)];unfold Hy;rw [if_pos (.inl h0)]
theorem goodS_a(h0:0<(BH l k).length)(h1:((BH l k).getD 0 Sl.z).2.length<(l.getD k Sl.z).2.length):BH l (k+1)=[l.getD k Sl.z]:=Pb h0 h1
theorem goodS_b(h0:0<(BH l k).length)(h1:(l.getD k Sl.z).2.length=((BH l k).getD 0 Sl.z).2.length):BH l (k+1)=BH l k++[l.getD k Sl.z]:=Pc h0 h1
theorem goodS_c(h0:0<(BH l k).length)(h1:¬((BH l k).getD 0 Sl.z).2.length<(l.getD k Sl.z).2.length)(h2:¬(l.getD k Sl.z).2.length=((BH l k).getD 0 Sl.z).2.length):BH l (k+1)=BH l k:=Pd h0 aA
theorem goodS_d(h0:(BH l k).length=0):BH l (k+1)=BH l k++[l.getD k Sl.z]:=Pe h0
theorem goodS_t(h1:¬(0<(BH l k).length/\((BH l k).getD 0 Sl.z).2.length<(l.getD k Sl.z).2.length))(h2:(BH l k).length=0\/(l.getD k Sl.z).2.length=((BH l k).getD 0 Sl.z).2.length):BH l (k+1)=BH l k++[l.getD k Sl.z]:=by
 by_cases h0:(BH l k).length=0
 ·exact goodS_d h0
 ·exact goodS_b aA aA
theorem goodS_f(h1:¬(0<(BH l k).length/\((BH l k).getD 0 Sl.z).2.length<(l.getD k Sl.z).2.length))(h2:¬((BH l k).length=0\/(l.getD k Sl.z).2.length=((BH l k).getD 0 Sl.z).2.length)):BH l (k+1)=BH l k:=goodS_c aA aA aA
theorem Hz(g:List Sl)(x:Sl):DA g x=[x]\/DA g x=g++[x]\/(DA g x=g/\0<g.length):=by
 by_cases h0:g.length=0
 ·exact .inr (.inl (Pe h0))
 ·by_cases h1:(g.getD 0 Sl.z).2.length<x.2.length
  ·exact .inl (Pb aA h1)
  ·by_cases h2:x.2.length=(g.getD 0 Sl.z).2.length
   ·exact .inr (.inl (Pc aA h2))
   ·exact .inr (.inr ⟨Pd aA aA,aA⟩)
theorem Za:∀k,0<k->0<(BH l k).length
 | k+1,_=>by
  show 0<(DA (BH l k) (l.getD k Sl.z)).length;rcases Hz (BH l k) (l.getD k Sl.z) with e | e | ⟨e,h⟩ <;> rw [e]
  ·exact Nat.zero_lt_one
  ·rw [List.length_append];exact Nat.succ_pos _
  ·exact h
theorem Rw:∀k,(BH l k).length<=k
 | 0=>Nat.le_refl _
 | k+1=>by
  have ih:=Rw k;show (DA (BH l k) (l.getD k Sl.z)).length<=_;rcases Hz (BH l k) (l.getD k Sl.z) with e | e | ⟨e,_⟩ <;> rw [e]
  ·simp
  ·rw [List.length_append,List.length_singleton];omega
  ·omega
theorem Mg:∀k,k<=l.length->∀y ∈ BH l k,y ∈ l
 | 0,_,y,hy=>by cases hy
 | k+1,hk,y,hy=>by
  have ih:=Mg k aA;have hx:l.getD k Sl.z ∈ l:=BQ aA;change y ∈ DA (BH l k) (l.getD k Sl.z) at hy;rcases Hz (BH l k) (l.getD k Sl.z) with e | e | ⟨e,_⟩ <;> rw [e] at hy
  ·rw [List.mem_singleton.1 hy];exact hx
  ·rcases List.mem_append.1 hy with hy | hy
   ·exact ih y hy
   ·rw [List.mem_singleton.1 hy];exact hx
  ·exact ih y hy
theorem Nm:∀k,k<=l.length->A4 (BH l k)=JK (A4 l) k
 | 0,_=>rfl
 | k+1,hk=>by
  have ih:=Nm k aA;have hg:∀g:List Sl,(g.getD 0 Sl.z).2=(A4 g).getD 0 []:=λg=>by cases g <;> rfl
  show A4 (DA (BH l k) (l.getD k Sl.z))=Ey (JK (A4 l) k) ((A4 l).getD k []);rw [<-ih,Fg aA];have hc:A4 (G3 (BH l k) (l.getD k Sl.z))=JI (A4 (BH l k)) (l.getD k Sl.z).2:=by
   unfold G3 JI;rw [hg,CC];split <;> rfl
  have ha:∀g:List Sl,A4 (Hy g (l.getD k Sl.z))=JJ (A4 g) (l.getD k Sl.z).2:=λg=>by
   unfold Hy JJ;rw [hg,CC];split
   ·rw [Mc];rfl
   ·rfl
  show A4 (Hy (G3 (BH l k) (l.getD k Sl.z)) (l.getD k Sl.z))=JJ (JI (A4 (BH l k)) _) _;rw [ha,hc]
end
theorem B4.good{h:GH}{t:TypeId}{l:List Sl}{k:Nat}(a:B4 h t l)(hk:k<=l.length):B4 h t (BH l k):=.of λx hx=>a.at (Mg k hk x hx)
section
variable {np:Nat} {ws:List AE} {js:List AO} {pq:List AG} {bag kinds:Int} {fs:List Sl}
theorem YU(h:A4 fs=Ge np ws js pq bag kinds)(hn:js.length<=4):∀x ∈ fs,TU js.length x.2:=λx hx=>by
 have:x.2 ∈ A4 fs:=List.mem_map_of_mem hx
 rw [h] at this;exact Jw (λy hy=>JD hy) (by rw [C4];exact hn) (List.mem_filter.1 this).1
theorem Ur(h:A4 fs=Ge np ws js pq bag kinds)(hn:js.length<=4)(i:Nat):TU js.length (fs.getD i Sl.z).2:=by
 by_cases hi:i<fs.length
 ·exact YU h hn _ (BQ hi)
 ·rw [CI aA];exact ⟨λk hk=>absurd hk (Nat.not_lt_zero _),Nat.zero_le _⟩
theorem safe_nil(hb:0<=bag):By np ws js pq [] bag kinds=true:=by
 unfold By;have e:(Cs kinds js []).sum=0:=by
  show (List.replicate kinds.toNat (0:Int)).sum=0;generalize kinds.toNat=n
  induction n with
  | zero=>rfl
  | succ n ih=>rw [List.replicate_succ,List.sum_cons,ih];rfl
 rw [e,decide_eq_true hb];rfl
theorem Pf(hb:0<=bag):0<(Ge np ws js pq bag kinds).length:=by
 refine List.length_pos_of_mem (a:=[]) (List.mem_filter.2 ⟨?_,safe_nil hb⟩);unfold C5;rw [FR];exact List.mem_cons_self
theorem Pg(hn:js.length<=4):(Ge np ws js pq bag kinds).length<=625:=
 Nat.le_trans (List.length_filter_le _ _) (HX (by rw [C4];exact hn))
theorem Rx{G:List Int->Int}:∀(l:List (List Int)),0<l.length->∀k,k<=l.length-1->(DE G l k).1 ∈ l
 | l,h,0,_=>BQ h
 | l,h,k+1,hk=>by
  unfold DE;split
  ·exact List.mem_of_mem_drop (BQ (by rw [List.length_drop];omega))
  ·exact Rx l h k aA
theorem Ls{n:Nat}{G:List Int->Int}{l:List Sl}(h:∀x ∈ l,TU n x.2)(hl:0<l.length):TU n (Cu G (A4 l)):=by
 have:=Rx (G:=G) (A4 l) (by rw [CC];exact hl) ((A4 l).length-1) (Nat.le_refl _)
 obtain ⟨x,hx,e⟩:=List.mem_map.1 this;unfold Cu;rw [<-e];exact h x hx
end
section
variable (bag kinds:Int) (ps:List ByteArray) (ws:List AE) (js:List AO) (ns:List AJ)
def Wb:List Int:=Cu (λl=>BG (λx=>AV ps.length ws js x l) (AC ws js ns)) (JK (Ge ps.length ws js (AC ws js ns) bag kinds) (Ge ps.length ws js (AC ws js ns) bag kinds).length)
def Av:List Int:=if¬AK bag kinds ps ws js ns 0=0 then [] else Wb bag kinds ps ws js ns
end
section
variable {bag kinds:Int} {ps:List ByteArray} {ws:List AE} {js:List AO} {ns:List AJ} {fs:List Sl} {k:Nat}
theorem best_end(h:A4 fs=Ge ps.length ws js (AC ws js ns) bag kinds)(h1:k<=fs.length)(h2:fs.length<=k):Wb bag kinds ps ws js ns=Cu (λl=>BG (λx=>AV ps.length ws js x l) (AC ws js ns)) (A4 (BH fs k)):=by
 unfold Wb;rw [Nm k h1,h,<-h,CC,show fs.length=k by omega]
theorem Us(h0:¬¬AK bag kinds ps ws js ns 0=0)(h:A4 fs=Ge ps.length ws js (AC ws js ns) bag kinds)(h1:k<=fs.length)(h2:fs.length<=k):Av bag kinds ps ws js ns=Cu (λl=>BG (λx=>AV ps.length ws js x l) (AC ws js ns)) (A4 (BH fs k)):=(if_neg h0).trans (best_end h h1 h2)
end
def Ph(c:HH)(l:List Int):Nat->HH
 | 0=>c
 | i+1=>(Ph c l i).set (l.getD i 0).toNat true
def FS(ls:List (List Int)):Nat->HH
 | 0=>HH.none
 | k+1=>Ph (FS ls k) (ls.getD k []) (ls.getD k []).length
def Ds(c:HH):Nat->List Int
 | 0=>[]
 | q+1=>if c q=true then Ds c q else Ds c q++[(q:Int)]
theorem neverL_t{c:HH}{q:Nat}(h:c q=true):Ds c (q+1)=Ds c q:=if_pos h
theorem neverL_f{c:HH}{q:Nat}(h:c q=false):Ds c (q+1)=Ds c q++[(q:Int)]:=if_neg (by rw [h];simp)
theorem Pi(c:HH):∀q,(Ds c q).length<=q
 | 0=>Nat.le_refl _
 | q+1=>by
  have:=Pi c q
  unfold Ds;split
  ·omega
  ·rw [List.length_append,List.length_singleton];omega
section
variable (bag kinds:Int) (ps:List ByteArray) (ws:List AE) (js:List AO) (ns:List AJ)
def Be:List Int:=if¬AK bag kinds ps ws js ns 0=0 then [] else Ds (FS (Ge ps.length ws js (AC ws js ns) bag kinds) (Ge ps.length ws js (AC ws js ns) bag kinds).length) js.length
end
section
variable {bag kinds:Int} {ps:List ByteArray} {ws:List AE} {js:List AO} {ns:List AJ} {fs:List Sl} {k q:Nat}
theorem Zb{i:Nat}(hk:k<fs.length)(h1:i<=(fs.getD k Sl.z).2.length)(h2:(fs.getD k Sl.z).2.length<=i):FS (A4 fs) (k+1)=Ph (FS (A4 fs) k) (fs.getD k Sl.z).2 i:=by
 unfold FS;rw [Fg hk,show (fs.getD k Sl.z).2.length=i by omega];cases k <;> rfl
theorem Zc(h0:¬¬AK bag kinds ps ws js ns 0=0)(h:A4 fs=Ge ps.length ws js (AC ws js ns) bag kinds)(h1:k<=fs.length)(h2:fs.length<=k)(h3:q<=js.length)(h4:js.length<=q):Be bag kinds ps ws js ns=Ds (FS (A4 fs) k) q:=
 (if_neg h0).trans (by rw [<-h,CC,show fs.length=k by omega,show js.length=q by omega])
end
end Go.Ns
namespace Go.Ns
theorem Ut{nj:Nat}{l:List Int}(h:Ah nj l=0):l.Nodup:=by
 rw [List.nodup_iff_pairwise_ne];rw [List.pairwise_iff_getElem];intro i j hi hj hij e;have h1:=DQ h j (Nat.zero_le _) aA;unfold HU at h1;split at h1
 ·rename_i a;exact a h1
 ·split at h1
  ·cases h1
  ·rename_i a
   refine a (List.any_eq_true.2 ⟨l[i],List.mem_take_iff_getElem.2 ⟨i,aA,rfl⟩,?_⟩);rw [List.getD_eq_getElem?_getD,List.getElem?_eq_getElem hj];exact decide_eq_true e.symm
theorem Nn{jobs:List Int}(nd:jobs.Nodup):∀(rest done:List Int),jobs=done++rest->jobs ∈ BK jobs rest.length done
 | [],done,e=>by rw [e,List.append_nil];exact List.mem_singleton.2 rfl
 | k ::rest,done,e=>by
  have ih:=Nn nd rest (done++[k]) (by rw [e];simp);show jobs ∈ done ::jobs.flatMap _;refine List.mem_cons_of_mem _ (List.mem_flatMap.2 ⟨k,by rw [e];simp,?_⟩);have hn:HW done k=false:=by
   cases hh:HW done k with
   | false=>rfl
   | true=>
    exfalso;obtain ⟨x,hx,hk⟩:=List.any_eq_true.1 hh;have hk':k=x:=of_decide_eq_true hk;rw [e,List.nodup_append] at nd;exact nd.2.2 x hx k List.mem_cons_self hk'.symm
  rw [if_neg (by rw [hn];simp)];exact ih
def YV(jobs:List Int)(n:Nat):List (List Int):=(C5 jobs).filter λq=>decide (q.length=n)
theorem Zd{l:List Int}(nd:l.Nodup):0<(YV (Ee l) l.length).length:=by
 have hs:(Ee l).Nodup:=by rw [LX];exact (List.mergeSort_perm l _).nodup_iff.2 nd
 have:=Nn hs (Ee l) [] rfl
 exact List.length_pos_of_mem (List.mem_filter.2 ⟨this,decide_eq_true (Dz l)⟩)
section
variable (bag kinds:Int) (ps:List ByteArray) (ws:List AE) (js:List AO) (ns:List AJ) (l:List Int)
def swiftL:List Int:=Cu (λl=>BG (λx=>AV ps.length ws js x l) (AC ws js ns)) (YV (Ee l) l.length)
def IX:List Int:=if¬AK bag kinds ps ws js ns (Ah js.length l)=0 then [] else swiftL ps ws js ns l
end
section
variable {bag kinds:Int} {ps:List ByteArray} {ws:List AE} {js:List AO} {ns:List AJ} {l:List Int} {fl:List Sl} {nj:Nat}
theorem R0(h0:¬¬AK bag kinds ps ws js ns (Ah js.length l)=0)(h:A4 fl=YV (Ee l) l.length):IX bag kinds ps ws js ns l=Cu (λl=>BG (λx=>AV ps.length ws js x l) (AC ws js ns)) (A4 fl):=(if_neg h0).trans (by unfold swiftL;rw [h])
theorem full_ok(h:A4 fl=YV (Ee l) l.length)(hr:∀k,k<l.length->0<=l.getD k 0/\l.getD k 0<nj)(h4:l.length<=4):∀x ∈ fl,TU nj x.2:=λx hx=>by
 have:x.2 ∈ A4 fl:=List.mem_map_of_mem hx
 rw [h] at this;refine Jw (λy hy=>?_) (by rw [Dz];exact h4) (List.mem_filter.1 this).1;rw [LX,List.mem_mergeSort] at hy;obtain ⟨i,hi,e⟩:=List.mem_iff_getElem.1 hy
 have:=hr i hi
 rw [List.getD_eq_getElem?_getD,List.getElem?_eq_getElem hi,Option.getD_some,e] at this;exact this
end
end Go.Ns
namespace Go.Ns
def PV(h:GH)(t:TypeId)(f:Nat->Value)(L:Nat->List Int)(k:Nat):Prop:=∀i,i<k->Dr h t (f i) (L i)
section
variable {h h' h0:GH} {t t':TypeId} {f:Nat->Value} {L:Nat->List Int} {k r:Nat} {w v v':Value} {p:Bool} {c:Array Value} {g:Nat×Nat}
theorem PV.zero:PV h t f L 0:=λ_ hi=>absurd hi (Nat.not_lt_zero _)
theorem PV.le(x:PV h t f L k)(l:h.Le h'):PV h' t f L k:=λi hi=>(x i hi).le l
theorem PV.store(x:PV h t f L k)(hr:h r=some (p,.cells c t' g))(ne:t'≠t)(ho:∀b,b≠r->h' b=h b):PV h' t f L k:=λi hi=>(x i hi).store hr ne ho
theorem PV.next(x:PV h t f L k)(y:Dr h t w (L k)):PV h t (λi=>if i=k then w else f i) L (k+1):=λi hi=>by
 show Dr h t (if i=k then w else f i) (L i);by_cases e:i=k
 ·rw [if_pos e,e];exact y
 ·rw [if_neg e];exact x i aA
end
def AO.re(j:AO)(v:Value):AO:={ j with pv:=v }
def AJ.re(j:AJ)(v:Value):AJ:={ j with wv:=v }
def Hg(js:List AO)(f:Nat->Value)(k:Nat):List AO:=(List.range js.length).map λi=>if i<k then (js.getD i AO.z).re (f i) else js.getD i AO.z
def IY(ns:List AJ)(f:Nat->Value)(k:Nat):List AJ:=(List.range ns.length).map λi=>if i<k then (ns.getD i AJ.z).re (f i) else ns.getD i AJ.z
section
variable {V:Type} {z:V} {l:List V} {F:Nat->V->V} {k:Nat}
def reL(z:V)(l:List V)(F:Nat->V->V)(k:Nat):List V:=(List.range l.length).map λi=>if i<k then F i (l.getD i z) else l.getD i z
theorem KK:(reL z l F k).length=l.length:=by unfold reL;rw [List.length_map,List.length_range]
theorem IC{i:Nat}(hi:i<l.length):(reL z l F k).getD i z=if i<k then F i (l.getD i z) else l.getD i z:=by
 unfold reL;rw [List.getD_eq_getElem?_getD,List.getElem?_map,List.getElem?_range hi];rfl
theorem TX{i:Nat}(hi:i<(reL z l F k).length):(reL z l F k)[i]=if i<k then F i (l.getD i z) else l.getD i z:=by
 have e:=IC (z:=z) (F:=F) (k:=k) (show i<l.length by rw [<-KK (z:=z) (F:=F) (k:=k)];exact hi);rw [List.getD_eq_getElem?_getD,List.getElem?_eq_getElem hi] at e;exact e
theorem reL_0:reL z l F 0=l:=by
 refine List.ext_getElem KK λi h1 h2=>?_;rw [TX,if_neg (Nat.not_lt_zero _),List.getD_eq_getElem?_getD,List.getElem?_eq_getElem h2];rfl
theorem YW{G:Nat->V->V}(hk:k<l.length)(hG:∀i,i<k->∀x,G i x=F i x):(reL z l F k).set k (G k ((reL z l F k).getD k z))=reL z l G (k+1):=by
 rw [IC hk,if_neg (Nat.lt_irrefl _)];refine List.ext_getElem (by rw [List.length_set,KK,KK]) λi h1 h2=>?_;rw [List.getElem_set,TX];by_cases e:k=i
 ·subst e;rw [if_pos rfl,TX,if_pos aA]
 ·rw [if_neg e,TX];by_cases e2:i<k
  ·rw [if_pos e2,if_pos aA,hG i e2]
  ·rw [if_neg e2,if_neg aA]
end
section
variable {h:GH} {t:TypeId} {f:Nat->Value} {js:List AO} {ns:List AJ} {k:Nat} {w:Value}
theorem Pj:Hg js f k=reL AO.z js (λi j=>j.re (f i)) k:=rfl
theorem Pm:IY ns f k=reL AJ.z ns (λi j=>j.re (f i)) k:=rfl
theorem OM(js:List AO)(f:Nat->Value)(k:Nat):(Hg js f k).length=js.length:=by rw [Pj];exact KK
theorem ON(ns:List AJ)(f:Nat->Value)(k:Nat):(IY ns f k).length=ns.length:=by rw [Pm];exact KK
theorem reJ_0:Hg js f 0=js:=by rw [Pj];exact reL_0
theorem reN_0:IY ns f 0=ns:=by rw [Pm];exact reL_0
theorem reJ_put(hk:k<js.length):(Hg js f k).set k (((Hg js f k).getD k AO.z).re w)=Hg js (λi=>if i=k then w else f i) (k+1):=by
 have:=YW (z:=AO.z) (l:=js) (F:=λi j=>j.re (f i)) (G:=λi j=>j.re (if i=k then w else f i)) hk (λi hi x=>by rw [if_neg aA])
 rw [if_pos rfl] at this;exact this
theorem reN_put(hk:k<ns.length):(IY ns f k).set k (((IY ns f k).getD k AJ.z).re w)=IY ns (λi=>if i=k then w else f i) (k+1):=by
 have:=YW (z:=AJ.z) (l:=ns) (F:=λi j=>j.re (f i)) (G:=λi j=>j.re (if i=k then w else f i)) hk (λi hi x=>by rw [if_neg aA])
 rw [if_pos rfl] at this;exact this
theorem R1(js:List AO)(f:Nat->Value)(k i:Nat):((Hg js f k).getD i AO.z).parts=(js.getD i AO.z).parts:=by
 by_cases hi:i<js.length
 ·rw [Pj,IC hi];split <;> rfl
 ·rw [CI (by rw [OM];omega),CI aA]
theorem Uu(ns:List AJ)(f:Nat->Value)(k i:Nat):((IY ns f k).getD i AJ.z).ways=(ns.getD i AJ.z).ways:=by
 by_cases hi:i<ns.length
 ·rw [Pm,IC hi];split <;> rfl
 ·rw [CI (by rw [ON];omega),CI aA]
theorem Ar.re(x:Ar h js)(y:PV h t f (λi=>(js.getD i AO.z).parts) k):Ar h (Hg js f k):=λi=>by
 by_cases hi:i<js.length
 ·rw [Pj,IC hi];by_cases e:i<k
  ·rw [if_pos e];exact (y i e).1
  ·rw [if_neg e];exact x i
 ·rw [CI (by rw [OM];omega)];exact AD.nil _ _ _
theorem AY.re(x:AY h ns)(y:PV h t f (λi=>(ns.getD i AJ.z).ways) k):AY h (IY ns f k):=λi=>by
 by_cases hi:i<ns.length
 ·rw [Pm,IC hi];by_cases e:i<k
  ·rw [if_pos e];exact (y i e).1
  ·rw [if_neg e];exact x i
 ·rw [CI (by rw [ON];omega)];exact AD.nil _ _ _
def C6(h:GH)(t:TypeId)(js:List AO):Prop:=∀k,Dr h t (js.getD k AO.z).pv (js.getD k AO.z).parts
def EE(h:GH)(t:TypeId)(ns:List AJ):Prop:=∀k,Dr h t (ns.getD k AJ.z).wv (ns.getD k AJ.z).ways
theorem C6.jobs(x:C6 h t js):Ar h js:=λk=>(x k).1
theorem EE.notes(x:EE h t ns):AY h ns:=λk=>(x k).1
theorem C6.le{h':GH}(x:C6 h t js)(l:h.Le h'):C6 h' t js:=λk=>(x k).le l
theorem EE.le{h':GH}(x:EE h t ns)(l:h.Le h'):EE h' t ns:=λk=>(x k).le l
theorem C6.store{h':GH}{t':TypeId}{r:Nat}{p:Bool}{c:Array Value}{g:Nat×Nat}(x:C6 h t js)(hr:h r=some (p,.cells c t' g))(ne:t'≠t)(ho:∀b,b≠r->h' b=h b):C6 h' t js:=λk=>(x k).store hr ne ho
theorem EE.store{h':GH}{t':TypeId}{r:Nat}{p:Bool}{c:Array Value}{g:Nat×Nat}(x:EE h t ns)(hr:h r=some (p,.cells c t' g))(ne:t'≠t)(ho:∀b,b≠r->h' b=h b):EE h' t ns:=λk=>(x k).store hr ne ho
theorem C6.of(y:PV h t f (λi=>(js.getD i AO.z).parts) k)(hk:js.length<=k):C6 h t (Hg js f k):=λi=>by
 by_cases hi:i<js.length
 ·rw [Pj,IC hi,if_pos aA];exact y i aA
 ·rw [CI (by rw [OM];omega)];exact Dr.nil _ _
theorem EE.of(y:PV h t f (λi=>(ns.getD i AJ.z).ways) k)(hk:ns.length<=k):EE h t (IY ns f k):=λi=>by
 by_cases hi:i<ns.length
 ·rw [Pm,IC hi,if_pos aA];exact y i aA
 ·rw [CI (by rw [ON];omega)];exact Dr.nil _ _
theorem Ar.fine1(x:Ar h js)(k:Nat):(BC (js.getD k AO.z)).toList.all (·.oneCell')=true:=by
 show (true && (true && (true && (true && (((js.getD k AO.z).pv.oneCell') && true)))))=true;rw [(AD.one (x k)).2];rfl
theorem Ar.fine(x:Ar h js):∀y ∈ js,(BC y).toList.all (·.oneCell')=true:=λy hy=>by
 obtain ⟨i,hi,e⟩:=List.mem_iff_getElem.1 hy
 have:=x.fine1 i
 rw [List.getD_eq_getElem?_getD,List.getElem?_eq_getElem hi] at this;rw [<-e];exact this
theorem AY.snoc{x:AJ}(a:AY h ns)(b:AD h x.wv 1 eI x.ways):AY h (ns++[x]):=λk=>by
 rw [PT];split
 ·exact a k
 ·cases hk:k-ns.length with
  | zero=>exact b
  | succ n=>rw [CI aD];exact AD.nil _ _ _
end
theorem BT.copy{bag kinds:Int}{ps:List ByteArray}{ws:List AE}{js:List AO}{ns:List AJ}(b:BT bag kinds ps ws js ns):(∀i,(js.getD i AO.z).parts.length<=1000)/\∀i,(ns.getD i AJ.z).ways.length<=1000:=by
 refine ⟨λi=>?_,λi=>Nat.le_trans (PJ b.note i).1 aC⟩;by_cases hi:i<js.length
 ·have:=(PE (b.job i hi)).len
  have:=b.hkin
  omega
 ·rw [CI aA];exact Nat.zero_le _
end Go.Ns
namespace Go.Ns
section
variable {P:Program} {E:GQ P} {O:Nat->Value} {ds:List Deferred} {h:GH} {T:(Nat->Value)->List Deferred->GH->Prop} {dst:Option Nat} {ty:TypeId} {pos:String} {af:Array Edge} {gd:Option (Nat×Bool)}
theorem Wc{s:ByteArray}{i:Nat}(h:i<s.size):((s[i]'h).toNat:Int)=(bytesOf s).getD i 0:=by
 have h2:i<(bytesOf s).length:=by rw [C3];exact h
 rw [Dm 0 h2];exact (List.getElem_map (l:=s.data.toList) (f:=λb=>(b.toNat:Int)) (h:=h2)).symm
theorem Pn{t:TypeId}{x ix:Operand}{s:ByteArray}{kd:IntKind}{i:Int}(ht:OY P t=true)(hx:AQ O x=.string s)(hi:AQ O ix=.int kd i)(h0:0<=i)(h1:i<s.size)(k:T (putS O dst (.int .u8 ((bytesOf s).getD i.toNat 0))) ds h) :
  BX E ⟨dst,.index t x ix,ty,pos,af,gd⟩ O ds h T:=RN ht hx hi h0 h1 (by rw [Wc];exact k)
end
theorem Uv{s:ByteArray}(h:¬(1<=(s.size:Int)/\(s.size:Int)<=10)):Eo s=false:=by unfold Eo;rw [decide_eq_false h,Bool.and_false]
theorem Uw{a b:List UInt8}{v:Bool}(h:(a==b)=v):(b==a)=v:=by rw [<-h];exact BEq.comm
def IZ(l:List Int)(k:Nat)(p q:Int):List Int:=if p=l.getD k 0/\¬q ∈ l then l++[q] else l
def DB(l:List Int)(k:Nat)(x:AE):List Int:=IZ (IZ l k x.a x.b) k x.b x.a
def Ai(ws:List AE)(l:List Int)(k:Nat):Nat->List Int
 | 0=>l
 | j+1=>DB (Ai ws l k j) k (ws.getD j AE.z)
def Ax(ws:List AE):Nat->List Int
 | 0=>[0]
 | k+1=>if k<(Ax ws k).length then Ai ws (Ax ws k) k ws.length else Ax ws k
def HC(ws:List AE):List Int:=Ax ws 4
def H0(np:Nat)(l:List Int):Prop:=l.Nodup/\(∀x ∈ l,0<=x/\x<np)/\0<l.length
def Po(np:Nat)(ws:List AE):Prop:=∀k,k<ws.length->(0<=(ws.getD k AE.z).a/\(ws.getD k AE.z).a<np)/\0<=(ws.getD k AE.z).b/\(ws.getD k AE.z).b<np
section
variable {np:Nat} {l:List Int} {ws:List AE} {k j:Nat} {x:Int} {w:AE}
theorem H0.len(h:H0 np l):l.length<=np:=by
 refine WO np l.length (λk=>(l.getD k 0).toNat) (λi hi=>?_) λi j hij hj=>?_
 ·have:=h.2.1 _ (BQ (d:=(0:Int)) hi)
  show (l.getD i 0).toNat<np;omega
 ·have h1:=h.2.1 _ (BQ (d:=(0:Int)) hj);have h2:=h.2.1 _ (BQ (d:=(0:Int)) (show i<l.length by omega));show (l.getD i 0).toNat≠(l.getD j 0).toNat;intro e;have e2:l.getD i 0=l.getD j 0:=aA
  rw [List.getD_eq_getElem?_getD,List.getD_eq_getElem?_getD,List.getElem?_eq_getElem aA,List.getElem?_eq_getElem hj,Option.getD_some,Option.getD_some] at e2
  have:=(List.pairwise_iff_getElem.1 (List.nodup_iff_pairwise_ne.1 h.1)) i j aA hj hij
  exact this e2
theorem H0.snoc(h:H0 np l)(hx:0<=x/\x<np)(n:¬x ∈ l):H0 np (l++[x]):=
 ⟨List.nodup_append.2 ⟨h.1,aD,λa ha b hb e=>by rw [List.mem_singleton.1 hb] at e;exact n (e▸ha)⟩,λy hy=>by
  rcases List.mem_append.1 hy with hy | hy
  ·exact h.2.1 y hy
  ·rw [List.mem_singleton.1 hy];exact hx,aD⟩
theorem Lt{p q:Int}(h1:p=l.getD k 0)(h2:¬q ∈ l):IZ l k p q=l++[q]:=if_pos ⟨h1,h2⟩
theorem Lu{p q:Int}(h:¬(p=l.getD k 0/\¬q ∈ l)):IZ l k p q=l:=if_neg h
theorem rs_tt(h1:w.a=l.getD k 0/\¬w.b ∈ l)(h2:w.b=(l++[w.b]).getD k 0/\¬w.a ∈ l++[w.b]):DB l k w=l++[w.b]++[w.a]:=by unfold DB;rw [Lt h1.1 h1.2,Lt h2.1 h2.2]
theorem rs_tf(h1:w.a=l.getD k 0/\¬w.b ∈ l)(h2:¬(w.b=(l++[w.b]).getD k 0/\¬w.a ∈ l++[w.b])):DB l k w=l++[w.b]:=by unfold DB;rw [Lt h1.1 h1.2,Lu h2]
theorem rs_ft(h1:¬(w.a=l.getD k 0/\¬w.b ∈ l))(h2:w.b=l.getD k 0/\¬w.a ∈ l):DB l k w=l++[w.a]:=by unfold DB;rw [Lu h1,Lt h2.1 h2.2]
theorem rs_ff(h1:¬(w.a=l.getD k 0/\¬w.b ∈ l))(h2:¬(w.b=l.getD k 0/\¬w.a ∈ l)):DB l k w=l:=by unfold DB;rw [Lu h1,Lu h2]
theorem R2{p q:Int}(h:H0 np l)(hq:0<=q/\q<np):H0 np (IZ l k p q):=by
 unfold IZ;split
 ·rename_i c;exact h.snoc hq c.2
 ·exact h
theorem Kz(l:List Int)(k:Nat)(p q:Int):l<+:IZ l k p q:=by
 unfold IZ;split
 ·exact List.prefix_append _ _
 ·exact List.prefix_refl _
theorem TY(h:H0 np l)(ha:0<=w.a/\w.a<np)(hb:0<=w.b/\w.b<np):H0 np (DB l k w):=R2 (R2 h hb) ha
theorem Q4(l:List Int)(k:Nat)(w:AE):l<+:DB l k w:=(Kz _ _ _ _).trans (Kz _ _ _ _)
theorem JL(h:H0 np l)(hw:Po np ws):∀j,j<=ws.length->H0 np (Ai ws l k j)
 | 0,_=>h
 | j+1,hj=>TY (JL h hw j aA) (hw j aA).1 (hw j aA).2
theorem Ia:∀j,l<+:Ai ws l k j
 | 0=>List.prefix_refl _
 | j+1=>(Ia j).trans (Q4 _ _ _)
theorem KL(hn:0<np)(hw:Po np ws):∀k,H0 np (Ax ws k)
 | 0=>⟨by simp [Ax],λx hx=>by rw [List.mem_singleton.1 hx];omega,Nat.zero_lt_one⟩
 | k+1=>by
  unfold Ax;split
  ·exact JL (KL hn hw k) hw _ (Nat.le_refl _)
  ·exact KL hn hw k
theorem Np(hk:k<(Ax ws k).length):Ax ws (k+1)=Ai ws (Ax ws k) k ws.length:=if_pos hk
theorem Nq(hk:(Ax ws k).length<=k):∀m,k<=m->Ax ws m=Ax ws k
 | 0,h=>by rw [show k=0 by omega]
 | m+1,h=>by
  by_cases e:m+1=k
  ·rw [e]
  ·have ih:=Nq hk m aA
   have:Ax ws (m+1)=Ax ws m:=by
    conv=>lhs;unfold Ax
    rw [if_neg (by rw [ih];omega)]
   rw [this,ih]
theorem Ze(hk:(Ax ws k).length<=k)(hk4:k<=4):HC ws=Ax ws k:=Nq hk 4 hk4
end
def FT(np:Nat)(ws:List AE):Int:=if (5:Int)<ws.length then 2 else if¬Cy (DD np ws) 0 ws.length=0 then Cy (DD np ws) 0 ws.length else if (HC ws).length<np then 8 else 0
def Dt(bag kinds:Int)(ps:List ByteArray)(ws:List AE)(js:List AO)(ns:List AJ):Int:=
 if¬Gn bag kinds=0 then Gn bag kinds else if¬BS ps=0 then BS ps else if¬FT ps.length ws=0 then FT ps.length ws else if¬CA ps.length kinds js=0 then CA ps.length kinds js else Ch ws.length ns
section
variable {V:Type} {p:V->Bool} {l:List V} {d:V} {k j:Nat}
theorem Mh(hk:k<l.length)(e:p (l.getD k d)=true):l.any p=true:=List.any_eq_true.2 ⟨_,BQ hk,e⟩
theorem KM(h:(l.take k).any p=false)(hk:l.length<=k):l.any p=false:=by rwa [List.take_of_length_le hk] at h
theorem Ux(hj:j<k)(hk:k<=l.length)(e:p (l.getD j d)=true):(l.take k).any p=true:=by
 refine Mh (k:=j) (d:=d) (by rw [List.length_take];omega) ?_;rw [List.getD_eq_getElem?_getD,List.getElem?_take,if_pos hj,<-List.getD_eq_getElem?_getD];exact e
end
section
variable {np nw:Nat} {ws:List AE} {js:List AO} {ns:List AJ} {k:Nat} {kinds:Int}
theorem Lx{a b:Int}(ha:0<=a/\a<=(np:Int)-1)(hb:0<=b/\b<=(np:Int)-1):B7 np [a,b]=0:=by
 have h0:Ed np [a,b] 0=0:=if_neg (λe=>e ha);have h1:Ed np [a,b] 1=0:=if_neg (λe=>e hb);show Cy (Ed np [a,b]) 0 2=0;simp [Cy,h0,h1]
theorem miss_no{a b:Int}(h:¬(0<=a/\a<=(np:Int)-1)\/¬(0<=b/\b<=(np:Int)-1)):B7 np [a,b]=6:=by
 show Cy (Ed np [a,b]) 0 2=6;by_cases ha:0<=a/\a<=(np:Int)-1
 ·have h0:Ed np [a,b] 0=0:=if_neg (λe=>e ha);have h1:Ed np [a,b] 1=6:=if_pos (h.resolve_left λe=>e ha);simp [Cy,h0,h1]
 ·have h0:Ed np [a,b] 0=6:=if_pos ha;simp [Cy,h0]
theorem Pp{a:Int}(ha:0<=a/\a<=(np:Int)-1):B7 np [a]=0:=by
 have h0:Ed np [a] 0=0:=if_neg (λe=>e ha);show Cy (Ed np [a]) 0 1=0;simp [Cy,h0]
theorem miss_no1{a:Int}(ha:¬(0<=a/\a<=(np:Int)-1)):B7 np [a]=6:=by
 have h0:Ed np [a] 0=6:=if_pos ha;show Cy (Ed np [a]) 0 1=6;simp [Cy,h0]
variable (ws k) in
def waP(np:Nat):Prop:=(0<=(ws.getD k AE.z).a/\(ws.getD k AE.z).a<=(np:Int)-1)/\(0<=(ws.getD k AE.z).b/\(ws.getD k AE.z).b<=(np:Int)-1)
theorem wy6(h:¬(0<=(ws.getD k AE.z).a/\(ws.getD k AE.z).a<=(np:Int)-1)\/¬(0<=(ws.getD k AE.z).b/\(ws.getD k AE.z).b<=(np:Int)-1)):DD np ws k=6:=by
 unfold DD;rw [miss_no h,if_pos aC]
theorem wyP(h:¬(¬(0<=(ws.getD k AE.z).a/\(ws.getD k AE.z).a<=(np:Int)-1)\/¬(0<=(ws.getD k AE.z).b/\(ws.getD k AE.z).b<=(np:Int)-1))):waP ws k np:=⟨Decidable.byContradiction λe=>h (.inl e),Decidable.byContradiction λe=>h (.inr e)⟩
theorem wy7(h:waP ws k np)(h2:(ws.getD k AE.z).b<=(ws.getD k AE.z).a):DD np ws k=7:=by
 unfold DD;rw [Lx h.1 h.2,if_neg aD,if_pos h2]
theorem wy5(h:waP ws k np)(h2:¬(ws.getD k AE.z).b<=(ws.getD k AE.z).a)(h3:(ws.take k).any (λy=>decide (y.a=(ws.getD k AE.z).a/\y.b=(ws.getD k AE.z).b))=true):DD np ws k=5:=by
 unfold DD;rw [Lx h.1 h.2,if_neg aD,if_neg h2,if_pos h3]
theorem wy1(h:waP ws k np)(h2:¬(ws.getD k AE.z).b<=(ws.getD k AE.z).a)(h3:(ws.take k).any (λy=>decide (y.a=(ws.getD k AE.z).a/\y.b=(ws.getD k AE.z).b))=false)(h4:¬(((0<=(ws.getD k AE.z).low/\(ws.getD k AE.z).low<=(ws.getD k AE.z).high)/\(ws.getD k AE.z).high<=30)/\(ws.getD k AE.z).high-(ws.getD k AE.z).low<2)):DD np ws k=1:=by
 unfold DD;rw [Lx h.1 h.2,if_neg aD,if_neg h2,if_neg (by rw [h3];simp)];exact if_pos h4
theorem wy0(h:waP ws k np)(h2:¬(ws.getD k AE.z).b<=(ws.getD k AE.z).a)(h3:(ws.take k).any (λy=>decide (y.a=(ws.getD k AE.z).a/\y.b=(ws.getD k AE.z).b))=false)(h4:(((0<=(ws.getD k AE.z).low/\(ws.getD k AE.z).low<=(ws.getD k AE.z).high)/\(ws.getD k AE.z).high<=30)/\(ws.getD k AE.z).high-(ws.getD k AE.z).low<2)):DD np ws k=0:=by
 unfold DD;rw [Lx h.1 h.2,if_neg aD,if_neg h2,if_neg (by rw [h3];simp)];exact if_neg (λe=>e h4)
theorem Wd(h:∀k,k<ws.length->DD np ws k=0):Po np ws:=λk hk=>by
 have:=h k hk
 unfold DD at this;split at this
 ·rename_i a;exact absurd this a
 ·rename_i a
  have q:=FQ (Decidable.not_not.1 a);have q1:=q _ List.mem_cons_self;have q2:=q _ (List.mem_cons_of_mem _ List.mem_cons_self);omega
theorem rw2(h:(5:Int)<ws.length):FT np ws=2:=if_pos h
theorem TZ{c:Int}(h5:¬(5:Int)<ws.length)(hs:∀j,j<k->DD np ws j=0)(hk:k<ws.length)(e:DD np ws k=c)(hc:c≠0):FT np ws=c:=by
 have h1:=BR hs hk e hc;rw [FT,if_neg h5,h1,if_pos hc]
theorem rw8(h5:¬(5:Int)<ws.length)(hs:∀j,j<k->DD np ws j=0)(hk:ws.length<=k)(h:((HC ws).length:Int)<np):FT np ws=8:=by
 rw [FT,if_neg h5,CK hs hk,if_neg aD,if_pos aA]
theorem rw0(h5:¬(5:Int)<ws.length)(hs:∀j,j<k->DD np ws j=0)(hk:ws.length<=k)(h:¬((HC ws).length:Int)<np):FT np ws=0:=by
 rw [FT,if_neg h5,CK hs hk,if_neg aD,if_neg aA]
theorem jb6(h:¬(0<=(js.getD k AO.z).place/\(js.getD k AO.z).place<=(np:Int)-1)):Fm np kinds js k=6:=by
 unfold Fm;rw [miss_no1 h,if_pos aC]
theorem jb1(h:0<=(js.getD k AO.z).place/\(js.getD k AO.z).place<=(np:Int)-1)(h2:¬(((0<=(js.getD k AO.z).low/\(js.getD k AO.z).low<=(js.getD k AO.z).high)/\(js.getD k AO.z).high<=30)/\(js.getD k AO.z).high-(js.getD k AO.z).low<2)\/¬(0<=(js.getD k AO.z).due/\(js.getD k AO.z).due<=200)):Fm np kinds js k=1:=by
 unfold Fm;rw [Pp h,if_neg aD];exact if_pos h2
theorem jb2(h:0<=(js.getD k AO.z).place/\(js.getD k AO.z).place<=(np:Int)-1)(h2:¬(¬(((0<=(js.getD k AO.z).low/\(js.getD k AO.z).low<=(js.getD k AO.z).high)/\(js.getD k AO.z).high<=30)/\(js.getD k AO.z).high-(js.getD k AO.z).low<2)\/¬(0<=(js.getD k AO.z).due/\(js.getD k AO.z).due<=200)))(h3:¬((js.getD k AO.z).parts.length:Int)=kinds):Fm np kinds js k=2:=by
 unfold Fm;rw [Pp h,if_neg aD];exact (if_neg h2).trans (if_pos h3)
theorem jb3(h:0<=(js.getD k AO.z).place/\(js.getD k AO.z).place<=(np:Int)-1)(h2:¬(¬(((0<=(js.getD k AO.z).low/\(js.getD k AO.z).low<=(js.getD k AO.z).high)/\(js.getD k AO.z).high<=30)/\(js.getD k AO.z).high-(js.getD k AO.z).low<2)\/¬(0<=(js.getD k AO.z).due/\(js.getD k AO.z).due<=200)))(h3:((js.getD k AO.z).parts.length:Int)=kinds):Fm np kinds js k=if (js.getD k AO.z).parts.any (λn=>decide (¬(0<=n/\n<=5))) then 1 else 0:=by
 unfold Fm;rw [Pp h,if_neg aD];exact (if_neg h2).trans (if_neg (λe=>e h3))
theorem nt2(h:(5:Int)<(ns.getD k AJ.z).ways.length):D4 nw ns k=2:=if_pos h
theorem nt6(h:¬(5:Int)<(ns.getD k AJ.z).ways.length)(h2:(ns.getD k AJ.z).ways.any (λn=>decide (¬(0<=n/\n<=(nw:Int)-1)))=true):D4 nw ns k=6:=by
 unfold D4;rw [if_neg h,if_pos h2]
theorem nt1(h:¬(5:Int)<(ns.getD k AJ.z).ways.length)(h2:(ns.getD k AJ.z).ways.any (λn=>decide (¬(0<=n/\n<=(nw:Int)-1)))=false)(h3:¬((0<=(ns.getD k AJ.z).low/\(ns.getD k AJ.z).low<=(ns.getD k AJ.z).high)/\(ns.getD k AJ.z).high<=200)):D4 nw ns k=1:=by
 unfold D4;rw [if_neg h,if_neg (by rw [h2];simp),if_pos (λe=>h3 e.1)]
theorem nt0(h:¬(5:Int)<(ns.getD k AJ.z).ways.length)(h2:(ns.getD k AJ.z).ways.any (λn=>decide (¬(0<=n/\n<=(nw:Int)-1)))=false)(h3:(0<=(ns.getD k AJ.z).low/\(ns.getD k AJ.z).low<=(ns.getD k AJ.z).high)/\(ns.getD k AJ.z).high<=200):D4 nw ns k=0:=by
 unfold D4;rw [if_neg h,if_neg (by rw [h2];simp),if_neg (λe=>e ⟨h3,aA⟩)]
end
section
variable {ps:List ByteArray} {k:Nat} {a b:List (Int×Int)}
theorem pa4(h:Eo (ps.getD k (⟨#[]⟩:ByteArray))=false):FA ps k=4:=by unfold FA;rw [if_pos h]
theorem pa5(h:Eo (ps.getD k (⟨#[]⟩:ByteArray))=true)(h2:0<=idxOf (λx=>(ps.getD k (⟨#[]⟩:ByteArray)).toList==x.toList) (ps.take k)):FA ps k=5:=by
 unfold FA;rw [if_neg (by rw [h];simp),if_pos ((E7 _ _).1 h2)]
theorem pa0(h:Eo (ps.getD k (⟨#[]⟩:ByteArray))=true)(h2:¬0<=idxOf (λx=>(ps.getD k (⟨#[]⟩:ByteArray)).toList==x.toList) (ps.take k)):FA ps k=0:=by
 unfold FA;rw [if_neg (by rw [h];simp),if_neg λe=>h2 ((E7 _ _).2 e)]
theorem Q5(hs:a.take k=b.take k)(hk:k<=a.length)(h:¬(k:Int)<a.length)(hl:(a.length:Int)=b.length):a=b:=by
 rw [List.take_of_length_le aA,List.take_of_length_le aA] at hs;exact hs
theorem eq_getDP{k:Nat}(h:((a.getD k (0,0)).1==(b.getD k (0,0)).1 && ((a.getD k (0,0)).2==(b.getD k (0,0)).2 && true))=true):a.getD k (0,0)=b.getD k (0,0):=by
 simp only [Bool.and_true,Bool.and_eq_true,beq_iff_eq] at h;exact Prod.ext h.1 h.2
theorem ne_getDP{k:Nat}(h:(!((a.getD k (0,0)).1==(b.getD k (0,0)).1 && ((a.getD k (0,0)).2==(b.getD k (0,0)).2 && true)))=true):¬a=b:=λe=>by rw [e] at h;simp at h
end
section
variable (bag kinds:Int) (ps:List ByteArray) (ws:List AE) (js:List AO) (ns:List AJ)
def EF:Bool:=decide ((((20:Int)<ps.length\/(20:Int)<ws.length)\/(20:Int)<js.length)\/(20:Int)<ns.length) || ps.any (λs=>decide ((100:Int)<s.size)) || js.any (λj=>decide ((20:Int)<j.parts.length)) || ns.any λn=>decide ((20:Int)<n.ways.length)
def fit9:Bool:= !EF ps ws js ns && decide (Dt bag kinds ps ws js ns=0)
end
section
variable {ps:List ByteArray} {ws:List AE} {js:List AO} {ns:List AJ} {k:Nat}
theorem Ly(h:EF ps ws js ns=false)(k:Nat):(ps.getD k (⟨#[]⟩:ByteArray)).size<=1000:=by
 unfold EF at h;simp only [Bool.or_eq_false_iff] at h;by_cases hk:k<ps.length
 ·have:=List.any_eq_false.1 h.1.1.2 _ (BQ (d:=(⟨#[]⟩:ByteArray)) hk)
  have:=of_decide_eq_false (Bool.eq_false_iff.2 this)
  omega
 ·rw [CI aA];decide
end
section
variable {bag kinds:Int} {ps:List ByteArray} {ws:List AE} {js:List AO} {ns:List AJ}
theorem Jz(h:BS ps=0):0<ps.length/\ps.length<=4:=by
 unfold BS at h;split at h
 ·cases h
 ·omega
theorem rc1(h:¬(0<=bag/\bag<=9)\/¬(0<=kinds/\kinds<=3)):Dt bag kinds ps ws js ns=1:=by
 have e:Gn bag kinds=1:=if_pos h;unfold Dt;rw [e,if_pos aC]
theorem tb0(h:¬(¬(0<=bag/\bag<=9)\/¬(0<=kinds/\kinds<=3))):Gn bag kinds=0:=if_neg h
theorem rc2(h0:¬(¬(0<=bag/\bag<=9)\/¬(0<=kinds/\kinds<=3)))(h:¬BS ps=0):Dt bag kinds ps ws js ns=BS ps:=by unfold Dt;rw [tb0 h0,if_neg aD,if_pos h]
theorem rc3(h0:¬(¬(0<=bag/\bag<=9)\/¬(0<=kinds/\kinds<=3)))(h1:¬¬BS ps=0)(h:¬FT ps.length ws=0):Dt bag kinds ps ws js ns=FT ps.length ws:=by unfold Dt;rw [tb0 h0,if_neg aD,if_neg h1,if_pos h]
theorem rc4(h0:¬(¬(0<=bag/\bag<=9)\/¬(0<=kinds/\kinds<=3)))(h1:¬¬BS ps=0)(h2:¬¬FT ps.length ws=0)(h:¬CA ps.length kinds js=0):Dt bag kinds ps ws js ns=CA ps.length kinds js:=by unfold Dt;rw [tb0 h0,if_neg aD,if_neg h1,if_neg h2,if_pos h]
theorem rc5(h0:¬(¬(0<=bag/\bag<=9)\/¬(0<=kinds/\kinds<=3)))(h1:¬¬BS ps=0)(h2:¬¬FT ps.length ws=0)(h:¬¬CA ps.length kinds js=0):Dt bag kinds ps ws js ns=Ch ws.length ns:=by unfold Dt;rw [tb0 h0,if_neg aD,if_neg h1,if_neg h2,if_neg h]
theorem gr_len(h:(((20:Int)<ps.length\/(20:Int)<ws.length)\/(20:Int)<js.length)\/(20:Int)<ns.length):EF ps ws js ns=true:=by unfold EF;rw [decide_eq_true h];rfl
theorem gr_p(h:ps.any (λs=>decide ((100:Int)<s.size))=true):EF ps ws js ns=true:=by unfold EF;rw [h];simp
theorem gr_j(h:js.any (λj=>decide ((20:Int)<j.parts.length))=true):EF ps ws js ns=true:=by unfold EF;rw [h];simp
theorem gr_n(h:ns.any (λn=>decide ((20:Int)<n.ways.length))=true):EF ps ws js ns=true:=by unfold EF;rw [h];simp
theorem gr_0(h:¬((((20:Int)<ps.length\/(20:Int)<ws.length)\/(20:Int)<js.length)\/(20:Int)<ns.length))(h1:ps.any (λs=>decide ((100:Int)<s.size))=false)(h2:js.any (λj=>decide ((20:Int)<j.parts.length))=false)(h3:ns.any (λn=>decide ((20:Int)<n.ways.length))=false):EF ps ws js ns=false:=by
 unfold EF;rw [decide_eq_false h,h1,h2,h3];rfl
end
end Go.Ns
namespace Go.Ns
def CU:List ByteArray:=[⟨#[119,111,114,107,115]⟩,⟨#[97,121,114]⟩,⟨#[98,117,116,101]⟩]
theorem DC:∀k,(CU.getD k (⟨#[]⟩:ByteArray)).size<=1000
 | 0=>aC
 | 1=>aC
 | 2=>aC
 | k+3=>by rw [CI (by simp [CU])];decide
def CR:List AE:=[⟨0,1,2,3⟩,⟨1,2,4,4⟩,⟨0,2,5,5⟩]
def B8(a b c:Value):List AO:=[⟨1,1,1,5,a,[2]⟩,⟨2,1,2,12,b,[1]⟩,⟨0,1,1,20,c,[1]⟩]
theorem C6.ex{h:GH}{t:TypeId}{a b c:Value}(x:Dr h t a [2])(y:Dr h t b [1])(z:Dr h t c [1]):C6 h t (B8 a b c):=λk=>by
 match k with
 | 0=>exact x
 | 1=>exact y
 | 2=>exact z
 | k+3=>rw [CI (by show 3<=_;omega)];exact Dr.nil _ _
theorem AD.isSl{V:Type}{h:GH}{v:Value}{n:Nat}{enc:V->Array Value}{xs:List V}(x:AD h v n enc xs):∀k i,v≠.int k i:=by
 obtain ⟨a,cap,rfl,_⟩:=x;intro k i e;cases e
theorem AD.across9{h h':GH}{v:Value}{xs:List Int}{r:Nat}{a b c d:Value}{T:TypeId}(x:AD h v 1 eI xs)(hb:h r=some (true,.cells #[.int .i64 3,.int .i64 1,a,b,c,d] T (0,0)))(ho:∀y,y≠r->h' y=h y)
  (ha:∀k i,a≠.int k i) (hb':∀k i,b≠.int k i) (hc:∀k i,c≠.int k i) (hd:∀k i,d≠.int k i) (hx:∀o,o<6->∃i:Fin xs.length,(o+i.val=0->xs[i.val]≠3)/\(o+i.val=1->xs[i.val]≠1)):AD h' v 1 eI xs:=by
 obtain ⟨ad,cap,hv,hcap,hm,he⟩:=x;refine ⟨ad,cap,hv,hcap,hm,λi hi=>?_⟩;obtain ⟨y,off,h1,h2⟩:=he i hi;refine ⟨y,off,h1,h2.same (ho y ?_)⟩;rintro rfl;have key:∀j (hj:j<xs.length),off+j<6/\(#[Value.int .i64 3,.int .i64 1,a,b,c,d]:Array Value).extract (off+j) (off+j+1)=eI xs[j]:=λj hj=>by
  obtain ⟨y2,off2,h3,h4⟩:=he j hj;rw [h1] at h3;simp only [Option.some.injEq,Addr.mk.injEq,and_true] at h3;obtain ⟨rfl,rfl⟩:=h3;obtain ⟨p,cc,t,f,q1,q2,q3⟩:=h4;rw [hb] at q1;simp only [Option.some.injEq,Prod.mk.injEq,Obj.cells.injEq] at q1;obtain ⟨_,rfl,_⟩:=q1;rw [Nat.mul_one] at q2 q3;exact ⟨by simp at q2;omega,q3⟩
 obtain ⟨⟨j,hj⟩,e0,e1⟩:=hx off (by have:=(key i hi).1;omega);obtain ⟨k1,k2⟩:=key j hj;simp only at e0 e1;generalize off+j=o at k1 k2 e0 e1;generalize xs[j]=z at k2 e0 e1
 have:o=0\/o=1\/o=2\/o=3\/o=4\/o=5:=aA
 rcases this with rfl | rfl | rfl | rfl | rfl | rfl
 ·have k3:(#[.int .i64 3]:Array Value)=#[.int .i64 z]:=k2;simp at k3;exact e0 rfl k3.symm
 ·have k3:(#[.int .i64 1]:Array Value)=#[.int .i64 z]:=k2;simp at k3;exact e1 rfl k3.symm
 ·have k3:(#[a]:Array Value)=#[.int .i64 z]:=k2;simp at k3;exact ha _ _ k3
 ·have k3:(#[b]:Array Value)=#[.int .i64 z]:=k2;simp at k3;exact hb' _ _ k3
 ·have k3:(#[c]:Array Value)=#[.int .i64 z]:=k2;simp at k3;exact hc _ _ k3
 ·have k3:(#[d]:Array Value)=#[.int .i64 z]:=k2;simp at k3;exact hd _ _ k3
end Go.Ns
namespace Go.Ns
section
variable {m:EM} {b np i k n:Nat}
structure EM.Sym(m:EM):Prop where
 ok:m.ok
 diag:∀i,m i i=0
 sym:∀i k,m i k=m k i
theorem Uy(b i:Nat)(m:EM)(hd:m b b=0)(h0:m.ok):∀n x y,HT b i m n x y=if x=i/\y<n then min (m i y) (m i b+m b y) else m x y
 | 0,x,y=>by rw [if_neg aA];rfl
 | n+1,x,y=>by
  have ih:=Uy b i m hd h0 n;have e:HT b i m (n+1)=OJ b i (HT b i m n) n:=A5 _ _ _;rw [e];unfold OJ EM.set;by_cases hxy:x=i/\y=n
  ·obtain ⟨rfl,rfl⟩:=hxy;rw [if_pos ⟨rfl,rfl⟩,if_pos ⟨rfl,Nat.lt_succ_self _⟩,ih x y,if_neg aA,ih x b,ih b y];have hb:=h0 x b;have hby:=h0 b y;have hd2:=hd;by_cases h1:x=x/\b<y
   ·rw [if_pos h1];by_cases h2:b=x/\y<y
    ·omega
    ·rw [if_neg h2];rw [hd2];omega
   ·rw [if_neg h1];by_cases h2:b=x/\y<y
    ·omega
    ·rw [if_neg h2]
  ·rw [if_neg hxy,ih x y];by_cases h1:x=i/\y<n
   ·rw [if_pos h1,if_pos ⟨h1.1,aA⟩]
   ·rw [if_neg h1,if_neg (λe=>h1 ⟨e.1,aA⟩)]
theorem Zf(b i:Nat)(m:EM)(hd:m b b=0)(h0:m.ok)(x y:Nat):NW b np m i x y=if x=i/\y<np then min (m i y) (m i b+m b y) else m x y:=by
 unfold NW;split
 ·rename_i e
  by_cases h1:x=i/\y<np
  ·obtain ⟨rfl,h2⟩:=h1;rw [if_pos ⟨rfl,h2⟩,e]
   have:=h0 x y
   have:=h0 b y
   omega
  ·rw [if_neg h1]
 ·exact Uy b i m hd h0 np x y
theorem Uz(b:Nat)(m:EM)(hd:m b b=0)(h0:m.ok):∀n x y,Eg b np m n x y=if x<n/\y<np then min (m x y) (m x b+m b y) else m x y
 | 0,x,y=>by rw [if_neg aA];rfl
 | n+1,x,y=>by
  have ih:=Uz b m hd h0 n;have e:Eg b np m (n+1)=NW b np (Eg b np m n) n:=A5 _ _ _;have hd2:Eg b np m n b b=0:=by rw [ih b b,hd];split <;> omega
  rw [e,Zf b n _ hd2 (OK h0)];by_cases h1:x=n/\y<np
  ·obtain ⟨rfl,h2⟩:=h1;rw [if_pos ⟨rfl,h2⟩,if_pos ⟨Nat.lt_succ_self _,h2⟩,ih x y,if_neg aA,ih x b,if_neg aA,ih b y];have h3:=h0 x b;have h4:=h0 b y;by_cases h5:b<x/\y<np
   ·rw [if_pos h5,hd];omega
   ·rw [if_neg h5]
  ·rw [if_neg h1,ih x y];by_cases h2:x<n/\y<np
   ·rw [if_pos h2,if_pos ⟨aA,h2.2⟩]
   ·rw [if_neg h2,if_neg (λe=>aA)]
structure FW(np n:Nat)(m0 m:EM):Prop where
 s:m.Sym
 tri:∀c,c<n->∀i k,i<np->k<np->m i k<=m i c+m c k
 le:∀i k,m i k<=m0 i k
theorem FW.step{m0:EM}(h:FW np n m0 m)(hn:n<np):FW np (n+1) m0 (Eg n np m np):=by
 have g:=Uz (np:=np) n m (h.s.diag n) h.s.ok np;have s:=h.s;have p:=λi k=>s.ok i k;refine ⟨⟨OK s.ok,λi=>?_,λi k=>?_⟩,λc hc i k hi hk=>?_,λi k=>?_⟩
 ·rw [g i i];have:=p i n;have:=p n i;have:=s.diag i;split <;> omega
 ·rw [g i k,g k i];have h1:=s.sym i k;have h2:=s.sym i n;have h3:=s.sym k n;by_cases c:i<np/\k<np
  ·rw [if_pos c,if_pos ⟨c.2,c.1⟩];omega
  ·rw [if_neg c,if_neg (λe=>c ⟨e.2,e.1⟩)];exact h1
 ·rw [g i k,g i c,g c k,if_pos ⟨hi,hk⟩,if_pos ⟨hi,aA⟩,if_pos ⟨aA,hk⟩];have d:=s.diag n
  have:=p i n
  have:=p n k
  have:=p n c
  have:=p c n
  rcases Nat.lt_or_ge c n with q | q
  ·have t1:=h.tri c q i k hi hk;have t2:=h.tri c q i n hi hn;have t3:=h.tri c q n k hn hk;omega
  ·have:c=n:=aA
   subst this;omega
 ·rw [g i k];have:=h.le i k;split <;> omega
theorem FW.all{m0:EM}(s:m0.Sym):∀n,n<=np->FW np n m0 (DH np m0 n)
 | 0,_=>⟨s,λc hc=>absurd hc (Nat.not_lt_zero _),λ_ _=>Int.le_refl _⟩
 | n+1,h=>by
  have ih:=FW.all s n aA;have e:DH np m0 (n+1)=Eg n np (DH np m0 n) np:=A5 _ _ _;rw [e];exact ih.step aA
end
theorem R3(i:Nat)(m:EM):∀n x y,G1 i m n x y=if x=i/\y<n/\i≠y then 1048576 else m x y
 | 0,x,y=>by rw [if_neg aA];rfl
 | n+1,x,y=>by
  have ih:=R3 i m n;have e:G1 i m (n+1)=Ks i (G1 i m n) n:=A5 _ _ _;rw [e];unfold Ks;by_cases h:(i:Int)=(n:Int)
  ·rw [if_neg (λq=>q h),ih x y];by_cases c:x=i/\y<n/\i≠y
   ·rw [if_pos c,if_pos ⟨c.1,aA,c.2.2⟩]
   ·rw [if_neg c,if_neg (λq=>c ⟨q.1,aA,q.2.2⟩)]
  ·rw [if_pos h];show (if x=i/\y=n then 1048576 else G1 i m n x y)=_;by_cases c:x=i/\y=n
   ·rw [if_pos c,if_pos ⟨c.1,aA,aA⟩]
   ·rw [if_neg c,ih x y];by_cases d:x=i/\y<n/\i≠y
    ·rw [if_pos d,if_pos ⟨d.1,aA,d.2.2⟩]
    ·rw [if_neg d,if_neg (λq=>d ⟨q.1,aA,q.2.2⟩)]
theorem L0:∀n x y,Ik n x y=if x<n/\y<4/\x≠y then 1048576 else 0
 | 0,x,y=>by rw [if_neg aA];rfl
 | n+1,x,y=>by
  have ih:=L0 n;have e:Ik (n+1)=G1 n (Ik n) 4:=A5 _ _ _;rw [e,R3,ih x y];by_cases c:x=n/\y<4/\n≠y
  ·rw [if_pos c,if_pos ⟨aA,c.2.1,aA⟩]
  ·rw [if_neg c];by_cases d:x<n/\y<4/\x≠y
   ·rw [if_pos d,if_pos ⟨aA,d.2⟩]
   ·rw [if_neg d,if_neg (λq=>aA)]
theorem far0_sym:(Ik 4).Sym:=⟨YL,λi=>by rw [L0,if_neg (λq=>q.2.2 rfl)],λi k=>by
 rw [L0,L0];by_cases c:i<4/\k<4/\i≠k
 ·rw [if_pos c,if_pos ⟨c.2.1,c.1,c.2.2.symm⟩]
 ·rw [if_neg c,if_neg (λq=>c ⟨q.2.1,q.1,q.2.2.symm⟩)]⟩
section
variable {p:AG} {ws:List AE} {np:Nat}
structure Ta(ws:List AE):Prop where
 rng:∀k,k<ws.length->0<=(ws.getD k AE.z).a/\(ws.getD k AE.z).a<(ws.getD k AE.z).b
 one:∀j k,j<k->k<ws.length->¬((ws.getD j AE.z).a=(ws.getD k AE.z).a/\(ws.getD j AE.z).b=(ws.getD k AE.z).b)
theorem wayFine(h:∀k,k<ws.length->DD np ws k=0):Ta ws:=by
 have key:∀k,k<ws.length->(0<=(ws.getD k AE.z).a)/\¬(ws.getD k AE.z).b<=(ws.getD k AE.z).a/\(ws.take k).any (λy=>decide (y.a=(ws.getD k AE.z).a/\y.b=(ws.getD k AE.z).b))=false:=λk hk=>by
  have w:=(Wd h k hk).1.1
  have:=h k hk
  unfold DD at this;split at this
  ·rename_i a;exact absurd this a
  ·split at this
   ·cases this
   ·rename_i b
    split at this
    ·cases this
    ·rename_i c
     exact ⟨w,b,by simpa using c⟩
 refine ⟨λk hk=>⟨(key k hk).1,by have:=(key k hk).2.1;omega⟩,λj k hj hk e=>?_⟩
 have:=(key k hk).2.2
 rw [Ux (d:=AE.z) hj aA (decide_eq_true e)] at this;cases this
theorem We(m:EM)(k x y:Nat)(hk:(ws.getD k AE.z).a.toNat≠(ws.getD k AE.z).b.toNat):MY p ws m k x y=if (x=(ws.getD k AE.z).a.toNat/\y=(ws.getD k AE.z).b.toNat)\/(x=(ws.getD k AE.z).b.toNat/\y=(ws.getD k AE.z).a.toNat) then p.ways k else m x y:=by
 unfold MY EM.set;by_cases c:x=(ws.getD k AE.z).b.toNat/\y=(ws.getD k AE.z).a.toNat
 ·rw [if_pos c,if_pos (.inr c)]
 ·rw [if_neg c];by_cases d:x=(ws.getD k AE.z).a.toNat/\y=(ws.getD k AE.z).b.toNat
  ·rw [if_pos d,if_pos (.inl d)]
  ·rw [if_neg d,if_neg (λq=>q.elim d c)]
theorem Nr(hp:B2 p)(hw:Ta ws):∀n,n<=ws.length->(BP p ws n).Sym
 | 0,_=>far0_sym
 | n+1,h=>by
  have ih:=Nr hp hw n aA;have r:=hw.rng n aA;have g:=λx y=>We (p:=p) (ws:=ws) (BP p ws n) n x y aA;have e:BP p ws (n+1)=MY p ws (BP p ws n) n:=A5 _ _ _;refine ⟨Kt hp,λi=>?_,λi k=>?_⟩
  ·rw [e,g,if_neg aA];exact ih.diag i
  ·rw [e,g,g];by_cases c:(i=(ws.getD n AE.z).a.toNat/\k=(ws.getD n AE.z).b.toNat)\/(i=(ws.getD n AE.z).b.toNat/\k=(ws.getD n AE.z).a.toNat)
   ·rw [if_pos c,if_pos aA]
   ·rw [if_neg c,if_neg aA];exact ih.sym i k
theorem Wf(hp:B2 p)(hw:Ta ws):FW np np (BP p ws ws.length) (Au np ws p):=FW.all (Nr hp hw _ (Nat.le_refl _)) np (Nat.le_refl _)
end
end Go.Ns
namespace Go.Ns
section
variable {ws:List AE} {c:HH} {x:AE} {i n k np:Nat}
theorem J0(h:c i=true):Hv c x i=true:=by
 unfold Hv HH.set;by_cases e:i=x.b.toNat
 ·rw [if_pos e];by_cases e2:x.b.toNat=x.a.toNat
  ·rw [if_pos e2];rw [e,e2] at h;rw [h];simp
  ·rw [if_neg e2,<-e,h];simp
 ·rw [if_neg e];by_cases e2:i=x.a.toNat
  ·rw [if_pos e2,<-e2,h];simp
  ·rw [if_neg e2];exact h
theorem U0(h:c x.a.toNat=true\/c x.b.toNat=true):Hv c x x.a.toNat=true/\Hv c x x.b.toNat=true:=by
 unfold Hv HH.set;rcases h with h | h
 ·constructor
  ·by_cases e:x.a.toNat=x.b.toNat
   ·rw [if_pos e];simp [h]
   ·rw [if_neg e];simp [h]
  ·rw [if_pos rfl];simp [h]
 ·constructor
  ·by_cases e:x.a.toNat=x.b.toNat
   ·rw [if_pos e];simp [h]
   ·rw [if_neg e];simp [h]
  ·rw [if_pos rfl];simp [h]
theorem HZ:∀(l:List AE)(c:HH),c i=true->l.foldl Hv c i=true
 | [],_,h=>h
 | x ::l,c,h=>HZ l _ (J0 h)
theorem JM:∀(l:List AE)(c:HH),x ∈ l->(c x.a.toNat=true\/c x.b.toNat=true)->l.foldl Hv c x.a.toNat=true/\l.foldl Hv c x.b.toNat=true
 | y ::l,c,hx,h=>by
  rcases List.mem_cons.1 hx with e | hx
  ·subst e;have b:=U0 h;exact ⟨HZ l _ b.1,HZ l _ b.2⟩
  ·exact JM l _ hx (h.imp J0 J0)
theorem J1:∀n (c:HH),Ep ws (n+1) c=Gz ws (Ep ws n c)
 | 0,_=>rfl
 | n+1,c=>J1 n (Gz ws c)
theorem Mi{m:Nat}(h:Ep ws n c i=true):∀d,m=n+d->Ep ws m c i=true
 | 0,e=>by rw [e];exact h
 | d+1,e=>by
  rw [e,show n+(d+1)=(n+d)+1 by omega,J1];exact HZ ws _ (Mi h d rfl)
def c0:HH:=HH.none.set 0 true
def Il(ws:List AE)(l:List Int):Prop:=∀i,i<l.length->Ep ws i c0 (l.getD i 0).toNat=true
theorem Il.snoc{l:List Int}{q:Int}(h:Il ws l)(hq:Ep ws l.length c0 q.toNat=true):Il ws (l++[q]):=λi hi=>by
 rw [List.length_append,List.length_singleton] at hi;rw [PT];by_cases e:i<l.length
 ·rw [if_pos e];exact h i e
 ·rw [if_neg e,show i=l.length by omega,Nat.sub_self];exact hq
theorem Il.step{l:List Int}(h:Il ws l)(hk:k<l.length)(hx:x ∈ ws):Il ws (DB l k x):=by
 have one:∀{l:List Int}{p q:Int},Il ws l->k<l.length->(x.a=p/\x.b=q\/x.b=p/\x.a=q)->Il ws (IZ l k p q):=by
  intro l p q h hk hpq;unfold IZ;split
  ·rename_i e
   have f:=h k hk;rw [<-e.1] at f;have g:Ep ws (k+1) c0 q.toNat=true:=by
    rw [J1];rcases hpq with ⟨rfl,rfl⟩ | ⟨rfl,rfl⟩
    ·exact (JM ws _ hx (.inl f)).2
    ·exact (JM ws _ hx (.inr f)).1
   exact h.snoc (Mi g (l.length-(k+1)) aA)
  ·exact h
 have h1:=one h hk (.inl ⟨rfl,rfl⟩);have hl:=(Kz l k x.a x.b).length_le;exact one h1 aA (.inr ⟨rfl,rfl⟩)
theorem Il.ways{l:List Int}(h:Il ws l)(hk:k<l.length):∀j,j<=ws.length->Il ws (Ai ws l k j)
 | 0,_=>h
 | j+1,hj=>(Il.ways h hk j aA).step (Nat.lt_of_lt_of_le hk (Ia j).length_le) (BQ aA)
theorem Mj:∀k,Il ws (Ax ws k)
 | 0=>λi hi=>by
  have:i=0:=by
   have:i<1:=hi
   omega
  subst this;rfl
 | k+1=>by
  unfold Ax;split
  ·rename_i e;exact (Mj k).ways e _ (Nat.le_refl _)
  ·exact Mj k
theorem Tb(hn:0<np)(hw:Po np ws)(h:¬(HC ws).length<np):Gp np ws=0:=by
 have ok:H0 np (HC ws):=KL hn hw 4;have hl:=ok.len;have all:∀y,y<np->Ep ws np c0 y=true:=λy hy=>by
  have mem:(y:Int) ∈ HC ws:=Decidable.byContradiction λe=>by
   have:=(ok.snoc (x:=(y:Int)) ⟨aA,aA⟩ e).len
   rw [List.length_append,List.length_singleton] at this;omega
  obtain ⟨i,hi,e⟩:=List.mem_iff_getElem.1 mem;have f:Ep ws i c0 ((HC ws).getD i 0).toNat=true:=Mj (ws:=ws) 4 i hi;have e2:(HC ws).getD i 0=(y:Int):=by
   rw [List.getD_eq_getElem?_getD,List.getElem?_eq_getElem hi];exact e
  rw [e2] at f;exact Mi f (np-i) (by have hi':i<(HC ws).length:=hi;omega)
 unfold Gp;rw [if_neg];intro e;obtain ⟨b,hb,hf⟩:=List.any_eq_true.1 e;unfold PC at hb;obtain ⟨y,hy,rfl⟩:=List.mem_map.1 hb
 have:Ep ws np (HH.none.set 0 true) y=true:=all y (List.mem_range.1 hy)
 rw [this] at hf;cases hf
end
section
variable {bag kinds:Int} {ps:List ByteArray} {ws:List AE} {js:List AO} {ns:List AJ}
theorem Wg(hn:0<ps.length)(h:FT ps.length ws=0):Er ps.length ws=0:=by
 unfold FT at h;split at h
 ·cases h
 ·rename_i a
  split at h
  ·rename_i b;exact absurd h b
  ·rename_i b
   split at h
   ·cases h
   ·rename_i c
    unfold Er;rw [if_neg a,if_neg b];have z:=DQ (Decidable.not_not.1 b);exact Tb hn (Wd λk hk=>z k (Nat.zero_le _) aA) c
theorem U1(h:Dt bag kinds ps ws js ns=0):BV bag kinds ps ws js ns=0:=by
 unfold Dt at h;split at h
 ·rename_i a;exact absurd h a
 ·rename_i a
  split at h
  ·rename_i b;exact absurd h b
  ·rename_i b
   split at h
   ·rename_i c;exact absurd h c
   ·rename_i c
    split at h
    ·rename_i d;exact absurd h d
    ·rename_i d
     have h1:=Decidable.not_not.1 a;have h2:=Decidable.not_not.1 b;have h3:=Wg (Jz h2).1 (Decidable.not_not.1 c);have h4:=Decidable.not_not.1 d;unfold BV;refine CK (k:=5) (λj hj=>?_) (Nat.le_refl _)
     match j with
     | 0=>exact h1
     | 1=>exact h2
     | 2=>exact h3
     | 3=>exact h4
     | 4=>exact h
     | j+5=>omega
theorem fit9_ok(h:fit9 bag kinds ps ws js ns=true):BV bag kinds ps ws js ns=0/\∀k,(ps.getD k (⟨#[]⟩:ByteArray)).size<=1000:=by
 unfold fit9 at h;rw [Bool.and_eq_true] at h;exact ⟨U1 (of_decide_eq_true h.2),Ly (by simpa using h.1)⟩
end
end Go.Ns
namespace Go.Ns
open Go.Conc
section
variable {P:Program} {E:GQ P} {O:Nat->Value} {ds:List Deferred} {h:GH} {T:(Nat->Value)->List Deferred->GH->Prop} {dst:Option Nat} {ty:TypeId} {pos:String} {af:Array Edge} {gd:Option (Nat×Bool)}
end
section
variable {F G:AG->Int} {l:List AG} {x:AG}
theorem YX(h:0<l.length):∀k,k<=l.length-1->∃x ∈ l,UZ F l k=F x
 | 0,_=>⟨_,BQ h,rfl⟩
 | k+1,hk=>by
  obtain ⟨x,hx,e⟩:=YX h k aA;rcases Int.le_total (UZ F l k) (F ((l.drop 1).getD k AG.zero)) with q | q
  ·exact ⟨x,hx,(Int.min_eq_left q).trans e⟩
  ·exact ⟨_,MZ aA,Int.min_eq_right q⟩
theorem YY(h:0<l.length):∀k,k<=l.length-1->∃x ∈ l,Ua F l k=F x
 | 0,_=>⟨_,BQ h,rfl⟩
 | k+1,hk=>by
  obtain ⟨x,hx,e⟩:=YY h k aA;rcases Int.le_total (Ua F l k) (F ((l.drop 1).getD k AG.zero)) with q | q
  ·exact ⟨_,MZ aA,Int.max_eq_right q⟩
  ·exact ⟨x,hx,(Int.max_eq_left q).trans e⟩
theorem U2{k:Nat}:(l.drop 1).getD k AG.zero=l.getD (k+1) AG.zero:=by
 rw [List.getD_eq_getElem?_getD,List.getElem?_drop,<-List.getD_eq_getElem?_getD,Nat.add_comm]
theorem fLo_le:∀k j,j<=k->UZ F l k<=F (l.getD j AG.zero)
 | 0,j,h=>by rw [show j=0 by omega];exact Int.le_refl _
 | k+1,j,h=>by
  show min (UZ F l k) (F ((l.drop 1).getD k AG.zero))<=_;rcases Nat.lt_or_ge j (k+1) with q | q
  ·have:=fLo_le k j aA;omega
  ·have e:j=k+1:=aA
   subst e;rw [U2];omega
theorem fHi_ge:∀k j,j<=k->F (l.getD j AG.zero)<=Ua F l k
 | 0,j,h=>by rw [show j=0 by omega];exact Int.le_refl _
 | k+1,j,h=>by
  show _<=max (Ua F l k) (F ((l.drop 1).getD k AG.zero));rcases Nat.lt_or_ge j (k+1) with q | q
  ·have:=fHi_ge k j aA;omega
  ·have e:j=k+1:=aA
   subst e;rw [U2];omega
theorem YZ(hx:x ∈ l):∃j,j<=l.length-1/\x=l.getD j AG.zero:=by
 obtain ⟨j,hj,e⟩:=List.mem_iff_getElem.1 hx;exact ⟨j,aA,by rw [List.getD_eq_getElem?_getD,List.getElem?_eq_getElem hj];exact e.symm⟩
theorem Tc(hx:x ∈ l):CY F l<=F x:=by obtain ⟨j,hj,rfl⟩:=YZ hx;exact fLo_le _ j hj
theorem Td(hx:x ∈ l):F x<=BG F l:=by obtain ⟨j,hj,rfl⟩:=YZ hx;exact fHi_ge _ j hj
theorem Pq(h:0<l.length):∃x ∈ l,CY F l=F x:=YX h _ (Nat.le_refl _)
theorem Pr(h:0<l.length):∃x ∈ l,BG F l=F x:=YY h _ (Nat.le_refl _)
theorem Wh(h:0<l.length)(e:∀x ∈ l,F x=G x):CY F l=CY G l:=by
 obtain ⟨x,hx,e1⟩:=Pq (F:=F) h;obtain ⟨y,hy,e2⟩:=Pq (F:=G) h
 have:=Tc (F:=F) hy
 have:=Tc (F:=G) hx
 have:=e x hx
 have:=e y hy
 omega
theorem Wi(h:0<l.length)(e:∀x ∈ l,F x=G x):BG F l=BG G l:=by
 obtain ⟨x,hx,e1⟩:=Pr (F:=F) h;obtain ⟨y,hy,e2⟩:=Pr (F:=G) h
 have:=Td (F:=F) hy
 have:=Td (F:=G) hx
 have:=e x hx
 have:=e y hy
 omega
end
section
variable {bag kinds:Int} {ps:List ByteArray} {ws:List AE} {js:List AO} {ns:List AJ} {a b c:Int}
theorem openB_09(bk:BV bag kinds ps ws js ns=0):(AK bag kinds ps ws js ns 0=0/\0<(AC ws js ns).length)\/(AK bag kinds ps ws js ns 0=9/\(AC ws js ns).length=0):=by
 unfold AK;rw [if_neg (λe=>e bk),if_neg aD];by_cases e:(AC ws js ns).length=0
 ·rw [if_pos e];exact .inr ⟨rfl,e⟩
 ·rw [if_neg e];exact .inl ⟨rfl,aA⟩
end
section
variable {bag kinds:Int} {ps:List ByteArray} {ws:List AE} {js:List AO} {ns:List AJ} {a b c s:Int}
end
end Go.Ns
namespace Go.Ns
open Go.Conc
section
variable {P:Program} {Post:Value->World->Prop}
def Ya(P:Program)(Post:Value->World->Prop):Wk P:=⟨true,D0 P Post,KW⟩
theorem Te:Kq (Ya P Post):=⟨Post,rfl⟩
theorem Zg{f:FuncId}{fn:Func}{c:Code}{args:Array Value}{h:GH}{R:Value->GH->Prop}(hf:P.funcs[f]? =some fn)(hb:fn.body=some c)(hsz:args.size<=fn.ntmps)(hin:P.inits.idxOf? f=none)(hpost:∀v h',R v h'->∀w,D7 w h'->Post v w)
  (x:Tr ⟨Ya P Post,f,none,fn.ntmps⟩ c (λi=>args.getD i undef) [] h (λe O ds h'=>(e=.normal\/e=.ret)/\GR P fn O R ds h')):D0 P Post (G (Frame.enter P f args .normal) []) h:=by
 have e0:Frame.enter P f args .normal=Ci (Frame.enter P f args .normal) (args++Array.replicate (fn.ntmps-args.size) undef) [] [.code c]:=by
  simp [Frame.enter,Ci,hf,hb]
 rw [e0];let L:Lv:=λj t ds h'=>(j=none\/j=some .ret)/\∃O,Bc t fn.ntmps O/\GR P fn O R ds h';have fin:∀O ds h' t k,Bc t fn.ntmps O->GR P fn O R ds h'->(Ya P Post).K (G (Ea (Frame.enter P f args .normal) t ds k) []) h':=by
  intro O ds h' t k hs ho;refine NC (W:=Ya P Post) (R:=R) hf (b:=Frame.enter P f args .normal) rfl (λt k v h h' hr hrun=>?_) ds h' t k hs ho;refine Vk rfl λw fw=>?_;obtain ⟨w',es,r1,r2⟩:=hrun w fw;refine ⟨v,w',seen P f es++ #[],h',?_,r2.sub (es':=seen P f es++ #[]) λe he=>?_,hpost v h' hr w' r2.fits⟩
  ·rw [Ki];unfold unwind;have hfn:(Ea (Frame.enter P f args .normal) t [] k).fn=f:=rfl;have hk:(Ea (Frame.enter P f args .normal) t [] k).kind=.normal:=rfl;have hm:(Ea (Frame.enter P f args .normal) t [] k).mode=.returning:=rfl;have hd:(Ea (Frame.enter P f args .normal) t [] k).defers=[]:=rfl;have ht:(Ea (Frame.enter P f args .normal) t [] k).tmps=t:=rfl;simp only [hd,hm,hfn,hf,ht,r1,GStep.after,doReturn,hk,hin];rfl
  ·rw [Array.append_empty] at he;exact mem_seen he
 refine x (Frame.enter P f args .normal) [] [] L _ rfl rfl ⟨?_,?_,?_⟩ ⟨by simp;omega,λi=>?_⟩ ?_
 ·rintro t ds h' ⟨_,O,hs,ho⟩;exact Wk.go (Ea (Frame.enter P f args .normal) t ds []) (λw=>by rw [A7];simp [stepG.exec,Ci,Ea,G,Frame.enter]) (fin O ds h' t [] hs ho)
 ·rintro t ds h' k ⟨_,O,hs,ho⟩;exact Wk.go (Ea (Frame.enter P f args .normal) t ds (.code .ret ::k)) (λw=>by rw [A7];simp [stepG.exec,Ci,Ea,G,Frame.enter]) (fin O ds h' t _ hs ho)
 ·rintro id t ds h' k _ ⟨h1 | h1,_⟩ <;> cases h1
 ·by_cases hi:i<args.size
  ·simp [Array.getD_eq_getD_getElem?,Array.getElem?_append_left hi]
  ·simp only [Array.getD_eq_getD_getElem?];rw [Array.getElem?_append_right aA,Array.getElem?_eq_none (show args.size<=i by omega),Array.getElem?_replicate];split <;> rfl
 ·rintro e O ds h' ⟨he,ho⟩ t' ht';rcases he with rfl | rfl
  ·exact Wk.go (Ea (Frame.enter P f args .normal) t' ds []) (λw=>by rw [A7];simp [stepG.exec,Ci,Ea,G,Frame.enter]) (fin O ds h' t' [] ht' ho)
  ·exact ⟨.inr rfl,O,ht',ho⟩
def GH.of(W:World):GH:=λb=>(W.heap[b]?).map λo=>(false,o)
theorem GH.of_some{W:World}{b:Nat}{o:Obj}(h:W.heap[b]? =some o):GH.of W b=some (false,o):=by unfold GH.of;rw [h];rfl
theorem fits_of(W:World):D7 W (GH.of W):=λb p o h=>by
 unfold GH.of at h;cases e:W.heap[b]? with
 | none=>rw [e] at h;cases h
 | some x=>rw [e] at h;cases h;rfl
theorem kept_of{W w:World}{h:GH}(l:(GH.of W).Le h)(f:D7 w h){b:Nat}{o:Obj}(hb:W.heap[b]? =some o):w.heap[b]? =some o:=f b _ _ (l.keep (GH.of_some hb) rfl)
theorem Wj{g:Goroutine}{W:World}(hg:D0 P Post g (GH.of W)):Br P (Ix Post W.os W.output) (solo g W) #[]:=by
 have hno:∀k a,touchAt (#[]:Trace) k=some a->False:=λk a h=>by
  obtain ⟨op,h1,_⟩:=touch_of h;simp at h1
 refine hg #[g] W none (λ_=>0) #[] ⟨rfl,?_,fits_of W,?_,?_,λk a b hk=>(hno k a hk).elim,?_,λk a hk=>(hno k a hk).elim,λb p o k a _ _ hk=>(hno k a hk).elim⟩
 ·intro j x hj hx;rw [Array.getElem?_eq_none (by simp;omega)] at hx;cases hx
 ·intro op hop;simp at hop
 ·rintro said ⟨i,j,hij,⟨a,b,ha,_⟩,_⟩;exact hno i a ha
 ·intro op hop;simp at hop
end
end Go.Ns
namespace Go.Ns
open Go.Conc Go.ChangeShapes Go.WideShapes Go.ChangeAt Go.RowKit
section
variable {P:Program} {W:World}
theorem Wl{b off n:Nat}{cs:List Value}(h:W.cells? 0 ⟨b,off,none⟩ n=some cs)(hn:0<n):Ab (GH.of W) b off n cs.toArray:=by
 obtain ⟨_,hl,hc⟩:=World.cells?_some h;have hcell:∀i,i<n->W.cell? ⟨b,off+i,none⟩=cs[i]? :=λi hi=>by
  have:=hc i hi
  unfold Addr.add at this;split at this
  ·rename_i e;subst e;exact this
  ·exact this
 have h0:=hcell 0 hn;unfold World.cell? at h0;cases hb:W.heap[b]? with
 | none=>simp [hb,List.getElem?_eq_getElem (show 0<cs.length by omega)] at h0
 | some o=>
  cases o with
  | cells c t f=>
   have hall:∀i,i<n->c[off+i]? =cs[i]? :=λi hi=>by
    have:=hcell i hi
    unfold World.cell? at this;simpa [hb] using this
   have hlast:=hall (n-1) aA;rw [List.getElem?_eq_getElem (show n-1<cs.length by omega)] at hlast;have hsz:=(Array.getElem?_eq_some_iff.1 hlast).1;refine ⟨false,c,t,f,GH.of_some hb,aA,?_⟩;apply Array.ext
   ·simp;omega
   ·intro i h1 h2;have hi:i<n:=by simp at h2;omega
    have:=hall i hi
    rw [Array.getElem?_eq_getElem aA,List.getElem?_eq_getElem aA] at this;simpa using this
  | _=>simp [hb,List.getElem?_eq_getElem (show 0<cs.length by omega)] at h0
def Ml(P:Program)(W:World)(e:TypeId){V:Type}(enc:V->Array Value)(good:V->Prop):Prop:=
 ∀{H:Type}(en:TypeId×Value->H)(sp:Nat->Bool)(held:Bool)(fuel:Nat)(cs:List Value)(x:DataW H×List MemPlace),DataW.trod en P W 0 sp held fuel e cs=some x->(∀y ∈ x.1.weights P e,y<=reachBytes)->∃a:V,cs=(enc a).toList/\good a
theorem J2{H:Type}{e:TypeId}{d:DataW H}{y:Nat}:∀{l:List (DataW H)},d ∈ l->y ∈ d.weights P e->y ∈ DataW.weightsAll P e l
 | c ::l,hd,hy=>by
  unfold DataW.weightsAll;rcases List.mem_cons.1 hd with rfl | hd
  ·exact List.mem_append_left _ hy
  ·exact List.mem_append_right _ (J2 hd hy)
theorem Im{H:Type}{en:TypeId×Value->H}{sp:Nat->Bool}{held:Bool}{fuel:Nat}{t e:TypeId}{n:Nat}{V:Type}{enc:V->Array Value}{good:V->Prop}{v:Value}{d:DataW H}{ps:List MemPlace}(ht:P.underlying t=some (.slice e))(hc:P.cellsOf e=n)(hn:0<n)
  (hb:1<=P.bytesOf e) (ho:Ml P W e enc good) (h:DataW.trod en P W 0 sp held fuel t [v]=some (d,ps)) (hw:∀y ∈ d.weights P t,y<=reachBytes):∃xs:List V,AD (GH.of W) v n enc xs/\∀x ∈ xs,good x:=by
 rcases DataW.trod_slice ht h with ⟨h1,_⟩ | ⟨a,len,cap,elems,rest,m,rfl,h1,h2,_,hl,_,hlen,hel,_,_⟩
 ·simp at h1;subst h1;exact ⟨[],AD.nil _ _ _,λx hx=>by cases hx⟩
 ·simp only [List.cons.injEq,and_true] at h1;subst h1;simp only [Prod.mk.injEq] at h2;have hd:d=.slice (elems.map (·.1)) (rest.map (·.1)):=h2.1;have hlim:len<=140737488355328:=by
   have:=hw ((elems.map (·.1)).length+(rest.map (·.1)).length |>.mul (P.bytesOf e)) (by rw [hd];unfold DataW.weights;rw [ht];exact List.mem_cons_self ..)
   have h3:(elems.map (·.1)).length+(rest.map (·.1)).length<=((elems.map (·.1)).length+(rest.map (·.1)).length)*P.bytesOf e:=Nat.le_mul_of_pos_right _ hb;have h4:((elems.map (·.1)).length+(rest.map (·.1)).length)*P.bytesOf e<=reachBytes:=this;rw [List.length_map] at h3 h4;unfold reachBytes at h4;omega
  have each:∀i,i<len->∃x:V,∃b off,a=⟨b,off,none⟩/\Ab (GH.of W) b (off+i*n) n (enc x)/\good x:=λi hi=>by
   have:=hel i hi
   rw [List.getElem?_eq_getElem aA,hc] at this;simp only [Option.bind_eq_some_iff] at this;obtain ⟨cs,hcs,hx⟩:=this;obtain ⟨x,e1,e2⟩:=ho _ _ _ _ _ _ hx λy hy=>hw y (by rw [hd];unfold DataW.weights;rw [ht];exact List.mem_cons_of_mem _ (List.mem_append_left _ (J2 (List.mem_map.2 ⟨_,List.getElem_mem (show i<elems.length by omega),rfl⟩) hy)));have hc0:=(World.cells?_some hcs).2.2 0 hn;have hlen2:=(World.cells?_some hcs).2.1;rw [List.getElem?_eq_getElem (show 0<cs.length by omega)] at hc0;have hsp:=World.cell?_spot hc0;obtain ⟨b,off,spot⟩:=a;have hspot:spot=none\/i≠0:=by
    by_cases e0:i=0
    ·subst e0;left;simpa [Addr.add] using hsp
    ·exact .inr e0
   have hfirst:spot=none:=by
    rcases hspot with e | e
    ·exact e
    ·have h00:=hel 0 aA;rw [List.getElem?_eq_getElem aA,hc] at h00;simp only [Option.bind_eq_some_iff] at h00;obtain ⟨c0,hc00,_⟩:=h00;have z:=(World.cells?_some hc00).2.2 0 hn;have zl:=(World.cells?_some hc00).2.1;rw [List.getElem?_eq_getElem (show 0<c0.length by omega)] at z
     have:=World.cell?_spot z
     simpa [Addr.add] using this
   subst hfirst;refine ⟨x,b,off,rfl,?_,e2⟩;have ea:(Addr.add ⟨b,off,none⟩ (i*n))=⟨b,off+i*n,none⟩:=by
    unfold Addr.add;split
    ·rename_i e;rw [e];rfl
    ·rfl
   rw [ea] at hcs
   have:=Wl hcs hn
   rw [e1] at this;simpa using this
  by_cases hz:len=0
  ·subst hz;exact ⟨[],⟨some a,cap,rfl,Nat.zero_le _,Nat.zero_le _,λi hi=>by simp at hi⟩,λx hx=>by cases hx⟩
  ·have hch:∀i:Fin len,∃x:V,∃b off,a=⟨b,off,none⟩/\Ab (GH.of W) b (off+i.val*n) n (enc x)/\good x:=λi=>each i.val i.isLt;refine ⟨List.ofFn λi=>Classical.choose (hch i),⟨some a,cap,by rw [List.length_ofFn],by rw [List.length_ofFn];exact hl,by rw [List.length_ofFn];exact hlim,λi hi=>?_⟩,λx hx=>?_⟩
   ·rw [List.length_ofFn] at hi;obtain ⟨b,off,e1,e2,_⟩:=Classical.choose_spec (hch ⟨i,hi⟩);refine ⟨b,off,by rw [e1],?_⟩;rw [List.getElem_ofFn];exact e2
   ·obtain ⟨i,rfl⟩:=List.mem_ofFn.1 hx;obtain ⟨_,_,_,_,e3⟩:=Classical.choose_spec (hch i);exact e3
theorem R4{H:Type}{en:TypeId×Value->H}{t:TypeId}(hl:laidOutB P=true)(hr:P.readableRec t=true)(hrow:t<P.types.size){W':World}{v:Value}{d:DataW H}{ps:List MemPlace}(h:DataW.Trod en P W 0 (λ_=>true) true t v d ps)
  (hk:∀(b:Nat)(o:Obj),W.heap[b]? =some o->W'.heap[b]? =some o) (hlt:∀x ∈ ps,x.block<W.heap.size):DataW.Trod en P W' 0 (λb=>decide (b<W.heap.size)) true t v d ps:=by
 let W2:World:={ W' with os:=W.os,tape:=W.tape,output:=W.output };have hsz:W.heap.size<=W'.heap.size:=by
  rcases Nat.lt_or_ge W'.heap.size W.heap.size with x | x
  ·have:=hk W'.heap.size _ (Array.getElem?_eq_getElem x)
   rw [Array.getElem?_eq_none (Nat.le_refl _)] at this;cases this
  ·exact x
 have hb:Below W.heap.size W W2:=⟨rfl,rfl,rfl,hsz,λk hk'=>by
  show W'.heap[k]? =_;rw [Array.getElem?_eq_getElem hk'];exact hk k _ (Array.getElem?_eq_getElem hk')⟩
 exact DataW.Trod.of_heap (w:=W2) (w':=W') rfl (Below.trod hl hr hrow h hb hlt)
theorem kept_but{W':World}(hk:∀(b:Nat)(o:Obj),W.heap[b]? =some o->W'.heap[b]? =some o)(ho:W'.os=W.os)(hp:W'.output=W.output)(may:MemPlace->Prop):W.keptBut W' may:=by
 refine ⟨ho,hp,λi hi=>?_⟩;rw [hk i _ (Array.getElem?_eq_getElem hi),Array.getElem?_eq_getElem hi];split <;> simp_all
end
end Go.Ns
namespace Go.Ns
open Go.Conc
theorem Ps{P:Program}{E:GQ P}{O:Nat->Value}{ds:List Deferred}{h:GH}{T:(Nat->Value)->List Deferred->GH->Prop}{dst:Option Nat}{ty:TypeId}{pos:String}{af:Array Edge}{gd:Option (Nat×Bool)}{V:Type}
  {s x:TypeId} {o1 o2:Operand} {h0:GH} {w:Value} {r e n bytes:Nat} {enc:V->Array Value} {ys:List V} (ht:Ie P s x=some (e,n,bytes)) (h1:AQ O o1=.slice (some ⟨r,0,none⟩) 0 0) (h2:AQ O o2=w)
  (hv:AT h0 h (.slice (some ⟨r,0,none⟩) 0 0) e n enc ([]:List V)) (hw:AD h w n enc ys) (l0:∀q,h q=none->h0 q=none) (hb:(2*(([]:List V).length+ys.length)+512)*bytes<=2 ^ 48) (hfine:∀y ∈ ys,(enc y).toList.all (·.oneCell')=true)
  (k:∀v' h',AT h0 h' v' e n enc ys->GO h h' (.slice (some ⟨r,0,none⟩) 0 0) v'->h.Le h'->T (putS O dst v') ds h'):BX E ⟨dst,.call ⟨.builtin .append,#[o1,o2],#[s,x]⟩,ty,pos,af,gd⟩ O ds h T:=
 Ob ht h1 h2 hv hw l0 hb hfine λv' h' o g1 g2 g3=>k v' h' o ⟨g1,g2⟩ (.of λb y hb=>by
  by_cases e:b=r
  ·subst e;rcases hv with ⟨q,_⟩ | ⟨b1,cap,c,q,_,q2,q3,_⟩
   ·cases q
   ·simp only [Value.slice.injEq,Option.some.injEq,Addr.mk.injEq,and_true] at q;obtain ⟨rfl,_,rfl⟩:=q;obtain ⟨c',q5,q6⟩:=g3 b c rfl q2;rw [q2] at hb;cases hb;rw [q5,Array.eq_empty_of_size_eq_zero (show c.size=0 by omega),Array.eq_empty_of_size_eq_zero (show c'.size=0 by omega)]
  ·exact g1 b y hb λq=>e (by simpa [CX] using q.symm))
def Ha(n:Nat)(l:List Int):Prop:=l.Nodup/\∀x ∈ l,0<=x/\x<n
section
variable {n i:Nat} {l kn rest:List Int}
theorem Ha.at(h:Ha n l)(k:Nat)(hk:k<l.length):0<=l.getD k 0/\l.getD k 0<n:=h.2 _ (BQ hk)
theorem Ha.bell(h:Ha n l):Ah n l=0:=CK (k:=l.length) (λj hj=>by
 have r:=h.at j hj;have e:FC n (l.getD j 0)=0:=by unfold FC;rw [if_neg aA]
 unfold HU;rw [if_neg (λq=>q e),if_neg];intro q;obtain ⟨x,hx,e2⟩:=List.any_eq_true.1 q;have e3:l.getD j 0=x:=of_decide_eq_true e2;obtain ⟨t,ht,e4⟩:=List.mem_iff_getElem.1 hx;rw [List.length_take] at ht;rw [List.getElem_take] at e4
 have:=(List.pairwise_iff_getElem.1 (List.nodup_iff_pairwise_ne.1 h.1)) t j aA hj aA
 rw [Dm 0 hj] at e3;exact this (e4.trans e3.symm)) (Nat.le_refl _)
theorem Ha.len(h:Ha n l):l.length<=n:=Hf h.bell
theorem Ha.erase(h:Ha n l)(i:Nat):Ha n (l.eraseIdx i):=⟨h.1.sublist (List.eraseIdx_sublist ..),λx hx=>h.2 x ((List.eraseIdx_sublist ..).subset hx)⟩
theorem Ha.left(h:Ha n (kn++rest)):Ha n kn:=⟨(List.nodup_append.1 h.1).1,λx hx=>h.2 x (List.mem_append_left _ hx)⟩
theorem perm_out{l:List Int}:∀{i:Nat}(hi:i<l.length),([l[i]]++l.eraseIdx i).Perm l:=by
 induction l with
 | nil=>intro i hi;cases hi
 | cons x l ih=>
  intro i hi;cases i with
  | zero=>exact List.Perm.refl _
  | succ i=>exact (List.Perm.swap _ _ _).trans ((ih (Nat.lt_of_succ_lt_succ hi)).cons x)
theorem Ha.next(h:Ha n (kn++rest))(hi:i<rest.length):Ha n (kn++[rest.getD i 0]++rest.eraseIdx i):=by
 have p:(kn++[rest.getD i 0]++rest.eraseIdx i).Perm (kn++rest):=by
  rw [List.append_assoc];refine List.Perm.append_left kn ?_;rw [Dm 0 hi];exact perm_out hi
 exact ⟨p.nodup_iff.2 h.1,λx hx=>h.2 x (p.mem_iff.1 hx)⟩
theorem Ha.first(n:Nat):Ha n (CO n):=by
 induction n with
 | zero=>exact ⟨List.nodup_nil,λx hx=>by cases hx⟩
 | succ n ih=>
  have m:∀x ∈ CO n,0<=x/\x<(n:Int):=ih.2;refine ⟨List.nodup_append.2 ⟨ih.1,aD,λa ha b hb e=>?_⟩,λx hx=>?_⟩
  ·rw [List.mem_singleton.1 hb] at e
   have:=m a ha
   omega
  ·rcases List.mem_append.1 hx with hx | hx
   ·have:=m x hx
    omega
   ·rw [List.mem_singleton.1 hx];omega
end
def FE:Nat->Nat
 | 0=>1
 | n+1=>1+(n+1)*FE n
theorem Pu:∀n,n<=4->FE n<=65
 | 0,_=>aC
 | 1,_=>aC
 | 2,_=>aC
 | 3,_=>aC
 | 4,_=>aC
 | n+5,h=>aA
theorem Wm{n i:Nat}(hn:n<=4)(hi:i<=n):1+i*FE (n-1)<=65:=by
 rcases Nat.eq_zero_or_pos n with e | e
 ·subst e
  have:i=0:=aA
  subst this;decide
 ·have h:=Pu n hn;have e2:FE n=1+n*FE (n-1):=by
   cases n with
   | zero=>omega
   | succ n=>rfl
  have:=Nat.mul_le_mul_right (FE (n-1)) hi
  omega
theorem U3{n i:Nat}(hi:i=n){m:Nat}(h:m<=1+i*FE (n-1)):m<=FE n:=by
 subst hi;cases i with
 | zero=>simp at h;exact h
 | succ i=>exact h
def HJ(n:Nat)(xl:List Sl):Prop:=∀x ∈ xl,Ha n x.2
section
variable {n:Nat} {a b:List Sl}
theorem HJ.app(ha:HJ n a)(hb:HJ n b):HJ n (a++b):=λx hx=>(List.mem_append.1 hx).elim (ha x) (hb x)
theorem HJ.one{v:Value}{l:List Int}(h:Ha n l):HJ n [(v,l)]:=λx hx=>by rw [List.mem_singleton.1 hx];exact h
theorem HJ.at(h:HJ n a){k:Nat}(hk:k<a.length):Ha n (a.getD k Sl.z).2:=h _ (BQ hk)
end
section
variable {l:List Int} {i q:Nat}
theorem L1(hq:q<i):(l.eraseIdx i).getD q 0=l.getD q 0:=by
 rw [List.getD_eq_getElem?_getD,List.getElem?_eraseIdx,if_pos hq,<-List.getD_eq_getElem?_getD]
theorem J3(hq:i<=q):(l.eraseIdx i).getD q 0=l.getD (q+1) 0:=by
 rw [List.getD_eq_getElem?_getD,List.getElem?_eraseIdx,if_neg aA,<-List.getD_eq_getElem?_getD]
end
section
variable {bag kinds:Int} {ps:List ByteArray} {ws:List AE} {js:List AO} {ns:List AJ} {l:List Int} {p:AG} {i:Nat}
theorem Pv(np:Nat):∀q,q<=i->BZ np ws js p (l.eraseIdx i) q=BZ np ws js p l q/\DI js (l.eraseIdx i) q=DI js l q
 | 0,_=>⟨rfl,rfl⟩
 | q+1,h=>by
  have ih:=Pv np q aA;have e:=L1 (l:=l) (show q<i by omega);constructor
  ·unfold BZ;rw [ih.1,ih.2,e]
  ·show (js.getD ((l.eraseIdx i).getD q 0).toNat AO.z).place=(js.getD (l.getD q 0).toNat AO.z).place;rw [e]
theorem goNow_ge(bk:BT bag kinds ps ws js ns)(hp:B2 p)(hr:Ha js.length l)(hi:i<l.length):∀q,i<=q->q+1<=l.length->∀x,x<ps.length->
  BZ ps.length ws js p (l.eraseIdx i) q+Au ps.length ws p (DI js (l.eraseIdx i) q).toNat x<=BZ ps.length ws js p l (q+1)+Au ps.length ws p (DI js l (q+1)).toNat x:=by
 have fw:=Wf (np:=ps.length) hp (wayFine bk.way);have rng:=PN bk hr.at;intro q
 induction q with
 | zero=>
  intro h1 h2 x hx;have e0:i=0:=aA
  subst e0;have r0:=rng 0 aA;have r1:=rng 1 aA;have t:=fw.tri (DI js l 1).toNat aA (DI js l 0).toNat x aA hx;have w:=hp.works (l.getD 0 0).toNat;show BZ ps.length ws js p _ 0+Au ps.length ws p (DI js l 0).toNat x<=(BZ ps.length ws js p l 0+(Au ps.length ws p (DI js l 0).toNat (DI js l 1).toNat+p.works (l.getD 0 0).toNat))+Au ps.length ws p (DI js l 1).toNat x;show (0:Int)+_<=(0+_)+_;omega
 | succ q ih=>
  intro h1 h2 x hx;rcases Nat.lt_or_ge q i with c | c
  ·have e:q+1=i:=aA
   obtain ⟨a1,a2⟩:=Pv (ws:=ws) (js:=js) (p:=p) (l:=l) (i:=i) ps.length (q+1) aA;rw [a1,a2];have r0:=rng (q+1) aA;have r1:=rng (q+2) aA;have t:=fw.tri (DI js l (q+2)).toNat aA (DI js l (q+1)).toNat x aA hx;have w:=hp.works (l.getD (q+1) 0).toNat;show _<=(BZ ps.length ws js p l (q+1)+(Au ps.length ws p (DI js l (q+1)).toNat (DI js l (q+2)).toNat+p.works (l.getD (q+1) 0).toNat))+Au ps.length ws p (DI js l (q+2)).toNat x;omega
  ·have r2:=rng (q+2) aA;have e:=J3 (l:=l) c;have b:=ih c aA (DI js l (q+2)).toNat aA;have e2:DI js (l.eraseIdx i) (q+1)=DI js l (q+2):=by show (js.getD ((l.eraseIdx i).getD q 0).toNat AO.z).place=(js.getD (l.getD (q+1) 0).toNat AO.z).place;rw [e]
   rw [e2];show (BZ ps.length ws js p (l.eraseIdx i) q+(Au ps.length ws p (DI js (l.eraseIdx i) q).toNat (DI js (l.eraseIdx i) (q+1)).toNat+p.works ((l.eraseIdx i).getD q 0).toNat))+Au ps.length ws p (DI js l (q+2)).toNat x<=(BZ ps.length ws js p l (q+1)+(Au ps.length ws p (DI js l (q+1)).toNat (DI js l (q+2)).toNat+p.works (l.getD (q+1) 0).toNat))+Au ps.length ws p (DI js l (q+2)).toNat x;rw [e,e2];omega
theorem Wn(bk:BT bag kinds ps ws js ns)(hp:B2 p)(hr:Ha js.length l)(hi:i<l.length){k:Nat}(hk:i<=k)(hk2:k+1<l.length):BZ ps.length ws js p (l.eraseIdx i) (k+1)<=BZ ps.length ws js p l (k+2):=by
 have r2:=PN bk hr.at (k+2) aA;have b:=goNow_ge bk hp hr hi k hk aA (DI js l (k+2)).toNat aA;have e:=J3 (l:=l) hk;have e2:DI js (l.eraseIdx i) (k+1)=DI js l (k+2):=by show (js.getD ((l.eraseIdx i).getD k 0).toNat AO.z).place=(js.getD (l.getD (k+1) 0).toNat AO.z).place;rw [e]
 show BZ ps.length ws js p (l.eraseIdx i) k+(Au ps.length ws p (DI js (l.eraseIdx i) k).toNat (DI js (l.eraseIdx i) (k+1)).toNat+p.works ((l.eraseIdx i).getD k 0).toNat)<=BZ ps.length ws js p l (k+1)+(Au ps.length ws p (DI js l (k+1)).toNat (DI js l (k+2)).toNat+p.works (l.getD (k+1) 0).toNat);rw [e,e2];omega
theorem addP_all(out ps:List Int)(hl:ps.length=out.length)(j:Nat):(GM out ps ps.length).getD j 0=out.getD j 0+ps.getD j 0:=by
 rw [Lk out ps hl _ (Nat.le_refl _) j];split
 ·rfl
 ·rw [show ps.getD j 0=0 from CI aA];omega
theorem ID(bk:BT bag kinds ps ws js ns){l:List Int}{q:Nat}(hq:0<=l.getD q 0/\l.getD q 0<js.length)(j:Nat):(CH kinds js l (q+1)).getD j 0=(CH kinds js l q).getD j 0+(js.getD (l.getD q 0).toNat AO.z).parts.getD j 0:=by
 have x:=(Ku bk hq).len;exact addP_all _ _ (by rw [Hx bk q];omega) j
theorem R5:∀q,q<=i->CH kinds js (l.eraseIdx i) q=CH kinds js l q
 | 0,_=>rfl
 | q+1,h=>by unfold CH;rw [R5 q aA,L1 (show q<i by omega)]
theorem Zh(bk:BT bag kinds ps ws js ns)(hr:Ha js.length l)(j:Nat):∀q,i<=q->q+1<=l.length->(CH kinds js l (q+1)).getD j 0=(CH kinds js (l.eraseIdx i) q).getD j 0+(js.getD (l.getD i 0).toNat AO.z).parts.getD j 0:=by
 intro q
 induction q with
 | zero=>
  intro h1 h2;have e0:i=0:=aA
  subst e0;rw [ID bk (hr.at 0 aA) j];rfl
 | succ q ih=>
  intro h1 h2;rcases Nat.lt_or_ge q i with c | c
  ·have e:q+1=i:=aA
   rw [ID bk (hr.at (q+1) aA) j,R5 (q+1) aA,e]
  ·have g:=J3 (l:=l) c;rw [ID bk (hr.at (q+1) aA) j,ih c aA,ID bk (by rw [g];exact hr.at (q+1) aA) j,g];omega
theorem Zi(bk:BT bag kinds ps ws js ns)(hr:Ha js.length l)(hi:i<l.length)(j:Nat):(Cs kinds js l).getD j 0=(Cs kinds js (l.eraseIdx i)).getD j 0+(js.getD (l.getD i 0).toNat AO.z).parts.getD j 0:=by
 have e:(l.eraseIdx i).length=l.length-1:=List.length_eraseIdx_of_lt hi
 have:=Zh bk hr j (l.length-1) (i:=i) aA aA
 unfold Cs;rw [e]
 rwa [show l.length-1+1=l.length by omega] at this
theorem sum_le:∀(a b:List Int),a.length=b.length->(∀j,a.getD j 0<=b.getD j 0)->a.sum<=b.sum
 | [],[],_,_=>Int.le_refl _
 | x ::a,y ::b,h,k=>by
  have h0:x<=y:=k 0;have h1:=sum_le a b (by simpa using h) λj=>k (j+1);rw [List.sum_cons,List.sum_cons];omega
 | [],y ::b,h,_=>by cases h
 | x ::a,[],h,_=>by cases h
end
section
variable {F G:AG->Int} {l:List AG}
theorem Zj(h:0<l.length)(e:∀x ∈ l,F x<=G x):CY F l<=CY G l:=by
 obtain ⟨y,hy,e2⟩:=Pq (F:=G) h
 have:=Tc (F:=F) hy
 have:=e y hy
 omega
theorem Zk(h:0<l.length)(e:∀x ∈ l,F x<=G x):BG F l<=BG G l:=by
 obtain ⟨x,hx,e1⟩:=Pr (F:=F) h
 have:=Td (F:=G) hx
 have:=e x hx
 omega
end
section
variable {bag kinds:Int} {ps:List ByteArray} {ws:List AE} {js:List AO} {ns:List AJ} {l:List Int} {i k:Nat}
theorem end_lt(h:0<(AC ws js ns).length)(hk:k<i):Ri ps.length ws js (AC ws js ns) (l.eraseIdx i) k=Ri ps.length ws js (AC ws js ns) l k/\PO ps.length ws js (AC ws js ns) (l.eraseIdx i) k=PO ps.length ws js (AC ws js ns) l k:=
 have e:∀x ∈ AC ws js ns,BZ ps.length ws js x (l.eraseIdx i) (k+1)=BZ ps.length ws js x l (k+1):=λx _=>(Pv ps.length (k+1) aA).1
 ⟨Wh h e,Wi h e⟩
theorem end_ge(bk:BT bag kinds ps ws js ns)(h:0<(AC ws js ns).length)(hr:Ha js.length l)(hi:i<l.length)(hk:i<=k)(hk2:k+1<l.length) :
  Ri ps.length ws js (AC ws js ns) (l.eraseIdx i) k<=Ri ps.length ws js (AC ws js ns) l (k+1)/\PO ps.length ws js (AC ws js ns) (l.eraseIdx i) k<=PO ps.length ws js (AC ws js ns) l (k+1):=
 have e:∀x ∈ AC ws js ns,BZ ps.length ws js x (l.eraseIdx i) (k+1)<=BZ ps.length ws js x l (k+2):=λx hx=>Wn bk (GB bk x hx) hr hi hk hk2
 ⟨Zj h e,Zk h e⟩
theorem R6(bk:BT bag kinds ps ws js ns)(h:0<(AC ws js ns).length)(hr:Ha js.length l)(hi:i<l.length)(hs:By ps.length ws js (AC ws js ns) l bag kinds=true):By ps.length ws js (AC ws js ns) (l.eraseIdx i) bag kinds=true:=by
 have el:(l.eraseIdx i).length=l.length-1:=List.length_eraseIdx_of_lt hi;unfold By at hs ⊢;rw [Bool.and_eq_true] at hs ⊢;refine ⟨decide_eq_true ?_,List.all_eq_true.2 λk hk=>?_⟩
 ·have a:=of_decide_eq_true hs.1;have b:=sum_le (Cs kinds js (l.eraseIdx i)) (Cs kinds js l) (by rw [Kw bk,Kw bk]) λj=>by
   have:=Zi bk hr hi j
   have:=(Ku bk (hr.at i hi)).part j
   omega
  omega
 ·have hk':=List.mem_range.1 hk;have a:=λk hk=>of_decide_eq_true (List.all_eq_true.1 hs.2 k (List.mem_range.2 hk));refine decide_eq_true ?_;rcases Nat.lt_or_ge k i with c | c
  ·rw [(end_lt h c).2,L1 c];exact a k aA
  ·have e:=(end_ge bk h hr hi c aA).2
   have:=a (k+1) aA
   rw [J3 c];omega
end
end Go.Ns
namespace Go.Ns
section
variable {bag kinds:Int} {ps:List ByteArray} {ws:List AE} {js:List AO} {ns:List AJ} {r l:List Int} {i k:Nat} {s:Int}
end
end Go.Ns
namespace Go.Ns
theorem Wo{a b:List Int}{k:Nat}(hk:k<=a.length)(hkb:k<=b.length)(h:¬((k:Int)<a.length/\(k:Int)<b.length)):(Dd a b (a.length-k) k<0)↔(a.length:Int)<b.length:=by
 by_cases hA:(k:Int)<a.length
 ·rw [GZ aA,if_pos aA];omega
 ·rw [Jm (k:=k) hA];split <;> omega
theorem Zl{a b:List Int}{k:Nat}(hk:k<a.length)(hkb:k<b.length)(h:¬a.getD k 0=b.getD k 0):(Dd a b (a.length-k) k<0)↔a.getD k 0<b.getD k 0:=by
 rw [GZ hk,if_neg aA];unfold HQ;split
 ·simp_all
 ·split <;> simp_all <;> omega
theorem Zm{a b:List Int}{k:Nat}(hk:k<a.length)(hkb:k<b.length)(h:¬¬a.getD k 0=b.getD k 0):Dd a b (a.length-k) k=Dd a b (a.length-(k+1)) (k+1):=by
 have e:=Decidable.not_not.1 h;rw [GZ hk,if_neg aA,if_neg (by unfold HQ;rw [e];simp)]
section
variable {a b c:List Int} {x y:Int}
theorem L2(x y:Int)(a b:List Int):∀f k,Dd (x ::a) (y ::b) f (k+1)=Dd a b f k
 | 0,k=>by
  unfold Dd;by_cases h:(a.length:Int)<b.length
  ·rw [if_pos h,if_pos (by simp only [List.length_cons];omega)]
  ·rw [if_neg h,if_neg (by simp only [List.length_cons];omega)]
 | f+1,k=>by
  unfold Dd;rw [L2 x y a b f (k+1)];by_cases h:(b.length:Int)<=(k:Int)
  ·rw [if_pos h,if_pos (by simp only [List.length_cons];omega)]
  ·rw [if_neg h,if_neg (by simp only [List.length_cons];omega)];rfl
theorem Mm(x y:Int)(a b:List Int):E8 (x ::a) (y ::b)=if¬HQ x y=0 then HQ x y else E8 a b:=by
 show Dd (x ::a) (y ::b) (a.length+1) 0=_;unfold Dd;rw [if_neg (by simp only [List.length_cons];omega),L2];rfl
theorem cmpL_nil(b:List Int):E8 [] b<0↔b≠[]:=by
 cases b with
 | nil=>exact ⟨λh=>absurd h aC,λh=>absurd rfl h⟩
 | cons y b=>
  refine ⟨λ_=>aD,λ_=>?_⟩;show (if ((([]:List Int).length:Nat):Int)<((y ::b).length:Nat) then (-1:Int) else 0)<0;rw [if_pos (by simp only [List.length_cons,List.length_nil];omega)];decide
theorem R7(x:Int)(a:List Int):¬E8 (x ::a) []<0:=by
 show¬Dd (x ::a) [] (a.length+1) 0<0
 unfold Dd;rw [if_pos aD];decide
theorem Mn:∀(a b:List Int),E8 a b<0->¬E8 b a<0
 | [],[],h=>absurd h aC
 | [],y ::b,_=>R7 y b
 | x ::a,[],h=>absurd h (R7 x a)
 | x ::a,y ::b,h=>by
  rw [Mm] at h ⊢;have ih:=Mn a b;by_cases h1:x<y
  ·rw [show HQ y x=1 by unfold HQ;rw [if_neg aA,if_pos h1],if_pos aC];decide
  ·by_cases h2:y<x
   ·rw [show HQ x y=1 by unfold HQ;rw [if_neg h1,if_pos h2],if_pos aC] at h;exact absurd h aC
   ·rw [show HQ x y=0 by unfold HQ;rw [if_neg h1,if_neg h2],if_neg aC] at h;rw [show HQ y x=0 by unfold HQ;rw [if_neg h2,if_neg h1],if_neg aC];exact ih h
theorem U4(a:List Int):¬E8 a a<0:=λh=>Mn a a h h
theorem U5(l:List Int):∀{a b:List Int},E8 a b<0->E8 (l++a) (l++b)<0:=by
 induction l with
 | nil=>exact λh=>h
 | cons x l ih=>
  intro a b h;show E8 (x ::(l++a)) (x ::(l++b))<0;rw [Mm,if_neg (by unfold HQ;simp)];exact ih h
theorem cmpL_lt(h:x<y)(a b:List Int):E8 (x ::a) (y ::b)<0:=by
 rw [Mm,show HQ x y= -1 by unfold HQ;rw [if_pos h],if_pos aC];decide
end
section
variable {jobs l r:List Int} {f n:Nat}
theorem JN:∀(f:Nat)(l:List Int),∀r ∈ BK jobs f l,∃s,r=l++s
 | 0,l,r,h=>⟨[],by rw [List.mem_singleton.1 h];simp⟩
 | f+1,l,r,h=>by
  rcases List.mem_cons.1 h with e | h
  ·exact ⟨[],by rw [e];simp⟩
  ·obtain ⟨k,_,h⟩:=List.mem_flatMap.1 h;split at h
   ·cases h
   ·obtain ⟨s,e⟩:=JN f _ r h;exact ⟨k ::s,by rw [e];simp⟩
theorem U6{l:List Int}{k:Int}:HW l k=true↔k ∈ l:=by
 unfold HW;rw [List.any_eq_true];exact ⟨λ⟨x,hx,e⟩=>by rw [of_decide_eq_true e];exact hx,λh=>⟨k,h,decide_eq_true rfl⟩⟩
theorem Pw(hj:∀x ∈ jobs,0<=x/\x<(n:Int)):∀(f:Nat)(l:List Int),Ha n l->∀r ∈ BK jobs f l,Ha n r
 | 0,l,hl,r,h=>by rw [List.mem_singleton.1 h];exact hl
 | f+1,l,hl,r,h=>by
  rcases List.mem_cons.1 h with e | h
  ·rw [e];exact hl
  ·obtain ⟨k,hk,h⟩:=List.mem_flatMap.1 h;split at h
   ·cases h
   ·rename_i c
    refine Pw hj f (l++[k]) ⟨List.nodup_append.2 ⟨hl.1,aD,λa ha b hb e=>?_⟩,λx hx=>?_⟩ r h
    ·rw [List.mem_singleton.1 hb] at e;exact c (U6.2 (e▸ha))
    ·rcases List.mem_append.1 hx with hx | hx
     ·exact hl.2 x hx
     ·rw [List.mem_singleton.1 hx];exact hj k hk
theorem Px(hj:∀x:Int,0<=x->x<(n:Int)->x ∈ jobs):∀(s l:List Int)(f:Nat),s.length<=f->Ha n (l++s)->l++s ∈ BK jobs f l
 | [],l,f,_,_=>by rw [List.append_nil,FR];exact List.mem_cons_self
 | k ::s,l,0,h,_=>absurd h aD
 | k ::s,l,f+1,h,hv=>by
  have e:l++k ::s=(l++[k])++s:=aD
  have hk:=hv.2 k aD;refine List.mem_cons_of_mem _ (List.mem_flatMap.2 ⟨k,hj k hk.1 hk.2,?_⟩);have hn:¬HW l k=true:=λq=>by
   have d:=List.nodup_append.1 hv.1;exact d.2.2 k (U6.1 q) k List.mem_cons_self rfl
  rw [if_neg hn,e];exact Px hj s (l++[k]) f (by simp at h;omega) (by rw [<-e];exact hv)
theorem P0(hj:jobs.Pairwise (· < ·)):∀(f:Nat)(l:List Int),(BK jobs f l).Pairwise λa b=>E8 a b<0
 | 0,l=>List.pairwise_singleton _ _
 | f+1,l=>by
  refine List.pairwise_cons.2 ⟨λr hr=>?_,?_⟩
  ·obtain ⟨k,_,h⟩:=List.mem_flatMap.1 hr;split at h
   ·cases h
   ·obtain ⟨s,e⟩:=JN f _ r h;rw [e,List.append_assoc]
    have:=U5 l (a:=[]) (b:=[k]++s) ((cmpL_nil _).2 aD)
    rwa [List.append_nil] at this
  ·rw [List.pairwise_flatMap];refine ⟨λk _=>?_,hj.imp λ{k k'} hk x hx y hy=>?_⟩
   ·split
    ·exact List.Pairwise.nil
    ·exact P0 hj f _
   ·split at hx
    ·cases hx
    ·split at hy
     ·cases hy
     ·obtain ⟨s,e⟩:=JN f _ x hx;obtain ⟨t,e2⟩:=JN f _ y hy;rw [e,e2,List.append_assoc,List.append_assoc];exact U5 l (cmpL_lt hk s t)
theorem P1:∀(n:Nat)(x:Int),0<=x->x<(n:Int)->x ∈ CO n
 | 0,x,h0,h1=>aA
 | n+1,x,h0,h1=>by
  by_cases e:x<(n:Int)
  ·exact List.mem_append_left _ (P1 n x h0 e)
  ·exact List.mem_append_right _ (List.mem_singleton.2 aA)
theorem P2:∀n,(CO n).Pairwise (· < ·)
 | 0=>List.Pairwise.nil
 | n+1=>List.pairwise_append.2 ⟨P2 n,List.pairwise_singleton _ _,λa ha b hb=>by rw [List.mem_singleton.1 hb];exact (JD ha).2⟩
theorem Wp(h:Ha n r):r ∈ C5 (CO n):=by
 have:=Px (P1 n) r [] (CO n).length (by rw [C4];exact h.len) h
 exact this
theorem all_val(h:r ∈ C5 (CO n)):Ha n r:=Pw (λ_ hx=>JD hx) _ [] ⟨List.nodup_nil,λx hx=>by cases hx⟩ r h
end
structure U7(g pre:List (List Int)):Prop where
 sub:g.Sublist pre
 le:∀y ∈ g,∀z ∈ pre,z.length<=y.length
 eq:∀y ∈ g,∀z ∈ pre,z.length=y.length->z ∈ g
 ne:pre≠[]->g≠[]
section
variable {g pre:List (List Int)} {x:List Int}
theorem U7.step(h:U7 g pre):U7 (Ey g x) (pre++[x]):=by
 have hd:0<g.length->g.getD 0 [] ∈ g:=λq=>BQ q;have same:∀y ∈ g,∀z ∈ g,y.length=z.length:=λy hy z hz=>by
  have:=h.le y hy z (h.sub.subset hz)
  have:=h.le z hz y (h.sub.subset hy)
  omega
 by_cases h0:g.length=0
 ·have e:g=[]:=List.eq_nil_of_length_eq_zero h0;have ep:pre=[]:=Decidable.byContradiction λq=>h.ne q e;have es:Ey g x=[x]:=by
   unfold Ey JI;rw [if_neg (λq=>aA)];unfold JJ;rw [if_pos (.inl h0),e];rfl
  rw [es,ep];exact ⟨List.Sublist.refl _,λy hy z hz=>by rw [List.mem_singleton.1 hy,List.mem_singleton.1 hz];exact Nat.le_refl _,λy _ z hz _=>hz,λ_=>aD⟩
 ·have hm:=hd aA;by_cases h1:(g.getD 0 []).length<x.length
  ·have es:Ey g x=[x]:=by
    unfold Ey JI;rw [if_pos ⟨aA,h1⟩];rfl
   rw [es];have lt:∀z ∈ pre,z.length<x.length:=λz hz=>Nat.lt_of_le_of_lt (h.le _ hm z hz) h1;refine ⟨List.sublist_append_right _ _,λy hy z hz=>?_,λy hy z hz e=>?_,λ_=>aD⟩
   ·rw [List.mem_singleton.1 hy];rcases List.mem_append.1 hz with hz | hz
    ·exact Nat.le_of_lt (lt z hz)
    ·rw [List.mem_singleton.1 hz];exact Nat.le_refl _
   ·rw [List.mem_singleton.1 hy] at e;rcases List.mem_append.1 hz with hz | hz
    ·have:=lt z hz;omega
    ·exact hz
  ·have ec:JI g x=g:=if_neg (λq=>h1 q.2);by_cases h2:x.length=(g.getD 0 []).length
   ·have es:Ey g x=g++[x]:=by
     unfold Ey;rw [ec];unfold JJ;rw [if_pos (.inr h2)]
    rw [es];have sx:∀y ∈ g++[x],y.length=x.length:=λy hy=>by
     rcases List.mem_append.1 hy with hy | hy
     ·rw [same y hy _ hm,h2]
     ·rw [List.mem_singleton.1 hy]
    refine ⟨h.sub.append (List.Sublist.refl _),λy hy z hz=>?_,λy hy z hz e=>?_,λ_=>aD⟩
    ·rw [sx y hy];rcases List.mem_append.1 hz with hz | hz
     ·rw [h2];exact h.le _ hm z hz
     ·rw [List.mem_singleton.1 hz];exact Nat.le_refl _
    ·rcases List.mem_append.1 hz with hz | hz
     ·exact List.mem_append_left _ (h.eq _ hm z hz (by rw [e,sx y hy,h2]))
     ·exact List.mem_append_right _ hz
   ·have es:Ey g x=g:=by
     unfold Ey;rw [ec];unfold JJ;rw [if_neg];rintro (q | q) <;> omega
    rw [es];refine ⟨h.sub.trans (List.sublist_append_left _ _),λy hy z hz=>?_,λy hy z hz e=>?_,λ_ q=>h0 (by rw [q];rfl)⟩
    ·rcases List.mem_append.1 hz with hz | hz
     ·exact h.le y hy z hz
     ·rw [List.mem_singleton.1 hz,same y hy _ hm];omega
    ·rcases List.mem_append.1 hz with hz | hz
     ·exact h.eq y hy z hz e
     ·rw [List.mem_singleton.1 hz,same y hy _ hm] at e;exact absurd e h2
theorem goodI{l:List (List Int)}:∀k,k<=l.length->U7 (JK l k) (l.take k)
 | 0,_=>⟨List.Sublist.refl _,λy hy=>(by cases hy),λy hy=>(by cases hy),λh=>absurd rfl h⟩
 | k+1,h=>by
  have ih:=(goodI (l:=l) k aA).step (x:=l.getD k []);rw [Du [] (show k<l.length by omega)];exact ih
theorem P3(l:List (List Int)):U7 (JK l l.length) l:=by
 have:=goodI (l:=l) l.length (Nat.le_refl _)
 rwa [List.take_length] at this
end
section
variable {G:List Int->Int} {l:List (List Int)}
theorem Zn{k:Nat}:(l.drop 1).getD k []=l.getD (k+1) []:=by
 rw [List.getD_eq_getElem?_getD,List.getElem?_drop,<-List.getD_eq_getElem?_getD,Nat.add_comm]
theorem P4:∀k,∃i,i<=k/\(DE G l k).1=l.getD i []/\(DE G l k).2=G (l.getD i [])/\∀j,j<=k->G (l.getD i [])<=G (l.getD j [])/\(j<i->G (l.getD i [])<G (l.getD j []))
 | 0=>⟨0,Nat.le_refl _,rfl,rfl,λj hj=>by rw [show j=0 by omega];exact ⟨Int.le_refl _,λq=>absurd q (Nat.lt_irrefl _)⟩⟩
 | k+1=>by
  obtain ⟨i,h1,h2,h3,h4⟩:=P4 k;unfold DE;rw [Zn];split
  ·rename_i c
   rw [h3] at c;refine ⟨k+1,Nat.le_refl _,rfl,rfl,λj hj=>?_⟩;by_cases e:j=k+1
   ·subst e;exact ⟨Int.le_refl _,λq=>absurd q (Nat.lt_irrefl _)⟩
   ·have:=(h4 j aA).1
    exact ⟨aA,λ_=>aA⟩
  ·rename_i c
   rw [h3] at c;refine ⟨i,aA,h2,h3,λj hj=>?_⟩;by_cases e:j=k+1
   ·subst e;exact ⟨aA,λq=>aA⟩
   ·exact h4 j aA
theorem Wq(hl:l.Pairwise λa b=>E8 a b<0){r:List Int}(hr:r ∈ l):G (Cu G l)<=G r/\(G (Cu G l)=G r->¬E8 r (Cu G l)<0):=by
 obtain ⟨i,h1,h2,_,h4⟩:=P4 (G:=G) (l:=l) (l.length-1);obtain ⟨j,hj,e⟩:=List.mem_iff_getElem.1 hr;have e2:l.getD j []=r:=by rw [List.getD_eq_getElem?_getD,List.getElem?_eq_getElem hj];exact e
 have hq:=h4 j aA;rw [e2] at hq;unfold Cu;rw [h2];refine ⟨hq.1,λq c=>?_⟩;have hi:i<l.length:=aA
 have ei:l.getD i []=l[i]:=by rw [List.getD_eq_getElem?_getD,List.getElem?_eq_getElem hi];rfl
 rcases Nat.lt_trichotomy j i with z | z | z
 ·have:=hq.2 z;omega
 ·subst z;rw [e2] at c;exact U4 _ c
 ·have:=(List.pairwise_iff_getElem.1 hl) i j hi hj z
  rw [ei,<-e] at c;exact Mn _ _ this c
end
end Go.Ns
namespace Go.Ns
section
variable {c:HH} {q i:Nat} {x:Int}
theorem JO:∀{q:Nat}{x:Int},x ∈ Ds c q↔∃i:Nat,i<q/\x=(i:Int)/\c i=false
 | 0,x=>⟨λh=>(by cases h),λ⟨i,h,_⟩=>absurd h (Nat.not_lt_zero _)⟩
 | q+1,x=>by
  unfold Ds;split
  ·rename_i e
   rw [JO (q:=q)];exact ⟨λ⟨i,h,r⟩=>⟨i,aA,r⟩,λ⟨i,h,r⟩=>by
    rcases Nat.lt_or_ge i q with z | z
    ·exact ⟨i,z,r⟩
    ·rw [show i=q by omega,e] at r;exact absurd r.2 aD⟩
  ·rename_i e
   rw [List.mem_append,JO (q:=q),List.mem_singleton];refine ⟨λh=>?_,λ⟨i,h,r⟩=>?_⟩
   ·rcases h with ⟨i,h,r⟩ | h
    ·exact ⟨i,aA,r⟩
    ·exact ⟨q,Nat.lt_succ_self _,h,by simpa using e⟩
   ·rcases Nat.lt_or_ge i q with z | z
    ·exact .inl ⟨i,z,r⟩
    ·exact .inr (by rw [r.1,show i=q by omega])
theorem K0(c:HH):∀q,(Ds c q).Pairwise (· < ·)
 | 0=>List.Pairwise.nil
 | q+1=>by
  unfold Ds;split
  ·exact K0 c q
  ·refine List.pairwise_append.2 ⟨K0 c q,List.pairwise_singleton _ _,λa ha b hb=>?_⟩;obtain ⟨i,h1,h2,_⟩:=JO.1 ha;rw [List.mem_singleton.1 hb];omega
theorem U8{l:List Int}:∀k,k<=l.length->(Ph c l k i=true↔c i=true\/∃j,j<k/\(l.getD j 0).toNat=i)
 | 0,_=>⟨.inl,λh=>h.elim id λ⟨j,h,_⟩=>absurd h (Nat.not_lt_zero _)⟩
 | k+1,h=>by
  have ih:=U8 (l:=l) k aA;unfold Ph HH.set;by_cases e:i=(l.getD k 0).toNat
  ·rw [if_pos e];exact ⟨λ_=>.inr ⟨k,Nat.lt_succ_self _,e.symm⟩,λ_=>rfl⟩
  ·rw [if_neg e,ih];refine ⟨λh=>h.imp id λ⟨j,h,r⟩=>⟨j,aA,r⟩,λh=>h.imp id λ⟨j,h,r⟩=>⟨j,?_,r⟩⟩;rcases Nat.lt_or_ge j k with z | z
   ·exact z
   ·rw [show j=k by omega] at r;exact absurd r.symm e
theorem U9{ls:List (List Int)}:∀k,k<=ls.length->(FS ls k i=true↔∃l ∈ ls.take k,∃j,j<l.length/\(l.getD j 0).toNat=i)
 | 0,_=>⟨λh=>(by cases h),λ⟨l,h,_⟩=>(by cases h)⟩
 | k+1,h=>by
  have ih:=U9 (ls:=ls) k aA;unfold FS;rw [U8 _ (Nat.le_refl _),ih,Du [] (show k<ls.length by omega)];refine ⟨λh=>?_,λ⟨l,hl,r⟩=>?_⟩
  ·rcases h with ⟨l,hl,r⟩ | r
   ·exact ⟨l,List.mem_append_left _ hl,r⟩
   ·exact ⟨_,List.mem_append_right _ (List.mem_singleton.2 rfl),r⟩
  ·rcases List.mem_append.1 hl with hl | hl
   ·exact .inl ⟨l,hl,r⟩
   ·rw [List.mem_singleton.1 hl] at r;exact .inr r
end
section
variable {bag kinds:Int} {ps:List ByteArray} {ws:List AE} {js:List AO} {ns:List AJ} {r:List Int} {k:Nat} {x:Int}
theorem P5(bk:BT bag kinds ps ws js ns)(h:0<(AC ws js ns).length):∀(n:Nat)(y:List Int),y.length=n+1->Ha js.length y->By ps.length ws js (AC ws js ns) y bag kinds=true->∀x ∈ y,By ps.length ws js (AC ws js ns) [x] bag kinds=true
 | 0,y,hl,_,hs,x,hx=>by
  match y,hl with
  | [z],_=>rw [List.mem_singleton.1 hx];exact hs
 | n+1,y,hl,hv,hs,x,hx=>by
  obtain ⟨j,hj,e⟩:=List.mem_iff_getElem.1 hx;have ex:y.getD j 0=x:=by rw [Dm 0 hj];exact e
  by_cases h0:j=0
  ·subst h0;have el:(y.eraseIdx 1).length=y.length-1:=List.length_eraseIdx_of_lt aA;refine P5 bk h n _ aA (hv.erase 1) (R6 bk h hv aA hs) x ?_;rw [<-ex,<-L1 (l:=y) (show 0<1 by decide)];exact BQ aA
  ·have el:(y.eraseIdx 0).length=y.length-1:=List.length_eraseIdx_of_lt aA;refine P5 bk h n _ aA (hv.erase 0) (R6 bk h hv aA hs) x ?_;rw [<-ex,show j=(j-1)+1 by omega,<-J3 (l:=y) (Nat.zero_le (j-1))];exact BQ aA
variable (bag kinds ps ws js ns) in
def DU:List (List Int):=Ge ps.length ws js (AC ws js ns) bag kinds
theorem G4:r ∈ DU bag kinds ps ws js ns↔Ha js.length r/\By ps.length ws js (AC ws js ns) r bag kinds=true:=by
 unfold DU Ge;rw [List.mem_filter];exact ⟨λh=>⟨all_val h.1,h.2⟩,λh=>⟨Wp h.1,h.2⟩⟩
theorem L3(h0:AK bag kinds ps ws js ns 0=0)(hr:Ha js.length r):Bt bag kinds ps ws js ns r=By ps.length ws js (AC ws js ns) r bag kinds:=by
 unfold Bt;rw [hr.bell];exact if_neg (λe=>e h0)
theorem VA(h0:AK bag kinds ps ws js ns 0=0):Av bag kinds ps ws js ns=Cu (λl=>BG (λx=>AV ps.length ws js x l) (AC ws js ns)) (JK (DU bag kinds ps ws js ns) (DU bag kinds ps ws js ns).length):=if_neg (λe=>e h0)
theorem Yb(hz:BV bag kinds ps ws js ns=0)(h0:AK bag kinds ps ws js ns 0=0):Av bag kinds ps ws js ns ∈ JK (DU bag kinds ps ws js ns) (DU bag kinds ps ws js ns).length:=by
 rw [VA h0];have p:0<(DU bag kinds ps ws js ns).length:=Pf (Cn hz).hbag.1
 have:=(P3 (DU bag kinds ps ws js ns)).ne (λq=>by rw [q] at p;exact absurd p (Nat.lt_irrefl _))
 exact WW (List.length_pos_iff.2 this)
theorem best_val(hz:BV bag kinds ps ws js ns=0)(h0:AK bag kinds ps ws js ns 0=0):Ha js.length (Av bag kinds ps ws js ns)/\By ps.length ws js (AC ws js ns) (Av bag kinds ps ws js ns) bag kinds=true:=
 G4.1 ((P3 _).sub.subset (Yb hz h0))
theorem best_top(hz:BV bag kinds ps ws js ns=0)(h0:AK bag kinds ps ws js ns 0=0)(hr:Ha js.length r)(hs:Bt bag kinds ps ws js ns r=true):r.length<=(Av bag kinds ps ws js ns).length/\(r.length=(Av bag kinds ps ws js ns).length->
  DZ (AK bag kinds ps ws js ns 0) (BG (λx=>AV ps.length ws js x (Av bag kinds ps ws js ns)) (AC ws js ns))<=DZ (AK bag kinds ps ws js ns 0) (BG (λx=>AV ps.length ws js x r) (AC ws js ns))/\
  (DZ (AK bag kinds ps ws js ns 0) (BG (λx=>AV ps.length ws js x (Av bag kinds ps ws js ns)) (AC ws js ns))=DZ (AK bag kinds ps ws js ns 0) (BG (λx=>AV ps.length ws js x r) (AC ws js ns))->¬E8 r (Av bag kinds ps ws js ns)<0)):=by
 have g:=P3 (DU bag kinds ps ws js ns);have hm:r ∈ DU bag kinds ps ws js ns:=G4.2 ⟨hr,by rw [<-L3 h0 hr];exact hs⟩;have b:=Yb hz h0;refine ⟨g.le _ b r hm,λe=>?_⟩;have hg:=g.eq _ b r hm e;rw [h0];simp only [Ll];have asc:(JK (DU bag kinds ps ws js ns) (DU bag kinds ps ws js ns).length).Pairwise λa b=>E8 a b<0:=
  (List.Pairwise.filter _ (P0 (P2 js.length) (CO js.length).length [])).sublist g.sub
 have:=Wq (G:=λl=>BG (λx=>AV ps.length ws js x l) (AC ws js ns)) asc hg
 rwa [<-VA h0] at this
theorem R8(h0:¬AK bag kinds ps ws js ns 0=0):(Av bag kinds ps ws js ns).length=0/\(Be bag kinds ps ws js ns).length=0:=by
 unfold Av Be;rw [if_pos h0,if_pos h0];exact ⟨rfl,rfl⟩
theorem R9(h0:AK bag kinds ps ws js ns 0=0):Be bag kinds ps ws js ns=Ds (FS (DU bag kinds ps ws js ns) (DU bag kinds ps ws js ns).length) js.length:=if_neg (λe=>e h0)
theorem Mp(h0:AK bag kinds ps ws js ns 0=0):x ∈ Be bag kinds ps ws js ns↔(0<=x/\x<js.length)/\∀l ∈ DU bag kinds ps ws js ns,¬x ∈ l:=by
 have key:∀i:Nat,FS (DU bag kinds ps ws js ns) (DU bag kinds ps ws js ns).length i=true↔∃l ∈ DU bag kinds ps ws js ns,(i:Int) ∈ l:=λi=>by
  rw [U9 _ (Nat.le_refl _),List.take_length];refine ⟨λ⟨l,hl,j,hj,e⟩=>⟨l,hl,?_⟩,λ⟨l,hl,hm⟩=>?_⟩
  ·have q:=(G4.1 hl).1.at j hj;rw [show (i:Int)=l.getD j 0 by omega];exact BQ hj
  ·obtain ⟨j,hj,e⟩:=List.mem_iff_getElem.1 hm;exact ⟨l,hl,j,hj,by rw [Dm 0 hj,e];exact Int.toNat_natCast i⟩
 rw [R9 h0,JO];refine ⟨λ⟨i,h1,h2,h3⟩=>⟨aA,λl hl hm=>?_⟩,λ⟨h1,h2⟩=>⟨x.toNat,aA,aA,?_⟩⟩
 ·rw [h2] at hm
  have:=(key i).2 ⟨l,hl,hm⟩
  rw [h3] at this;cases this
 ·refine Bool.eq_false_iff.2 λe=>?_;obtain ⟨l,hl,hm⟩:=(key _).1 e;rw [Int.toNat_of_nonneg h1.1] at hm;exact h2 l hl hm
theorem Zo(i:Nat)(hi:i<(Be bag kinds ps ws js ns).length):(0<=(Be bag kinds ps ws js ns).getD i 0/\(Be bag kinds ps ws js ns).getD i 0<=(js.length:Int)-1)/\(0<i->(Be bag kinds ps ws js ns).getD ((i:Int)-1).toNat 0<(Be bag kinds ps ws js ns).getD i 0):=by
 by_cases h0:AK bag kinds ps ws js ns 0=0
 ·have m:=(Mp h0).1 (BQ (d:=(0:Int)) hi);refine ⟨aA,λhp=>?_⟩;have a:=K0 (FS (DU bag kinds ps ws js ns) (DU bag kinds ps ws js ns).length) js.length;rw [<-R9 h0] at a
  have:=(List.pairwise_iff_getElem.1 a) (i-1) i aA hi aA
  rw [show ((i:Int)-1).toNat=i-1 by omega,Dm 0 hi,Dm 0 (show i-1<_ by omega)];exact this
 ·have:=(R8 h0).2;omega
theorem Mq(h0:AK bag kinds ps ws js ns 0=0)(hr:Ha js.length r)(hs:Bt bag kinds ps ws js ns r=true)(hk:k<r.length):¬r.getD k 0 ∈ Be bag kinds ps ws js ns:=λh=>
 ((Mp h0).1 h).2 r (G4.2 ⟨hr,by rw [<-L3 h0 hr];exact hs⟩) (BQ hk)
theorem Zp(hz:BV bag kinds ps ws js ns=0)(h0:AK bag kinds ps ws js ns 0=0)(h:0<(AC ws js ns).length)(hr:Ha js.length r)(h1:r.length=1):(Bt bag kinds ps ws js ns r==decide (r.getD 0 0 ∈ Be bag kinds ps ws js ns))=false:=by
 cases hs:Bt bag kinds ps ws js ns r with
 | true=>rw [decide_eq_false (Mq h0 hr hs (k:=0) aA)];rfl
 | false=>
  have:r.getD 0 0 ∈ Be bag kinds ps ws js ns:=(Mp h0).2 ⟨hr.at 0 aA,λl hl hm=>by
   have q:=G4.1 hl;have p:0<l.length:=List.length_pos_of_mem hm;have s:=P5 (Cn hz) h (l.length-1) l aA q.1 q.2 _ hm;have e:r=[r.getD 0 0]:=by
    match r,h1 with
    | [z],_=>rfl
   rw [L3 h0 hr,e] at hs;rw [hs] at s;cases s⟩
  rw [decide_eq_true this];rfl
theorem Wr(hz:BV bag kinds ps ws js ns=0)(h0:AK bag kinds ps ws js ns 0=0)(h:0<(AC ws js ns).length)(hr:Ha js.length r)(hk:k<r.length) :
  ((Bt bag kinds ps ws js ns r && decide (r.getD k 0 ∈ Be bag kinds ps ws js ns)) || (decide ((r.length:Int)=1) && (Bt bag kinds ps ws js ns r==decide (r.getD 0 0 ∈ Be bag kinds ps ws js ns))))=false:=by
 have a:(Bt bag kinds ps ws js ns r && decide (r.getD k 0 ∈ Be bag kinds ps ws js ns))=false:=by
  cases hs:Bt bag kinds ps ws js ns r with
  | false=>rfl
  | true=>rw [decide_eq_false (Mq h0 hr hs hk)];rfl
 rw [a,Bool.false_or];by_cases e:(r.length:Int)=1
 ·rw [Zp hz h0 h hr aA,Bool.and_false]
 ·rw [decide_eq_false e,Bool.false_and]
end
end Go.Ns
namespace Go.Ns
open Go.Conc
universe u
theorem Z{V:Sort u}{a:V}:a=a:=rfl
theorem Lr{h:GH}:GH.Le h h:=GH.Le.refl h
theorem Ln{h h':GH}(l:h.Le h'){r:Nat}(hr:h' r=none):h r=none:=l.nothing hr
theorem Cd{h:GH}{b r:Nat}{p:Bool}{o:Obj}(hb:h b=some (p,o))(hr:h r=none):b≠r:=GH.ne_of hb hr
theorem Nb{a b:Nat}(h:Nat.ble a b=true):a<=b:=Nat.le_of_ble_eq_true h
theorem Dn{p:Prop}[Decidable p](h:¬¬p):p:=Decidable.not_not.1 h
theorem Et{V:Sort u}{a b c:V}(x:a=b)(y:b=c):a=c:=x.trans y
theorem Kl{h0 h:GH}(k:KeepD (λb=>h0 b=none) h0 h):h0.Le h:=k.leOf
theorem Bx{h:GH}{b:Nat}{p:Bool}{c:Array Value}{t:TypeId}{f:Nat×Nat}(hb:h b=some (p,.cells c t f)){n:Nat}(hn:c.size=n):Ab h b 0 n c:=Ab.box hb hn
abbrev lE(v:Value):Law2:=λ_ u _=>u=v
abbrev lF(v:Value):RL:=λu _=>u=v
abbrev zP:Array Value:=#[.int .i64 0,.int .i64 0,.slice none 0 0,.slice none 0 0,.slice none 0 0,.slice none 0 0,.map none]
section
variable {P:Program} {E:GQ P} {O:Nat->Value} {ds:List Deferred} {h:GH} {Q:Post} {T:(Nat->Value)->List Deferred->GH->Prop}
variable {dst:Option Nat} {ty:TypeId} {pos:String} {af:Array Edge} {ops:Array Oper} {o:Oper} {l:List Oper}
theorem Sq{x y:Code}(a:Tr E x O ds h (λe σ' ds' h'=>match e with | .normal=>Tr E y σ' ds' h' Q | e=>Q e σ' ds' h')):Tr E (.seq x y) O ds h Q:=tr_seq a
theorem Rg{id:Nat}{l:List Oper}(a:DO E l.toArray l O ds h Q):Tr E (.region id l.toArray false) O ds h Q:=Yk a
theorem Nl(q:Q .normal O ds h):DO E ops [] O ds h Q:=trL_nil q
abbrev Rt:=@tr_ret
abbrev Bk:=@tr_block
abbrev Sk:=@tr_skip
abbrev Xt:=@tr_exit
def plainB(N:Nat)(o:Oper):Bool:=o.guard.isNone && !C1 o.op && Cz o.dst N
theorem Pl(hp:plainB E.N o=true)(x:BX E o O ds h λσ' ds' h'=>DO E ops l σ' ds' h' Q):DO E ops (o ::l) O ds h Q:=by
 simp only [plainB,Bool.and_eq_true,Option.isNone_iff_eq_none,Bool.not_eq_true'] at hp;exact GS hp.1.1 hp.1.2 hp.2 x
theorem Mv{x:Operand}(v:Value)(hp:Cz dst E.N=true)(hx:AQ O x=v)(k:DO E ops l (putS O dst v) ds h Q):DO E ops (⟨dst,.move x,ty,pos,af,none⟩ ::l) O ds h Q:=GS rfl rfl hp (E4 hx k)
theorem As{x:Operand}(v:Value)(hp:Cz dst E.N=true)(hx:AQ O x=v)(k:DO E ops l (putS O dst v) ds h Q):DO E ops (⟨dst,.assign x,ty,pos,af,none⟩ ::l) O ds h Q:=GS rfl rfl hp (MJ hx k)
theorem Ld{t:TypeId}{x:Operand}{b off:Nat}(v:Value)(hp:Cz dst E.N=true)(hx:AQ O x=.pointer (some ⟨b,off,none⟩))(hr:Rd P h t b off v)(k:DO E ops l (putS O dst v) ds h Q):DO E ops (⟨dst,.load t x,ty,pos,af,none⟩ ::l) O ds h Q:=
 GS rfl rfl hp (Cm hx hr k)
theorem Fa{s:TypeId}{x:Operand}{f o b off:Nat}(hf:Dx P s f=some o)(hp:Cz dst E.N=true)(hx:AQ O x=.pointer (some ⟨b,off,none⟩))(k:DO E ops l (putS O dst (.pointer (some ⟨b,off+o,none⟩))) ds h Q) :
  DO E ops (⟨dst,.fieldAddr s x f,ty,pos,af,none⟩ ::l) O ds h Q:=GS rfl rfl hp (AN hf hx k)
theorem Pk{c a b:Operand}(t:Bool)(v:Value)(hp:Cz dst E.N=true)(hc:AQ O c=.bool t)(hv:(if t then AQ O a else AQ O b)=v)(k:DO E ops l (putS O dst v) ds h Q):DO E ops (⟨dst,.pick c a b,ty,pos,af,none⟩ ::l) O ds h Q:=
 GS rfl rfl hp (At hc hv k)
theorem Ad{xt yt:TypeId}{x y:Operand}(a b:Int)(hp:Cz dst E.N=true)(hx:AQ O x=.int .i64 a)(hy:AQ O y=.int .i64 b)(hr: -9223372036854775808<=a+b/\a+b<=9223372036854775807)(k:DO E ops l (putS O dst (.int .i64 (a+b))) ds h Q) :
  DO E ops (⟨dst,.binOp .add xt x y yt,ty,pos,af,none⟩ ::l) O ds h Q:=GS rfl rfl hp (DP hx hy hr k)
def skipB(N:Nat)(ops:Array Oper)(o:Oper)(j d:Nat)(is:Bool):Bool:=(match o.guard with
 | some (i,w)=>i==j && w !=is
 | none=>false) && (match ops[j]? with
 | some oj=>(match oj.dst with
  | some e=>e==d
  | none=>false)
 | none=>false) && Nat.blt d N && Cz o.dst N
theorem Gs(j d:Nat){is:Bool}(hv:O d=.bool is)(hs:skipB E.N ops o j d is=true)(x:DO E ops l (putS O o.dst undef) ds h Q):DO E ops (o ::l) O ds h Q:=by
 simp only [skipB,Bool.and_eq_true] at hs;obtain ⟨⟨⟨h1,h2⟩,h3⟩,h4⟩:=hs;cases hg:o.guard with
 | none=>rw [hg] at h1;cases h1
 | some q=>
  obtain ⟨i,w⟩:=q;rw [hg] at h1;simp only [Bool.and_eq_true,beq_iff_eq,bne_iff_ne,ne_eq] at h1;obtain ⟨rfl,hne⟩:=h1;cases hj:ops[i]? with
  | none=>rw [hj] at h2;cases h2
  | some oj=>
   cases hd:oj.dst with
   | none=>simp [hj,hd] at h2
   | some e=>
    obtain rfl:e=d:=by simpa [hj,hd] using h2
    exact OS hg hj hd hv h3 hne h4 x
def goB(N:Nat)(ops:Array Oper)(o:Oper)(j d:Nat)(is:Bool):Bool:=(match o.guard with
 | some (i,w)=>i==j && w==is
 | none=>false) && (match ops[j]? with
 | some oj=>(match oj.dst with
  | some e=>e==d
  | none=>false)
 | none=>false) && Nat.blt d N && !C1 o.op && Cz o.dst N
theorem Gg(j d:Nat){is:Bool}(hv:O d=.bool is)(hs:goB E.N ops o j d is=true)(x:BX E o O ds h λσ' ds' h'=>DO E ops l σ' ds' h' Q):DO E ops (o ::l) O ds h Q:=by
 simp only [goB,Bool.and_eq_true,Bool.not_eq_true'] at hs;obtain ⟨⟨⟨⟨h1,h2⟩,h3⟩,h5⟩,h4⟩:=hs;cases hg:o.guard with
 | none=>rw [hg] at h1;cases h1
 | some q=>
  obtain ⟨i,w⟩:=q;rw [hg] at h1;simp only [Bool.and_eq_true,beq_iff_eq] at h1;obtain ⟨rfl,rfl⟩:=h1;cases hj:ops[i]? with
  | none=>rw [hj] at h2;cases h2
  | some oj=>
   cases hd:oj.dst with
   | none=>simp [hj,hd] at h2
   | some e=>
    obtain rfl:e=d:=by simpa [hj,hd] using h2
    exact trL_opg hg hj hd hv h3 (.inr h5) h4 x
end
section
variable {S:Nat->Prop} {Pre:Nat->GH->Prop} {Φ:List Law2} {cl:List Nat} {k d:Nat} {h h':GH} {O:Nat->Value} {ds:List Deferred} {v:Value}
theorem fL{Φ:List RL}(p:LP Φ k v h):ds=ds/\GH.Le h h/\∃w,putS O (some d) v=putS O (some d) w/\LP Φ k w h:=⟨rfl,GH.Le.refl _,_,rfl,p⟩
theorem K1{R:GH->GH->Prop}{Φ:List RL}{a:Value}(x:F1 R Φ):F1 R (lF a ::Φ):=⟨λ_ _ _ _ y=>y,x⟩
theorem K2{R:GH->GH->Prop}{Φ:List RL}{a b:Value}(x:F1 R Φ):F1 R (lF a ::lF b ::Φ):=K1 (K1 x)
theorem K4{R:GH->GH->Prop}{Φ:List RL}{a b c d:Value}(x:F1 R Φ):F1 R (lF a ::lF b ::lF c ::lF d ::Φ):=K2 (K2 x)
theorem K8{R:GH->GH->Prop}{Φ:List RL}{a b c d a' b' c' d':Value}(x:F1 R Φ):F1 R (lF a ::lF b ::lF c ::lF d ::lF a' ::lF b' ::lF c' ::lF d' ::Φ):=K4 (K4 x)
end
end Go.Ns
namespace Go.Ns
open Go.Conc
section
variable {P:Program} {E:GQ P} {O:Nat->Value} {ds:List Deferred} {h:GH} {Q:Post} {T:(Nat->Value)->List Deferred->GH->Prop}
variable {dst:Option Nat} {ty:TypeId} {pos:String} {af:Array Edge} {ops:Array Oper} {o:Oper} {l:List Oper} {gd:Option (Nat×Bool)}
theorem Mz{x:Operand}(v:Value)(e:(Cz dst E.N,AQ O x)=(true,v))(k:DO E ops l (putS O dst v) ds h Q):DO E ops (⟨dst,.move x,ty,pos,af,none⟩ ::l) O ds h Q:=Mv v (congrArg Prod.fst e) (congrArg Prod.snd e) k
theorem Az{x:Operand}(v:Value)(e:(Cz dst E.N,AQ O x)=(true,v))(k:DO E ops l (putS O dst v) ds h Q):DO E ops (⟨dst,.assign x,ty,pos,af,none⟩ ::l) O ds h Q:=As v (congrArg Prod.fst e) (congrArg Prod.snd e) k
theorem Lz{t:TypeId}{x:Operand}{b off:Nat}(v:Value)(e:(Cz dst E.N,AQ O x)=(true,.pointer (some ⟨b,off,none⟩)))(hr:Rd P h t b off v)(k:DO E ops l (putS O dst v) ds h Q):DO E ops (⟨dst,.load t x,ty,pos,af,none⟩ ::l) O ds h Q:=
 Ld v (congrArg Prod.fst e) (congrArg Prod.snd e) hr k
theorem Fz{s:TypeId}{x:Operand}{f o b off:Nat}(hf:Dx P s f=some o)(e:(Cz dst E.N,AQ O x)=(true,.pointer (some ⟨b,off,none⟩)))(k:DO E ops l (putS O dst (.pointer (some ⟨b,off+o,none⟩))) ds h Q) :
  DO E ops (⟨dst,.fieldAddr s x f,ty,pos,af,none⟩ ::l) O ds h Q:=Fa hf (congrArg Prod.fst e) (congrArg Prod.snd e) k
theorem Pz{c a b:Operand}(t:Bool)(v:Value)(e:(Cz dst E.N,AQ O c,(if t then AQ O a else AQ O b))=(true,.bool t,v))(k:DO E ops l (putS O dst v) ds h Q):DO E ops (⟨dst,.pick c a b,ty,pos,af,none⟩ ::l) O ds h Q:=
 Pk t v (congrArg Prod.fst e) (congrArg (λq=>q.2.1) e) (congrArg (λq=>q.2.2) e) k
theorem Yd{xt yt:TypeId}{x y:Operand}{a b:Int}(e:(Cz dst E.N,AQ O x,AQ O y)=(true,.int .i64 a,.int .i64 b))(hr: -9223372036854775808<=a+b/\a+b<=9223372036854775807)(k:DO E ops l (putS O dst (.int .i64 (a+b))) ds h Q) :
  DO E ops (⟨dst,.binOp .add xt x y yt,ty,pos,af,none⟩ ::l) O ds h Q:=Ad a b (congrArg Prod.fst e) (congrArg (λq=>q.2.1) e) (congrArg (λq=>q.2.2) e) hr k
theorem Mo{x:Operand}(v:Value)(hx:AQ O x=v)(k:T (putS O dst v) ds h):BX E ⟨dst,.move x,ty,pos,af,gd⟩ O ds h T:=E4 hx k
theorem Lo{t:TypeId}{x:Operand}{b off:Nat}(v:Value)(hx:AQ O x=.pointer (some ⟨b,off,none⟩))(hr:Rd P h t b off v)(k:T (putS O dst v) ds h):BX E ⟨dst,.load t x,ty,pos,af,gd⟩ O ds h T:=Cm hx hr k
theorem Ex{x:Operand}{n:Nat}{vs:Array Value}(v:Value)(e:(AQ O x,vs[n]?)=(.tuple vs,some v))(k:T (putS O dst v) ds h):BX E ⟨dst,.extract x n,ty,pos,af,gd⟩ O ds h T:=Vp (congrArg Prod.fst e) (congrArg Prod.snd e) k
theorem Bo{t:TypeId}{x:Operand}{v:Value}(c:Array Value)(hx:AQ O x=v)(hc:v.cells=c)
  (k:∀r h',h r=none->h.Le h'->h' r=some (true,.cells c t (0,0))->(∀b,b≠r->h' b=h b)->T (putS O dst (.pointer (some ⟨r,0,none⟩))) ds h'):BX E ⟨dst,.box t x,ty,pos,af,gd⟩ O ds h T:=Sn hx hc k
theorem So{t:TypeId}{a x:Operand}{b off n:Nat}{g:Bool}{c:Array Value}{et:TypeId}(v:Value)(c':Array Value)(ht:Ce P t=some (g,n))(e:(AQ O a,AQ O x)=(.pointer (some ⟨b,off,none⟩),v))(hb:h b=some (true,.cells c et (0,0)))
  (e2:(v.cells.size,Value.fine v)=(n,true)) (hn:off+n<=c.size) (hc:B1 c off v.cells.toList=c') (k:∀h',h' b=some (true,.cells c' et (0,0))->(∀x,x≠b->h' x=h x)->T (putS O dst undef) ds h') :
  BX E ⟨dst,.store t a x,ty,pos,af,gd⟩ O ds h T:=Al ht (congrArg Prod.fst e) (congrArg Prod.snd e) hb (congrArg Prod.fst e2) (congrArg Prod.snd e2) hn hc k
theorem Ot{fn:Func}{R:Value->GH->Prop}{t:Tmp}(v:Value)(e:(fn.results,O t)=(#[.tmp t],v))(x:R v h):GR P fn O R [] h:=H6 (congrArg Prod.fst e) (congrArg Prod.snd e) x
theorem Ou{fn:Func}{R:Value->GH->Prop}{t u:Tmp}(v v':Value)(e:(fn.results,O t,O u)=(#[.tmp t,.tmp u],v,v'))(x:R (.tuple #[v,v']) h):GR P fn O R [] h:=outs2 (congrArg Prod.fst e) (congrArg (λq=>q.2.1) e) (congrArg (λq=>q.2.2) e) x
theorem Sr{id:Nat}{y:Code}(a:DO E l.toArray l O ds h (λe σ' ds' h'=>match e with | .normal=>Tr E y σ' ds' h' Q | e=>Q e σ' ds' h')):Tr E (.seq (.region id l.toArray false) y) O ds h Q:=Sq (Rg a)
theorem S2{id:Nat}{y z:Code}(a:DO E l.toArray l O ds h (λe σ' ds' h'=>match e with | .normal=>Tr E y σ' ds' h' (λe σ' ds' h'=>match e with | .normal=>Tr E z σ' ds' h' Q | e=>Q e σ' ds' h') | e=>(λe σ' ds' h'=>match e with | .normal=>Tr E z σ' ds' h' Q | e=>Q e σ' ds' h') e σ' ds' h')) :
  Tr E (.seq (.seq (.region id l.toArray false) y) z) O ds h Q:=Sq (Sq (Rg a))
theorem Zr{V:Type}{a b:V}:a=b\/a=a:=.inr rfl
theorem M2{x x':Operand}{dst':Option Nat}{ty':TypeId}{pos':String}{af':Array Edge}(v v':Value)(e:(Cz dst E.N,AQ O x,Cz dst' E.N,AQ (putS O dst v) x')=(true,v,true,v'))(k:DO E ops l (putS (putS O dst v) dst' v') ds h Q):DO E ops (⟨dst,.move x,ty,pos,af,none⟩ ::⟨dst',.move x',ty',pos',af',none⟩ ::l) O ds h Q:=
 Mv v (congrArg Prod.fst e) (congrArg (λq=>q.2.1) e) (Mv v' (congrArg (λq=>q.2.2.1) e) (congrArg (λq=>q.2.2.2) e) k)
theorem A2{x x':Operand}{dst':Option Nat}{ty':TypeId}{pos':String}{af':Array Edge}(v v':Value)(e:(Cz dst E.N,AQ O x,Cz dst' E.N,AQ (putS O dst v) x')=(true,v,true,v'))(k:DO E ops l (putS (putS O dst v) dst' v') ds h Q):DO E ops (⟨dst,.assign x,ty,pos,af,none⟩ ::⟨dst',.assign x',ty',pos',af',none⟩ ::l) O ds h Q:=
 As v (congrArg Prod.fst e) (congrArg (λq=>q.2.1) e) (As v' (congrArg (λq=>q.2.2.1) e) (congrArg (λq=>q.2.2.2) e) k)
theorem Ct{W:Wk P}{f:FuncId}{fn:Func}{c:Code}{args:Array Value}{R:Value->GH->Prop}(hf:P.funcs[f]? =some fn)(e:(fn.body,Nat.ble args.size fn.ntmps)=(some c,true))
  (x:Tr ⟨W,f,none,fn.ntmps⟩ c (λi=>args.getD i undef) [] h (λe O ds h'=>(e=.normal\/e=.ret)/\GR P fn O R ds h')):AX W f args h R:=Vo hf (congrArg Prod.fst e) (Nat.le_of_ble_eq_true (congrArg Prod.snd e)) x
end
section
variable {P:Program} {E:GQ P} {l:List Oper} {n:Nat} {fl:Bool} {hs:GH} {ds:List Deferred} {Lw:Nat->Value->GH->Prop} {F:(Nat->Value)->GH->Prop} {π:List Nat} {O:Nat->Value} {h:GH} {m k g d:Nat} {dst:Option Nat} {op:Op} {ty:TypeId} {pos:String} {af:Array Edge} {v:Value} {w is:Bool} {og:Oper}
theorem Rz(e:(KZ m,l[k]?)=((.r,k),some ⟨dst,op,ty,pos,af,none⟩))(x:Sw E ⟨dst,op,ty,pos,af,none⟩ O ds h v)(y:TD E l n fl hs ds Lw F (dK π) (putS O dst v) h):TD E l n fl hs ds Lw F (dK (m ::π)) O h:=tR (congrArg Prod.fst e) (congrArg Prod.snd e) x y
theorem Rm{x:Operand}(v:Value)(e:(KZ m,l[k]?,AQ O x)=((.r,k),some ⟨dst,.move x,ty,pos,af,none⟩,v))(y:TD E l n fl hs ds Lw F (dK π) (putS O dst v) h):TD E l n fl hs ds Lw F (dK (m ::π)) O h:=
 tR (congrArg Prod.fst e) (congrArg (λq=>q.2.1) e) (E4 (congrArg (λq=>q.2.2) e) vz) y
theorem Rl{t:TypeId}{x:Operand}{b off:Nat}(v:Value)(e:(KZ m,l[k]?,AQ O x)=((.r,k),some ⟨dst,.load t x,ty,pos,af,none⟩,.pointer (some ⟨b,off,none⟩)))(hr:Rd P h t b off v)(y:TD E l n fl hs ds Lw F (dK π) (putS O dst v) h):TD E l n fl hs ds Lw F (dK (m ::π)) O h:=
 tR (congrArg Prod.fst e) (congrArg (λq=>q.2.1) e) (Cm (congrArg (λq=>q.2.2) e) hr vz) y
theorem Py(e:(KZ m,l[k]?)=((.p,k),some ⟨dst,op,ty,pos,af,none⟩))(x:∀hx,Sw E ⟨dst,op,ty,pos,af,none⟩ O ds hx v)(y:TD E l n fl hs ds Lw F (dK π) (putS O dst v) h):TD E l n fl hs ds Lw F (dK (m ::π)) O h:=tP (congrArg Prod.fst e) (congrArg Prod.snd e) x y
theorem Ry(e:(KZ m,l[k]?,l[g]?,og.dst)=((.r,k),some ⟨dst,op,ty,pos,af,some (g,w)⟩,some og,some d))(h3:O d=.bool w)(x:Sw E ⟨dst,op,ty,pos,af,some (g,w)⟩ O ds h v)
  (y:TD E l n fl hs ds Lw F (dK π) (putS O dst v) h):TD E l n fl hs ds Lw F (dK (m ::π)) O h:=tRg (congrArg Prod.fst e) (congrArg (λq=>q.2.1) e) (congrArg (λq=>q.2.2.1) e) (congrArg (λq=>q.2.2.2) e) h3 x y
theorem Sz{kd:Kd}(e:(KZ m,l[k]?,l[g]?,og.dst)=((kd,k),some ⟨dst,op,ty,pos,af,some (g,w)⟩,some og,some d))(h3:O d=.bool is)(hne:(is==w)=false)
  (y:TD E l n fl hs ds Lw F (dK π) (putS O dst undef) h) (hl:(kd !=Kd.l)=true:=by rfl):TD E l n fl hs ds Lw F (dK (m ::π)) O h:=tS (congrArg Prod.fst e) (congrArg (λq=>q.2.1) e) (congrArg (λq=>q.2.2.1) e) (congrArg (λq=>q.2.2.2) e) h3 hne y hl
end
end Go.Ns
namespace Go.Ns
open Go.Conc
abbrev J(x:Int):Value:=.int .i64 x
abbrev Pt(b:Nat):Value:=.pointer (some ⟨b,0,none⟩)
abbrev Sc(b:Nat)(n c:Nat):Value:=.slice (some ⟨b,0,none⟩) n c
abbrev Qc:Array Value:=#[J 0,J 0,.slice none 0 0,.slice none 0 0,.slice none 0 0,.slice none 0 0,.slice none 0 0,.map none]
abbrev Qd(a:List AE)(b:List AO)(c:List AJ)(d:Nat):Array Value:=#[J (((AC a b c).getD (((d:Int)-1).toNat) AG.zero).ways 0),J (((AC a b c).getD (((d:Int)-1).toNat) AG.zero).ways 1),J (((AC a b c).getD (((d:Int)-1).toNat) AG.zero).ways 2),J (((AC a b c).getD (((d:Int)-1).toNat) AG.zero).ways 3),J (((AC a b c).getD (((d:Int)-1).toNat) AG.zero).ways 4)]
abbrev Qe(a:List AE)(b:List AO)(c:List AJ)(d:Nat):Array Value:=#[J (((AC a b c).getD d AG.zero).ways 0),J (((AC a b c).getD d AG.zero).ways 1),J (((AC a b c).getD d AG.zero).ways 2),J (((AC a b c).getD d AG.zero).ways 3),J (((AC a b c).getD d AG.zero).ways 4)]
abbrev Qf(a:List AE)(b:Nat):Array Value:=#[J ((a.getD b AE.z).a),J ((a.getD b AE.z).b),J ((a.getD b AE.z).low),J ((a.getD b AE.z).high)]
abbrev Qg(a:ByteArray)(b:Nat):=decide (¬(((97<=((bytesOf a).getD b 0))/\(((bytesOf a).getD b 0)<=122))\/(((0<(b:Int))/\(48<=((bytesOf a).getD b 0)))/\(((bytesOf a).getD b 0)<=57))))
abbrev Qh(a:Int):=KR (KR a (FK a 13)) ((KR a (FK a 13)) / 128)
abbrev Qi:Value:=.slice none 0 0
abbrev Qj(a:List AJ)(b:Nat):Array Value:=#[(a.getD b AJ.z).wv,J ((a.getD b AJ.z).low),J ((a.getD b AJ.z).high)]
abbrev Qk(a:ByteArray)(b:Nat):=(bytesOf a).getD b 0
abbrev Ql(a:List AO)(b:Nat):=decide ((¬(((0<=((a.getD b AO.z).low)/\((a.getD b AO.z).low)<=((a.getD b AO.z).high))/\((a.getD b AO.z).high)<=30)/\((a.getD b AO.z).high)-((a.getD b AO.z).low)<2))\/(¬(0<=((a.getD b AO.z).due)/\((a.getD b AO.z).due)<=200)))
abbrev Qm(a:List AE)(b:Nat):=(a.getD b AE.z).b
abbrev Qn(a:List AO)(b:Nat):Array Value:=#[J ((a.getD b AO.z).place),J ((a.getD b AO.z).low),J ((a.getD b AO.z).high),J ((a.getD b AO.z).due),(a.getD b AO.z).pv]
abbrev Qo(a:List AG)(b:Nat):=(a.drop (1)).getD b AG.zero
abbrev Qp(a:List Value)(b:Array Int)(c:Nat)(d:Nat):=Bn a ((b.setIfInBounds c (b[d]!)).setIfInBounds d (b[c]!))
abbrev Qq(a:Nat)(b:Array Int)(c:Nat):=Sc a b.size c
abbrev Qr(a:List AE)(b:Nat):=(a.getD b AE.z).a
abbrev Qs(a:List ByteArray)(b:List AE)(c:List AO)(d:List AJ):=decide ((((20<(a.length:Int))\/(20<(b.length:Int)))\/(20<(c.length:Int)))\/(20<(d.length:Int)))
abbrev Qt(a:Int)(b:Int):=decide ((¬(0<=a/\a<=9))\/(¬(0<=b/\b<=3)))
abbrev Qu(a:Int)(b:Int):Value:=.bool (decide (a<=b))
abbrev Qv(a:List AE)(b:List AO)(c:List AJ)(d:Nat):Value:=.agg (Ag ((AC a b c).getD d AG.zero))
abbrev Qw(a:Int)(b:Int)(c:Int)(d:Int):=decide ((((0<=a)/\(a<=b))/\(b<=c))/\((b-a)<d))
abbrev Qx(a:List ByteArray)(b:List AE)(c:Nat):=J (B7 a.length [(b.getD c AE.z).a,(b.getD c AE.z).b])
abbrev Qy(a:Nat)(b:Nat)(c:Array Int)(d:Nat):=decide (((a:Int)<=(b:Int))/\(¬((c[b]!)<(c[d]!))))
abbrev Qz(a:List AG):=a.getD 0 AG.zero
abbrev Vi(a:List AO)(b:List Int):=Ah a.length b
abbrev Q11(a:List AO)(b:List Int)(c:Int):=(a.getD ((b.getD (c.toNat) 0).toNat) AO.z).due
abbrev Nt(a:List Int)(b:Nat):=J (a.getD b 0)
abbrev Yc(a:List ByteArray)(b:Int)(c:Int):=B7 a.length [b,c]
abbrev Q14(a:List AJ)(b:Nat):Array Value:=#[J ((a.getD b AJ.z).low),J ((a.getD b AJ.z).high)]
abbrev Ye(a:List AO)(b:Int):=FC a.length b
abbrev Q16(a:List AE)(b:Nat):Array Value:=#[J ((a.getD b AE.z).low),J ((a.getD b AE.z).high)]
abbrev Q17(a:List AO)(b:Nat):Array Value:=#[J ((a.getD b AO.z).low),J ((a.getD b AO.z).high)]
abbrev Q18(a:List AJ)(b:Nat)(c:Nat):=((a.getD b AJ.z).ways).getD c 0
abbrev Q19(a:Int)(b:Int):=decide (((0<=a/\a<=b)/\b<=30)/\((b-a)<2))
abbrev Q1a(a:List Value)(b:Array Int)(c:Nat)(d:Nat):=Bn a (b.setIfInBounds c (b[d]!))
abbrev Q1b(a:Nat):=J ((2*(a:Int))+1)
abbrev Q1c(a:Nat)(b:Int)(c:Array Int)(d:Nat):=decide (((((2*(a:Int))+1)+1)<b)/\((c[(d+((2*a)+1))]!)<(c[((d+((2*a)+1))+1)]!)))
abbrev Q1d(a:List AO)(b:List Int)(c:Int):=Ew a.length b c
abbrev Q1e(a:Int)(b:Int)(c:Int):=decide ((a<=b)/\(b<=c))
abbrev Q1f(a:Nat)(b:Nat):Value:=.bool (decide ((a:Int)<=(b:Int)))
abbrev Q1g(a:Nat)(b:Nat):=J ((a:Int)-(b:Int))
abbrev Q1h(a:Int)(b:Int)(c:Int)(d:Int):=decide (((a<=b)/\(b<=c))/\(c<=d))
abbrev Q1i(a:Nat)(b:Nat)(c:Array Int):=decide (((a:Int)<(b:Int))/\((c[b]!)<(c[((b:Int)-1).toNat]!)))
abbrev Q1j(a:List AO)(b:Nat):=(a.getD b AO.z).due
abbrev Q1k(a:List AJ)(b:Nat):=(a.getD b AJ.z).wv
abbrev Q1l:Array Value:=#[J 0,J 0,.slice none 0 0,.slice none 0 0,.slice none 0 0,.slice none 0 0]
abbrev Q1m(a:Nat):=J (((2*(a:Int))+1)+1)
abbrev Q1n(a:Nat)(b:Array Int)(c:Nat):=decide ((0<(a:Int))/\(¬((b[((a:Int)-1).toNat]!)<(b[c]!))))
abbrev Q1o(a:ByteArray):=decide (((a.size:Int)<1)\/(10<(a.size:Int)))
abbrev Q1p(a:List AO)(b:Nat):=(a.getD b AO.z).high
abbrev Q1q(a:Int):=decide ((97<=a)/\(a<=122))
abbrev VB(a:Int)(b:Int)(c:Value)(d:Value)(e:Value)(f:Value):Array Value:=#[.agg #[J a,J b,c,d,e,f]]
abbrev Q1s(a:Array Int)(b:Nat)(c:Nat):=decide (¬((a[b]!)<(a[c]!)))
abbrev Q1t(a:Nat)(b:List Int)(c:List Int):=decide (((a:Int)<(b.length:Int))/\((a:Int)<(c.length:Int)))
abbrev Q1u(a:Int):=decide (¬(0<=a/\a<=3))
abbrev Q1v(a:List Int)(b:Nat)(c:List Int):=J (HQ (a.getD b 0) (c.getD b 0))
abbrev Q1w(a:List Sl)(b:Nat):=((a.drop (1)).getD b Sl.z).1
abbrev Q1x(a:Int):=decide ((48<=a)/\(a<=57))
abbrev Q1y(a:Nat):Value:=.func (.func 90) #[] #[Pt a]
abbrev Q1z(a:Nat):Value:=.func (.func 77) #[] #[Pt a]
abbrev Q20(a:List AO)(b:Nat):=(a.getD b AO.z).low
abbrev Q21:=Ag AG.zero
abbrev Q22(a:Nat)(b:Nat):Value:=.func (.func 46) #[] #[Pt a,Pt b]
abbrev Q23(a:Nat)(b:Nat):Value:=.func (.func 82) #[] #[Pt a,Pt b]
abbrev Q24(a:List AO)(b:List Int)(c:Nat):=J (FC a.length (b.getD c 0))
end Go.Ns
namespace Go.Ns
open Go.Conc Go.Proofs Go.Proofs.Tryz
theorem EY:Ie prog 106 106=some (42,1,24):=aB
theorem VC:Ie prog 22 22=some (9,1,16):=aB
theorem VD:Ie prog 23 23=some (39,4,32):=aB
theorem VE:Ie prog 24 24=some (54,5,56):=aB
theorem J4:Ie prog 25 25=some (83,3,40):=aB
theorem Ca:Ie prog 42 42=some (3,1,8):=aB
theorem VF:Ie prog 45 45=some (31,2,16):=aB
theorem VG:Ie prog 89 89=some (101,9,72):=aB
theorem Zq:arrOf prog 136=some (5,false,1):=aB
theorem EZ:NE prog 118=some (4,1):=aB
theorem FF:NE prog 157=some (4,4):=aB
theorem In:NE prog 98=some (5,1):=aB
theorem EV:NE prog 99=some (4,1):=aB
theorem fx_bt3:Lh prog 3=some 8:=aB
theorem fx_bt4:Lh prog 4=some 1:=aB
theorem Io:AM Tryz.f10=true:=aB
theorem Ws:AM Tryz.f100=true:=aB
theorem Wt:AM Tryz.f101=true:=aB
theorem K3:AM Tryz.f102=true:=aB
theorem P6:AM Tryz.f103=true:=aB
theorem Wu:AM Tryz.f104=true:=aB
theorem Wv:AM Tryz.f105=true:=aB
theorem P7:AM Tryz.f106=true:=aB
theorem JP:AM Tryz.f107=true:=aB
theorem K5:AM Tryz.f108=true:=aB
theorem P8:AM Tryz.f109=true:=aB
theorem SA:AM Tryz.f11=true:=aB
theorem P9:AM Tryz.f110=true:=aB
theorem QA:AM Tryz.f111=true:=aB
theorem JQ:AM Tryz.f112=true:=aB
theorem QB:AM Tryz.f113=true:=aB
theorem K6:AM Tryz.f114=true:=aB
theorem Ww:AM Tryz.f115=true:=aB
theorem Wx:AM Tryz.f116=true:=aB
theorem Wy:AM Tryz.f117=true:=aB
theorem Wz:AM Tryz.f118=true:=aB
theorem QC:AM Tryz.f119=true:=aB
theorem Zs:AM Tryz.f12=true:=aB
theorem W0:AM Tryz.f120=true:=aB
theorem W1:AM Tryz.f121=true:=aB
theorem W3:AM Tryz.f122=true:=aB
theorem W4:AM Tryz.f123=true:=aB
theorem W5:AM Tryz.f124=true:=aB
theorem Cx:AM Tryz.f125=true:=aB
theorem W6:AM Tryz.f126=true:=aB
theorem W7:AM Tryz.f127=true:=aB
theorem W8:AM Tryz.f129=true:=aB
theorem FG:AM Tryz.f13=true:=aB
theorem W9:AM Tryz.f130=true:=aB
theorem QD:AM Tryz.f131=true:=aB
theorem XA:AM Tryz.f132=true:=aB
theorem XB:AM Tryz.f133=true:=aB
theorem K7:AM Tryz.f134=true:=aB
theorem QE:AM Tryz.f135=true:=aB
theorem K9:AM Tryz.f136=true:=aB
theorem Zt:AM Tryz.f14=true:=aB
theorem Zu:AM Tryz.f15=true:=aB
theorem XC:AM Tryz.f153=true:=aB
theorem XD:AM Tryz.f154=true:=aB
theorem XE:AM Tryz.f155=true:=aB
theorem XF:AM Tryz.f156=true:=aB
theorem XG:AM Tryz.f157=true:=aB
theorem XH:AM Tryz.f158=true:=aB
theorem XI:AM Tryz.f159=true:=aB
theorem Zv:AM Tryz.f16=true:=aB
theorem XJ:AM Tryz.f160=true:=aB
theorem XK:AM Tryz.f161=true:=aB
theorem XL:AM Tryz.f162=true:=aB
theorem QF:AM Tryz.f163=true:=aB
theorem XM:AM Tryz.f164=true:=aB
theorem XN:AM Tryz.f165=true:=aB
theorem XO:AM Tryz.f166=true:=aB
theorem XP:AM Tryz.f167=true:=aB
theorem XQ:AM Tryz.f168=true:=aB
theorem XR:AM Tryz.f169=true:=aB
theorem Mr:AM Tryz.f17=true:=aB
theorem XS:AM Tryz.f170=true:=aB
theorem Ms:AM Tryz.f18=true:=aB
theorem Zw:AM Tryz.f19=true:=aB
theorem SB:AM Tryz.f20=true:=aB
theorem SC:AM Tryz.f21=true:=aB
theorem Zx:AM Tryz.f22=true:=aB
theorem Hh:AM Tryz.f23=true:=aB
theorem Zy:AM Tryz.f24=true:=aB
theorem Zz:AM Tryz.f25=true:=aB
theorem Z0:AM Tryz.f28=true:=aB
theorem Fs:AM Tryz.f29=true:=aB
theorem Z1:AM Tryz.f34=true:=aB
theorem Z2:AM Tryz.f35=true:=aB
theorem Z3:AM Tryz.f36=true:=aB
theorem Z4:AM Tryz.f37=true:=aB
theorem Z5:AM Tryz.f38=true:=aB
theorem Z6:AM Tryz.f39=true:=aB
theorem Z7:AM Tryz.f40=true:=aB
theorem Z8:AM Tryz.f41=true:=aB
theorem Ip:AM Tryz.f42=true:=aB
theorem Z9:AM Tryz.f43=true:=aB
theorem Ft:AM Tryz.f44=true:=aB
theorem DL:AM Tryz.f45=true:=aB
theorem SD:AM Tryz.f46=true:=aB
theorem Mt:AM Tryz.f47=true:=aB
theorem Mu:AM Tryz.f48=true:=aB
theorem AAA:AM Tryz.f49=true:=aB
theorem Hi:AM Tryz.f50=true:=aB
theorem Iq:AM Tryz.f51=true:=aB
theorem SE:AM Tryz.f52=true:=aB
theorem AAB:AM Tryz.f53=true:=aB
theorem Fu:AM Tryz.f54=true:=aB
theorem Mw:AM Tryz.f55=true:=aB
theorem KN:AM Tryz.f56=true:=aB
theorem SF:AM Tryz.f57=true:=aB
theorem SG:AM Tryz.f58=true:=aB
theorem SH:AM Tryz.f59=true:=aB
theorem Gf:AM Tryz.f60=true:=aB
theorem SI:AM Tryz.f61=true:=aB
theorem SJ:AM Tryz.f62=true:=aB
theorem SK:AM Tryz.f63=true:=aB
theorem AAC:AM Tryz.f64=true:=aB
theorem AAD:AM Tryz.f65=true:=aB
theorem EG:AM Tryz.f66=true:=aB
theorem Mx:AM Tryz.f67=true:=aB
theorem AAE:AM Tryz.f68=true:=aB
theorem AAF:AM Tryz.f69=true:=aB
theorem AAG:AM Tryz.f73=true:=aB
theorem AAH:AM Tryz.f74=true:=aB
theorem AAI:AM Tryz.f75=true:=aB
theorem AAJ:AM Tryz.f76=true:=aB
theorem SL:AM Tryz.f77=true:=aB
theorem SM:AM Tryz.f78=true:=aB
theorem SN:AM Tryz.f79=true:=aB
theorem AAK:AM Tryz.f80=true:=aB
theorem SO:AM Tryz.f81=true:=aB
theorem SP:AM Tryz.f82=true:=aB
theorem My:AM Tryz.f83=true:=aB
theorem Ir:AM Tryz.f84=true:=aB
theorem SQ:AM Tryz.f85=true:=aB
theorem SR:AM Tryz.f86=true:=aB
theorem AAL:AM Tryz.f87=true:=aB
theorem KO:AM Tryz.f88=true:=aB
theorem AAM:AM Tryz.f89=true:=aB
theorem fx_call9:AM Tryz.f9=true:=aB
theorem SS:AM Tryz.f90=true:=aB
theorem AAN:AM Tryz.f91=true:=aB
theorem ST:AM Tryz.f92=true:=aB
theorem AAO:AM Tryz.f93=true:=aB
theorem AAP:AM Tryz.f94=true:=aB
theorem AAQ:AM Tryz.f95=true:=aB
theorem AAR:AM Tryz.f96=true:=aB
theorem AAS:AM Tryz.f97=true:=aB
theorem AAT:AM Tryz.f98=true:=aB
theorem AAU:AM Tryz.f99=true:=aB
theorem H1:prog.eqGuardType prog.depth 31=false:=aB
theorem VH:prog.eqGuardType prog.depth 98=false:=aB
theorem EH:Ei prog 106=some 1:=aB
theorem M0:Ei prog 146=some 1:=aB
theorem AAV:Ei prog 206=some 1:=aB
theorem G5:Ei prog 22=some 1:=aB
theorem FU:Ei prog 23=some 4:=aB
theorem FV:Ei prog 24=some 5:=aB
theorem H2:Ei prog 25=some 3:=aB
theorem AP:Ei prog 42=some 1:=aB
theorem VI:Ei prog 45=some 2:=aB
theorem GD:Ei prog 89=some 9:=aB
theorem L4:∀a:FB,ckP prog 4 103 (Es a)=true:=by intros;kernel_rfl
theorem L5:∀a b:FB,Od prog 4 103 (Es a) (Es b)=some ((a.1.1==b.1.1 && (a.1.2.1==b.1.2.1 && (a.1.2.2.1==b.1.2.2.1 && (a.1.2.2.2.1==b.1.2.2.2.1 && (a.1.2.2.2.2==b.1.2.2.2.2 && true))))) && (a.2.1==b.2.1 && (a.2.2==b.2.2 && true))):=by intros;kernel_rfl
theorem Co:Dx prog 101 0=some 0:=aB
theorem J5:Dx prog 101 1=some 5:=aB
theorem VJ:Dx prog 145 0=some 0:=aB
theorem VK:Dx prog 145 1=some 1:=aB
theorem LA:Dx prog 27 0=some 0:=aB
theorem H3:Dx prog 27 1=some 1:=aB
theorem CL:Dx prog 27 2=some 2:=aB
theorem B5:Dx prog 27 3=some 3:=aB
theorem Bv:Dx prog 27 4=some 4:=aB
theorem CF:Dx prog 27 5=some 5:=aB
theorem D5:Dx prog 31 0=some 0:=aB
theorem C7:Dx prog 31 1=some 1:=aB
theorem CT:Dx prog 39 0=some 0:=aB
theorem Cb:Dx prog 39 1=some 1:=aB
theorem LB:Dx prog 39 2=some 2:=aB
theorem JR:Dx prog 54 0=some 0:=aB
theorem LC:Dx prog 54 1=some 1:=aB
theorem JS:Dx prog 54 2=some 3:=aB
theorem EN:Dx prog 54 3=some 4:=aB
theorem EO:Dx prog 83 0=some 0:=aB
theorem JT:Dx prog 83 1=some 1:=aB
theorem A1:Dx prog 88 0=some 0:=aB
theorem D6:Dx prog 92 0=some 0:=aB
theorem H4:Dx prog 92 1=some 6:=aB
theorem JU:Dx prog 92 2=some 7:=aB
theorem XT:(prog.info? 145).isSome=true:=aB
theorem fx_infs3:(prog.info? 3).isSome=true:=aB
theorem fx_infs4:(prog.info? 4).isSome=true:=aB
theorem XU:(prog.info? 145).map (·.zero)=some (some (.agg #[.int .i64 0,.bool false])):=aB
theorem fx_infz3:(prog.info? 3).map (·.zero)=some (some (.int .i64 0)):=aB
theorem fx_infz4:(prog.info? 4).map (·.zero)=some (some (.bool false)):=aB
theorem LD:MM prog 156=some .u64:=aB
theorem XV:MM prog 177=some .u64:=aB
theorem FX:MM prog 3=some .i64:=aB
theorem G6:MM prog 5=some .u8:=aB
theorem M1:LQ prog 121=some (3,3):=aB
theorem L6:LQ prog 90=some (103,3):=aB
theorem M3:∀a:Int,ckP prog 3 3 (Do a)=true:=by intros;kernel_rfl
theorem M4:∀a b:Int,Od prog 3 3 (Do a) (Do b)=some (a==b):=by intros;kernel_rfl
theorem Af:prog.follows .mixedOrders=true:=aB
theorem VL:(prog.info? 3).bind (·.zero)=some (.int .i64 0):=aB
theorem Tf:(prog.info? 3).bind (·.zero)=some (.int .i64 0):=aB
theorem L7:Ej prog 103=some [(0,5),(5,1),(6,1)]:=aB
theorem fx_pl145:Ej prog 145=some [(0,1),(1,1)]:=aB
theorem fx_pl27:Ej prog 27=some [(0,1),(1,1),(2,1),(3,1),(4,1),(5,1)]:=aB
theorem JV:Ej prog 31=some [(0,1),(1,1)]:=aB
theorem Tg:Ej prog 39=some [(0,1),(1,1),(2,2)]:=aB
theorem Th:Ej prog 54=some [(0,1),(1,2),(3,1),(4,1)]:=aB
theorem Ti:Ej prog 83=some [(0,1),(1,2)]:=aB
theorem IE:Ej prog 88=some [(0,6)]:=aB
theorem IF:Ej prog 92=some [(0,6),(6,1),(7,1)]:=aB
theorem VM:s2bOf prog 9 206=some 5:=aB
theorem Hj:DS prog 106=some (1,#[.slice none 0 0],42):=aB
theorem AAW:DS prog 146=some (1,#[.bool false],4):=aB
theorem VN:DS prog 22=some (1,#[.string ⟨#[]⟩],9):=aB
theorem VO:DS prog 23=some (4,#[.int .i64 0,.int .i64 0,.int .i64 0,.int .i64 0],39):=aB
theorem VP:DS prog 24=some (5,#[.int .i64 0,.int .i64 0,.int .i64 0,.int .i64 0,.slice none 0 0],54):=aB
theorem L8:DS prog 25=some (3,#[.slice none 0 0,.int .i64 0,.int .i64 0],83):=aB
theorem BW:DS prog 42=some (1,#[.int .i64 0],3):=aB
theorem VQ:DS prog 45=some (2,#[.int .i64 0,.int .i64 0],31):=aB
theorem fx_sel89:DS prog 89=some (9,#[.int .i64 0,.int .i64 0,.int .i64 0,.int .i64 0,.int .i64 0,.int .i64 0,.int .i64 0,.int .i64 0,.int .i64 0],101):=aB
theorem FY:KQ prog 106=true:=aB
theorem fx_sl146:KQ prog 146=true:=aB
theorem fx_sl206:KQ prog 206=true:=aB
theorem Df:KQ prog 22=true:=aB
theorem EA:KQ prog 23=true:=aB
theorem Ef:KQ prog 24=true:=aB
theorem Fd:KQ prog 25=true:=aB
theorem A3:KQ prog 42=true:=aB
theorem Tj:KQ prog 45=true:=aB
theorem GE:KQ prog 89=true:=aB
theorem EP:OY prog 9=true:=aB
theorem Cc:Ce prog 101=some (true,9):=aB
theorem GF:Ce prog 106=some (false,1):=aB
theorem L9:Ce prog 112=some (false,1):=aB
theorem fx_ty136:Ce prog 136=some (true,5):=aB
theorem MA:Ce prog 141=some (false,1):=aB
theorem MB:Ce prog 142=some (false,1):=aB
theorem QG:Ce prog 143=some (false,1):=aB
theorem fx_ty145:Ce prog 145=some (true,2):=aB
theorem fx_ty158:Ce prog 158=some (false,1):=aB
theorem J6:Ce prog 159=some (false,1):=aB
theorem Ez:Ce prog 177=some (false,1):=aB
theorem Dg:Ce prog 22=some (false,1):=aB
theorem DF:Ce prog 23=some (false,1):=aB
theorem C8:Ce prog 24=some (false,1):=aB
theorem DV:Ce prog 25=some (false,1):=aB
theorem Aq:Ce prog 27=some (true,6):=aB
theorem AI:Ce prog 3=some (false,1):=aB
theorem BB:Ce prog 31=some (true,2):=aB
theorem GG:Ce prog 39=some (true,4):=aB
theorem Gh:Ce prog 4=some (false,1):=aB
theorem Bq:Ce prog 42=some (false,1):=aB
theorem fx_ty5:Ce prog 5=some (false,1):=aB
theorem IG:Ce prog 54=some (true,5):=aB
theorem Fe:Ce prog 83=some (true,3):=aB
theorem CZ:Ce prog 88=some (true,6):=aB
theorem IH:Ce prog 89=some (false,1):=aB
theorem M5:Ce prog 9=some (false,1):=aB
theorem OO:Ce prog 90=some (false,1):=aB
theorem A6:Ce prog 92=some (true,8):=aB
theorem II:Ce prog 98=some (true,5):=aB
theorem AAX:(prog.underlying 156).isSome=true:=aB
theorem Fv:(prog.underlying 175).isSome=true:=aB
theorem OP:(prog.underlying 3).isSome=true:=aB
theorem fx_und41:(prog.underlying 41).isSome=true:=aB
theorem IJ:(prog.underlying 5).isSome=true:=aB
theorem J7:prog.underlying 141=some (.chan .both 145):=aB
theorem J8:prog.underlying 142=some (.chan .both 3):=aB
theorem J9:prog.underlying 143=some (.chan .both 4):=aB
theorem Fj:Bz prog 101=some #[.int .i64 0,.int .i64 0,.int .i64 0,.int .i64 0,.int .i64 0,.int .i64 0,.int .i64 0,.int .i64 0,.int .i64 0]:=aB
theorem JW:Bz prog 103=some #[.int .i64 0,.int .i64 0,.int .i64 0,.int .i64 0,.int .i64 0,.int .i64 0,.int .i64 0]:=aB
theorem QH:Bz prog 106=some #[.slice none 0 0]:=aB
theorem XW:Bz prog 112=some #[.nilFunc]:=aB
theorem QI:Bz prog 118=some #[.bool false,.bool false,.bool false,.bool false]:=aB
theorem XX:Bz prog 141=some #[.chan none]:=aB
theorem XY:Bz prog 142=some #[.chan none]:=aB
theorem XZ:Bz prog 143=some #[.chan none]:=aB
theorem QJ:Bz prog 145=some #[.int .i64 0,.bool false]:=aB
theorem Xa:Bz prog 157=some #[.int .i64 0,.int .i64 0,.int .i64 0,.int .i64 0,.int .i64 0,.int .i64 0,.int .i64 0,.int .i64 0,.int .i64 0,.int .i64 0,.int .i64 0,.int .i64 0,.int .i64 0,.int .i64 0,.int .i64 0,.int .i64 0]:=aB
theorem Xb:Bz prog 159=some #[.nilFunc]:=aB
theorem Xc:Bz prog 177=some #[.int .u64 0]:=aB
theorem Gi:Bz prog 27=some #[.int .i64 0,.int .i64 0,.slice none 0 0,.slice none 0 0,.slice none 0 0,.slice none 0 0]:=aB
theorem fx_zero3:Bz prog 3=some #[.int .i64 0]:=aB
theorem Bu:Bz prog 31=some #[.int .i64 0,.int .i64 0]:=aB
theorem Fw:Bz prog 39=some #[.int .i64 0,.int .i64 0,.int .i64 0,.int .i64 0]:=aB
theorem fx_zero4:Bz prog 4=some #[.bool false]:=aB
theorem fx_zero42:Bz prog 42=some #[.slice none 0 0]:=aB
theorem Gj:Bz prog 54=some #[.int .i64 0,.int .i64 0,.int .i64 0,.int .i64 0,.slice none 0 0]:=aB
theorem Fx:Bz prog 83=some #[.slice none 0 0,.int .i64 0,.int .i64 0]:=aB
theorem Dv:Bz prog 88=some #[.int .i64 0,.int .i64 0,.slice none 0 0,.slice none 0 0,.slice none 0 0,.slice none 0 0]:=aB
theorem AAY:Bz prog 89=some #[.slice none 0 0]:=aB
theorem fx_zero9:Bz prog 9=some #[.string ⟨#[]⟩]:=aB
theorem BO:Bz prog 92=some #[.int .i64 0,.int .i64 0,.slice none 0 0,.slice none 0 0,.slice none 0 0,.slice none 0 0,.slice none 0 0,.map none]:=aB
end Go.Ns
