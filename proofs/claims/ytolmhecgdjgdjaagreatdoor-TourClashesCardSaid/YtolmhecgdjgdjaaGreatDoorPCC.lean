/- Rules and walks, part 3 of 6. No conditions. -/
import Derived.Carry
import Derived.Conc.LeavingOf
import Derived.LaidMore
import Derived.OpenShut
import Derived.ProofKit
import Derived.Test.YtolmhecgdjgdjaaGreatDoorPCB
import Derived.Test.YtolmhecgdjgdjaaGreatDoorProg
set_option linter.unusedVariables false
set_option linter.unusedSimpArgs false
set_option linter.unnecessarySimpa false
set_option linter.unusedSectionVars false
namespace Go.Ns
open Go.Conc
section
variable {P:Program} {E:GF P} {O:Nat->Value} {ds:List Deferred} {h:GH} {T:(Nat->Value)->List Deferred->GH->Prop} {dst:Option Nat} {ty:TypeId} {pos:String} {af:Array Edge} {gd:Option (Nat×Bool)}
theorem ok_eqlB{xt yt:TypeId}{x y:Operand}{a b:Bool}(hx:AO O x=.bool a)(hy:AO O y=.bool b)(he:Nu P 1 xt (.bool a) (.bool b)=some (a==b))(k:T (putS O dst (.bool (a==b))) ds h):BS E ⟨dst,.binOp .eql xt x y yt,ty,pos,af,gd⟩ O ds h T:=by
 unfold BS execOp;simp only [hx,hy];refine FW (AE _ _ ?_);have hg:∀(Q:Unit->GH->Prop),Q () h->(eqGuard .eql xt x y (.bool a) (.bool b)).gh P h Q:=λQ q=>q;refine hg _ ?_;show Sem.gh P (do pure (Value.bool (<-Op.equal xt (.bool a) (.bool b))):Sem Value) h _;refine AE _ _ ?_;exact HZ 1 _ _ _ _ (a==b) h _ aC he k
theorem P3{t:TypeId}{x o:Operand}{m n b off hi:Nat}(ht:Mu P t=some (m,n))(hx:AO O x=.pointer (some ⟨b,off,none⟩))(ho:∃kd,AO O o=.int kd hi)(h2:hi<=m)(k:T (putS O dst (.slice (some ⟨b,off,none⟩) hi m)) ds h) :
  BS E ⟨dst,.slice t x none (some o) none,ty,pos,af,gd⟩ O ds h T:=by
 obtain ⟨kd,e⟩:=ho;unfold BS execOp;simp only [hx];refine FW ?_;unfold Mu at ht;unfold Instr.sliceAt;cases hu:P.underlying t with
 | none=>rw [hu] at ht;cases ht
 | some d=>
  rw [hu] at ht;cases d <;> first | (cases ht;done) | skip
  rename_i el
  simp only [Option.map_eq_some_iff,Prod.mk.injEq] at ht;obtain ⟨x0,hx0,rfl,rfl⟩:=ht;refine AE _ _ (Ao hu ?_);dsimp only;refine AE _ _ (Av ?_);unfold Instr.sliceBounds;simp only [Option.map_some,Option.map_none,e,Bool.false_eq_true,↓reduceIte];refine AE _ _ (AE _ _ (Av (AE _ _ (DF aA aA (AE _ _ (Av (Av ?_)))))));refine AE _ _ (D2 hx0 (Av ?_));simp only [Nat.sub_zero,Nat.zero_mul,Ip,Nat.add_zero,ite_self,Int.toNat_natCast];exact k
end
def eBo(b:Bool):Array Value:=#[.bool b]
theorem can_sl{h:GH}{r n:Nat}{p:Bool}{c:Hh}{t:TypeId}{f:Nat×Nat}(hb:h r=some (p,.cells (Fy c) t f))(hn:n<=4):AC h (.slice (some ⟨r,0,none⟩) n 4) 1 eBo (On c n):=by
 refine ⟨some ⟨r,0,none⟩,4,by simp [On],by simpa [On] using hn,by simp [On];omega,λi hi=>⟨r,0,rfl,p,_,t,f,hb,?_,?_⟩⟩
 ·have:i<n:=by simpa [On] using hi
  show 0+i*1+1<=4;omega
 ·have hi':i<n:=by simpa [On] using hi
  have h4:i<4:=aA
  have e:(On c n)[i]=c i:=by simp [On]
  rw [e]
  match i,h4 with
  | 0,_=>rfl
  | 1,_=>rfl
  | 2,_=>rfl
  | 3,_=>rfl
theorem Or{ws:List AF}{c c':Hh}{np k:Nat}(h:Ei ws (np-k) c=c')(hk:np<=k):c=c':=by
 rw [Nat.sub_eq_zero_of_le hk] at h;exact h
theorem Tg{ws:List AF}{c c':Hh}{np k:Nat}(h:Ei ws (np-k) c=c')(hk:k<np):Ei ws (np-(k+1)) (Gn ws c)=c':=by
 rw [show np-k=(np-(k+1))+1 by omega] at h;exact h
def BF(ws:List AF)(c:Hh)(k:Nat):Hh:=(ws.take k).foldl Hi c
theorem VK{ws:List AF}{c:Hh}{k:Nat}(hk:k<ws.length):BF ws c (k+1)=Hi (BF ws c k) (ws.getD k AF.z):=by
 unfold BF;rw [D4 AF.z hk,List.foldl_append];rfl
theorem X9{ws:List AF}{c:Hh}{k:Nat}(hk:ws.length<=k):BF ws c k=Gn ws c:=by
 unfold BF Gn;rw [List.take_of_length_le hk]
structure AG where
 ways:Nat->Int
 works:Nat->Int
def AG.zero:AG:=⟨λ_=>0,λ_=>0⟩
def Ac(p:AG):Array Value:=#[.int .i64 (p.ways 0),.int .i64 (p.ways 1),.int .i64 (p.ways 2),.int .i64 (p.ways 3),.int .i64 (p.ways 4),
 .int .i64 (p.works 0),.int .i64 (p.works 1),.int .i64 (p.works 2),.int .i64 (p.works 3)]
theorem Ff(p:AG):(Value.agg (Ac p)).cells.size=9:=rfl
theorem Fg(p:AG):Value.fine (.agg (Ac p))=true:=rfl
theorem GQ(p:AG):0+9<=(Ac p).size:=Nat.le_refl 9
theorem GR(p q:AG):By (Ac p) 0 (Value.agg (Ac q)).cells.toList=Ac q:=by
 simp [Value.cells,Ac,By]
def AG.setWay(p:AG)(i:Nat)(n:Int):AG:={ p with ways:=λk=>if k=i then n else p.ways k }
def AG.setWork(p:AG)(i:Nat)(n:Int):AG:={ p with works:=λk=>if k=i then n else p.works k }
theorem GS{p:AG}{i:Nat}(h:i<5):(Ac p)[0+i*1]? =some (.int .i64 (p.ways i)):=by
 match i,h with
 | 0,_=>rfl
 | 1,_=>rfl
 | 2,_=>rfl
 | 3,_=>rfl
 | 4,_=>rfl
theorem Jf{p:AG}{i:Nat}(h:i<4):(Ac p)[5+i*1]? =some (.int .i64 (p.works i)):=by
 match i,h with
 | 0,_=>rfl
 | 1,_=>rfl
 | 2,_=>rfl
 | 3,_=>rfl
theorem P4{p:AG}{i:Nat}{n:Int}(h:i<5):By (Ac p) (0+i*1) [.int .i64 n]=Ac (p.setWay i n):=by
 match i,h with
 | 0,_=>rfl
 | 1,_=>rfl
 | 2,_=>rfl
 | 3,_=>rfl
 | 4,_=>rfl
theorem Ov{p:AG}{i:Nat}{n:Int}(h:i<4):By (Ac p) (5+i*1) [.int .i64 n]=Ac (p.setWork i n):=by
 match i,h with
 | 0,_=>rfl
 | 1,_=>rfl
 | 2,_=>rfl
 | 3,_=>rfl
def AG.put(p:AG)(nw i:Nat)(n:Int):AG:=if i<nw then p.setWay i n else p.setWork (i-nw) n
theorem AG.put_put(p:AG)(nw i:Nat)(n m:Int):(p.put nw i n).put nw i m=p.put nw i m:=by
 unfold AG.put;split
 ·unfold AG.setWay;congr 1;funext k;simp only [];split <;> rfl
 ·unfold AG.setWork;congr 1;funext k;simp only [];split <;> rfl
def FU(p:AG)(l:List Int):Int:=(l.map λk=>p.ways k.toNat).sum
def Cg(ns:List AI)(p:AG):Bool:=ns.all λx=>decide (x.low<=FU p x.ways/\FU p x.ways<=x.high)
structure CF(p:AG):Prop where
 ways:∀k,0<=p.ways k/\p.ways k<=30
 works:∀k,0<=p.works k/\p.works k<=30
def Ny(ns:List AI)(p:AG)(k:Nat):Bool:=decide ((ns.getD k AI.z).low<=FU p (ns.getD k AI.z).ways/\FU p (ns.getD k AI.z).ways<=(ns.getD k AI.z).high)
theorem SW{p:AG}{l:List Int}{q:Nat}(h:q<l.length):FU p (l.take (q+1))=FU p (l.take q)+p.ways (l.getD q 0).toNat:=by
 unfold FU;rw [D4 0 h];simp
theorem ND{p:AG}{l:List Int}{q:Nat}(h:l.length<=q):FU p (l.take q)=FU p l:=by rw [List.take_of_length_le h]
theorem Th{p:AG}{ns:List AI}{k q:Nat}{s:Int}(hs:s=FU p ((ns.getD k AI.z).ways.take q))(hq:(ns.getD k AI.z).ways.length<=q)(h:(ns.getD k AI.z).low<=s/\s<=(ns.getD k AI.z).high):Ny ns p k=true:=by
 rw [ND hq] at hs;subst hs;exact decide_eq_true h
theorem VL{p:AG}{ns:List AI}{k:Nat}(h:∀j,j<k->Ny ns p j=true)(hk:ns.length<=k):Cg ns p=true:=by
 unfold Cg;rw [List.all_eq_true];intro x hx;obtain ⟨i,hi,rfl⟩:=List.mem_iff_getElem.1 hx
 have:=h i aA
 unfold Ny at this;rw [Dz AI.z hi] at this;exact this
theorem YA{p:AG}{ns:List AI}{k q:Nat}{s:Int}(hk:k<ns.length)(hs:s=FU p ((ns.getD k AI.z).ways.take q))(hq:(ns.getD k AI.z).ways.length<=q)(h:¬((ns.getD k AI.z).low<=s/\s<=(ns.getD k AI.z).high)):Cg ns p=false:=by
 rw [ND hq] at hs;subst hs;rw [Dz AI.z hk] at h;unfold Cg;rw [List.all_eq_false];exact ⟨ns[k],List.getElem_mem hk,by simpa using h⟩
theorem Ow{f:Nat->Bool}{k:Nat}(h:∀j,j<k->f j=true)(e:f k=true):∀j,j<k+1->f j=true:=λj hj=>by
 rcases Nat.lt_succ_iff_lt_or_eq.1 hj with q | rfl
 ·exact h j q
 ·exact e
theorem Ox{nw:Nat}{ns:List AI}(h:∀k,k<ns.length->Ds nw ns k=0)(k:Nat):(ns.getD k AI.z).ways.length<=5/\(∀q,0<=(ns.getD k AI.z).ways.getD q 0/\((ns.getD k AI.z).ways.getD q 0=0\/(ns.getD k AI.z).ways.getD q 0<=(nw:Int)-1)):=by
 rcases Nat.lt_or_ge k ns.length with hk | hk
 ·have e:=h k hk;unfold Ds at e;split at e
  ·cases e
  ·split at e
   ·cases e
   ·rename_i h5 h6
    refine ⟨aA,λq=>?_⟩;rcases Nat.lt_or_ge q (ns.getD k AI.z).ways.length with hq | hq
    ·have h7:¬∃x ∈ (ns.getD k AI.z).ways,¬(0<=x/\x<=(nw:Int)-1):=by simpa [List.any_eq_true] using h6
     have h8:0<=(ns.getD k AI.z).ways.getD q 0/\(ns.getD k AI.z).ways.getD q 0<=(nw:Int)-1:=Classical.byContradiction λz=>h7 ⟨_,B7 hq,z⟩;exact ⟨h8.1,.inr h8.2⟩
    ·rw [CE hq];exact ⟨Int.le_refl _,.inl rfl⟩
 ·rw [CE hk];refine ⟨by simp [AI.z],λq=>?_⟩;simp [AI.z]
def CJ(ws:List AF)(js:List AN)(i:Nat):Int:=if i<ws.length then (ws.getD i AF.z).low else (js.getD (i-ws.length) AN.z).low
def FL(ws:List AF)(js:List AN)(i:Nat):Int:=if i<ws.length then (ws.getD i AF.z).high else (js.getD (i-ws.length) AN.z).high
def CX(ag:AG->Bool)(ws:List AF)(js:List AN):Nat->Nat->AG->List AG
 | 0,_,p=>[p]
 | f+1,i,p=>(Hv (CJ ws js i) (FL ws js i)).flatMap λn=>if i+1=ws.length/\ag (p.put ws.length i n)=false then [] else CX ag ws js f (i+1) (p.put ws.length i n)
def CM(ag:AG->Bool)(ws:List AF)(js:List AN)(f i:Nat)(p:AG)(n:Int):List AG:=
 if i+1=ws.length/\ag (p.put ws.length i n)=false then [] else CX ag ws js f (i+1) (p.put ws.length i n)
theorem Gf(ag:AG->Bool)(ws:List AF)(js:List AN)(f i:Nat)(p:AG) :
  CX ag ws js (f+1) i p=(Hv (CJ ws js i) (FL ws js i)).flatMap (CM ag ws js f i p):=rfl
def AD(ws:List AF)(js:List AN)(ns:List AI):List AG:=
 if 0<ws.length\/Cg ns AG.zero=true then CX (Cg ns) ws js (ws.length+js.length) 0 AG.zero else []
def HB(nw i:Nat):Nat:=if i<nw then 0+i*1 else 5+(i-nw)*1
theorem YB{nw i:Nat}(h:i<nw):HB nw i=0+i*1:=if_pos h
theorem VM{nw i:Nat}(h:¬i<nw):HB nw i=5+(i-nw)*1:=if_neg h
theorem J8{p:AG}{nw nj i:Nat}{v:Int}(hw:nw<=5)(hj:nj<=4)(hi:i<nw+nj):(Ac (p.put nw i v))[HB nw i]? =some (.int .i64 v):=by
 unfold AG.put HB;split
 ·rw [GS aA];simp [AG.setWay]
 ·rw [Jf aA];simp [AG.setWork]
theorem F0{p:AG}{nw nj i:Nat}{v:Int}(hw:nw<=5)(hj:nj<=4)(hi:i<nw+nj):By (Ac p) (HB nw i) [.int .i64 v]=Ac (p.put nw i v):=by
 unfold AG.put HB;split
 ·exact P4 aA
 ·exact Ov aA
theorem Jg{nw nj i:Nat}(hw:nw<=5)(hj:nj<=4)(hi:i<nw+nj):HB nw i+1<=9:=by unfold HB;split <;> omega
def AG.zeros(p:AG)(nw i:Nat):Prop:=(∀k,i<=k->k<nw->p.ways k=0)/\∀k,i<=nw+k->p.works k=0
theorem AG.zeros_put{p:AG}{nw i:Nat}(h:p.zeros nw i):p.put nw i 0=p:=by
 obtain ⟨wy,wo⟩:=p;unfold AG.put AG.setWay AG.setWork;split
 ·rename_i hi
  congr 1;funext k;split
  ·rename_i e;subst e;exact (h.1 k (Nat.le_refl _) hi).symm
  ·rfl
 ·rename_i hi
  congr 1;funext k;split
  ·rename_i e;subst e;exact (h.2 (i-nw) aA).symm
  ·rfl
theorem AG.zeros_next{p:AG}{nw i:Nat}{v:Int}(h:p.zeros nw i):(p.put nw i v).zeros nw (i+1):=by
 unfold AG.put;split
 ·refine ⟨λk h1 h2=>?_,λk h1=>h.2 k aA⟩;show (if k=i then v else p.ways k)=0;rw [if_neg aA];exact h.1 k aA h2
 ·refine ⟨λk h1 h2=>h.1 k aA h2,λk h1=>?_⟩;show (if k=i-nw then v else p.works k)=0;rw [if_neg aA];exact h.2 k aA
theorem AG.zeros_zero(nw i:Nat):AG.zero.zeros nw i:=⟨λ_ _ _=>rfl,λ_ _=>rfl⟩
theorem CF.zero:CF AG.zero:=⟨λ_=>(aC:(0:Int)<=0/\(0:Int)<=30),λ_=>(aC:(0:Int)<=0/\(0:Int)<=30)⟩
theorem CF.put{p:AG}(h:CF p){nw i:Nat}{v:Int}(hv:0<=v/\v<=30):CF (p.put nw i v):=by
 unfold AG.put;split
 ·refine ⟨λk=>?_,h.works⟩;show 0<=(if k=i then v else p.ways k)/\(if k=i then v else p.ways k)<=30;split
  ·exact hv
  ·exact h.ways k
 ·refine ⟨h.ways,λk=>?_⟩;show 0<=(if k=i-nw then v else p.works k)/\(if k=i-nw then v else p.works k)<=30;split
  ·exact hv
  ·exact h.works k
section
variable {bag kinds:Int} {ps:List ByteArray} {ws:List AF} {js:List AN} {ns:List AI} {ag:AG->Bool} {p:AG} {all pre:List AG} {f i k:Nat}
theorem BV.few(b:BV bag kinds ps ws js ns)(hi:i<ws.length+js.length):0<=CJ ws js i/\CJ ws js i<=FL ws js i/\FL ws js i<=30/\FL ws js i-CJ ws js i<2:=by
 unfold CJ FL;by_cases h:i<ws.length
 ·rw [if_pos h,if_pos h];exact (Oo b.way i h).time
 ·rw [if_neg h,if_neg h];exact (LW (b.job (i-ws.length) aA)).time
theorem YC(e:i+1=ws.length)(h:ag (p.put ws.length i (CJ ws js i+(k:Int)))=false) :
  pre++(Cf (CJ ws js i) (k+1)).flatMap (CM ag ws js f i p)=pre++(Cf (CJ ws js i) k).flatMap (CM ag ws js f i p):=by
 rw [M5];unfold CM;rw [if_pos ⟨e,h⟩,List.append_nil]
theorem Qb(h:¬(i+1=ws.length/\ag (p.put ws.length i (CJ ws js i+(k:Int)))=false)) :
  pre++(Cf (CJ ws js i) (k+1)).flatMap (CM ag ws js f i p)=(pre++(Cf (CJ ws js i) k).flatMap (CM ag ws js f i p))++CX ag ws js f (i+1) (p.put ws.length i (CJ ws js i+(k:Int))):=by
 rw [M5,<-List.append_assoc];congr 1;unfold CM;rw [if_neg h]
theorem NE(hw:CT all pre (CX ag ws js (f+1) i p))(hk:CJ ws js i+(k:Int)<=FL ws js i)(h:¬(i+1=ws.length/\ag (p.put ws.length i (CJ ws js i+(k:Int)))=false)) :
  CT all (pre++(Cf (CJ ws js i) k).flatMap (CM ag ws js f i p)) (CX ag ws js f (i+1) (p.put ws.length i (CJ ws js i+(k:Int)))):=by
 rw [Gf] at hw
 have:=hw.round hk
 unfold CM at this ⊢;rw [if_neg h] at this;exact this
end
theorem VN{lo hi:Int}(h:hi-lo<2):(Hv lo hi).length<=2:=by unfold Hv Cf;simp;omega
theorem LX{bag kinds:Int}{ps:List ByteArray}{ws:List AF}{js:List AN}{ns:List AI}(b:BV bag kinds ps ws js ns)(ag:AG->Bool):∀(f i:Nat)(p:AG),i+f=ws.length+js.length->(CX ag ws js f i p).length<=2 ^ f
 | 0,_,_,_=>Nat.le_refl _
 | f+1,i,p,h=>by
  rw [Gf];have h1:=(b.few (i:=i) aA).2.2.2;have h2:=TQ (f:=CM ag ws js f i p) (c:=2 ^ f) (l:=Hv (CJ ws js i) (FL ws js i)) λx _=>by
   unfold CM;split
   ·exact Nat.zero_le _
   ·exact LX b ag f (i+1) _ aA
  have h3:=Nat.mul_le_mul_right (2 ^ f) (VN h1);rw [Nat.pow_succ];omega
theorem Fh{bag kinds:Int}{ps:List ByteArray}{ws:List AF}{js:List AN}{ns:List AI}(b:BV bag kinds ps ws js ns):(AD ws js ns).length<=2000000:=by
 unfold AD;split
 ·have h1:=LX b (Cg ns) (ws.length+js.length) 0 AG.zero aA;have h2:2 ^ (ws.length+js.length)<=2 ^ 9:=Nat.pow_le_pow_right aA (by have:=b.wlen;have:=b.jlen;omega);omega
 ·exact Nat.zero_le _
def Kk(bag kinds:Int)(ps:List ByteArray)(ws:List AF)(js:List AN)(ns:List AI):Int:=if BQ bag kinds ps ws js ns=0 then ((AD ws js ns).length:Int) else 0
section
variable {bag kinds:Int} {ps:List ByteArray} {ws:List AF} {js:List AN} {ns:List AI}
theorem YD(h:¬BQ bag kinds ps ws js ns=0):(.tuple #[.int .i64 0,.int .i64 (BQ bag kinds ps ws js ns)]:Value)=.tuple #[.int .i64 (Kk bag kinds ps ws js ns),.int .i64 (BQ bag kinds ps ws js ns)]:=by
 unfold Kk;rw [if_neg h]
theorem tHist_ok(h:¬¬BQ bag kinds ps ws js ns=0):(.tuple #[.int .i64 ((AD ws js ns).length:Int),.int .i64 0]:Value)=.tuple #[.int .i64 (Kk bag kinds ps ws js ns),.int .i64 (BQ bag kinds ps ws js ns)]:=by
 have e:=Decidable.not_not.1 h;unfold Kk;rw [if_pos e,e]
end
section
variable {V:Type} {hB h hc h':GH} {I:List V->(Nat->Prop)->GH->Prop} {S:GH->Prop} {rp:Nat} {T:TypeId} {c c':Array Value} {X0 X:Nat->Prop} {pre l:List V} {v:Value}
theorem EW.stoppedI{I':List V->(Nat->Prop)->GH->Prop}{pre':List V}(hv:v=.bool false)(r:∀l',EW hB I S pre X0 h l' (.bool false) h'):EW hB I' S pre' X0 h l v h':=by
 obtain ⟨ok,X',e,hs,hk,hl,_,h2⟩:=r [];cases e;exact ⟨false,X',hv,hs,hk,hl,(λx=>by cases x),h2⟩
def DM(I:List V->(Nat->Prop)->GH->Prop)(rp:Nat)(T:TypeId)(c:Array Value):List V->(Nat->Prop)->GH->Prop:=λpre X h=>
 ∃X',I pre X' h/\¬X' rp/\(∀b,X b↔X' b\/b=rp)/\h rp=some (true,.cells c T (0,0))
theorem DM.prom(P:GC hB I):GC hB (DM I rp T c):=by
 refine ⟨?_,?_⟩
 ·rintro pre X h b ⟨X',i,n,hX,hp⟩ hb;rcases (hX b).1 hb with q | rfl
  ·exact P.dom _ _ _ _ i q
  ·exact ⟨_,_,hp,rfl⟩
 ·rintro pre X h h' ⟨X',i,n,hX,hp⟩ same lB;exact ⟨X',P.stable _ _ _ _ i (λb hb=>same b ((hX b).2 (.inl hb))) lB,n,hX,by rw [same rp ((hX rp).2 (.inr rfl))];exact hp⟩
theorem DM.box(x:DM I rp T c pre X h):h rp=some (true,.cells c T (0,0)):=by obtain ⟨_,_,_,_,e⟩:=x;exact e
theorem DM.mem(x:DM I rp T c pre X h):X rp:=by obtain ⟨X',_,_,hX,_⟩:=x;exact (hX rp).2 (.inr rfl)
theorem EM.put(P:GC hB I)(y:EM hB (DM I rp T c) X0 h pre X hc)(rB:hB rp=none)(nb:h' rp=some (true,.cells c' T (0,0)))(ho:∀b,b≠rp->h' b=hc b):EM hB (DM I rp T c') X0 h pre X h':=by
 obtain ⟨⟨X',i,n,hX,hp⟩,sub,keep,base⟩:=y;exact ⟨⟨X',P.store i n ho (base.upd rB ho),n,hX,nb⟩,sub,keep.store' (sub rp ((hX rp).2 (.inr rfl))) ho,base.upd rB ho⟩
theorem DM.call{P:Program}{W:Wk P}{yv:Value}{args:Array Value}(x:DM I rp T c pre X hc)(k:∀X',I pre X' hc->Bt W yv args hc (EW hB I S pre X' hc l)):Bt W yv args hc (EW hB (DM I rp T c) S pre X hc l):=by
 have x':=x;obtain ⟨X',i,n,hX,hp⟩:=x;refine (k X' i).mono λv h' r=>?_;obtain ⟨ok,X1,hv,hs,hk,hl,h1,h2⟩:=r;have n1:¬X1 rp:=λq=>(hs rp q).elim n λe=>by rw [hp] at e;cases e
 refine ⟨ok,λb=>X1 b\/b=rp,hv,?_,λb p o hb hn=>hk b p o hb λq=>hn ((hX b).2 (.inl q)),hl,λe=>⟨X1,h1 e,n1,λ_=>Iff.rfl,hk.box hp n rfl⟩,h2⟩;rintro b (q | rfl)
 ·exact (hs b q).imp (λq=>(hX b).2 (.inl q)) id
 ·exact .inl ((hX _).2 (.inr rfl))
theorem DM.start(x:I pre X hc)(hp:hc rp=some (true,.cells c T (0,0)))(n:¬X rp):DM I rp T c pre (λb=>X b\/b=rp) hc:=⟨X,x,n,λ_=>Iff.rfl,hp⟩
theorem DM.final{X0:Nat->Prop}(y:EM hB I X0 h pre X hc)(hn:h rp=none)(r:EW hB (DM I rp T c) S pre (λb=>X b\/b=rp) hc l v h'):EW hB I S pre X0 h l v h':=by
 obtain ⟨ok,X1,hv,hs,hk,hl,h1,h2⟩:=r;cases ok with
 | true=>
  obtain ⟨X2,i2,n2,hX2,hp2⟩:=h1 rfl;refine ⟨true,X2,hv,λb q=>?_,?_,hl,λ_=>i2,λe=>by cases e⟩
  ·rcases hs b ((hX2 b).2 (.inl q)) with (q1 | rfl) | q1
   ·exact y.sub b q1
   ·exact absurd q n2
   ·exact subX y.sub y.keep (X1:=λz=>z=b) (λz e=>.inr (by rw [e];exact q1)) b rfl
  ·intro b p o hb hX;obtain ⟨o',e1,e2⟩:=y.keep b p o hb hX;obtain ⟨o2,e3,e4⟩:=hk b p o' e1 (λq=>q.elim (λq=>(y.sub b q).elim hX λe=>by rw [e] at hb;cases hb) λe=>by rw [e,hn] at hb;cases hb);refine ⟨o2,e3,?_⟩;rcases e2 with rfl | e2
   ·exact e4
   ·rcases e4 with rfl | e4
    ·exact .inr e2
    ·exact .inr ⟨e2.1,e4.2⟩
 | false=>
  refine ⟨false,λb=>X0 b\/h b=none,hv,λb q=>q,?_,hl,(λe=>by cases e),λ_=>h2 rfl⟩;intro b p o hb hX;obtain ⟨o',e1,e2⟩:=y.keep b p o hb hX;obtain ⟨o2,e3,e4⟩:=hk b p o' e1 (λq=>q.elim (λq=>(y.sub b q).elim hX λe=>by rw [e] at hb;cases hb) λe=>by rw [e,hn] at hb;cases hb);refine ⟨o2,e3,?_⟩;rcases e2 with rfl | e2
  ·exact e4
  ·rcases e4 with rfl | e4
   ·exact .inr e2
   ·exact .inr ⟨e2.1,e4.2⟩
end
end Go.Ns
namespace Go.Ns
open Go.Conc
abbrev FE:=Nat->Nat->Int
def KJ(m:FE):Array Value:=#[.int .i64 (m 0 0),.int .i64 (m 0 1),.int .i64 (m 0 2),.int .i64 (m 0 3),.int .i64 (m 1 0),.int .i64 (m 1 1),.int .i64 (m 1 2),.int .i64 (m 1 3),
 .int .i64 (m 2 0),.int .i64 (m 2 1),.int .i64 (m 2 2),.int .i64 (m 2 3),.int .i64 (m 3 0),.int .i64 (m 3 1),.int .i64 (m 3 2),.int .i64 (m 3 3)]
def FE.zero:FE:=λ_ _=>0
def FE.set(m:FE)(i k:Nat)(v:Int):FE:=λa b=>if a=i/\b=k then v else m a b
theorem Jh{m:FE}{i k:Nat}(hi:i<4)(hk:k<4):(KJ m)[0+i*4+k*1]? =some (.int .i64 (m i k)):=by
 match i,hi with
 | 0,_=>match k,hk with
  | 0,_=>rfl
  | 1,_=>rfl
  | 2,_=>rfl
  | 3,_=>rfl
 | 1,_=>match k,hk with
  | 0,_=>rfl
  | 1,_=>rfl
  | 2,_=>rfl
  | 3,_=>rfl
 | 2,_=>match k,hk with
  | 0,_=>rfl
  | 1,_=>rfl
  | 2,_=>rfl
  | 3,_=>rfl
 | 3,_=>match k,hk with
  | 0,_=>rfl
  | 1,_=>rfl
  | 2,_=>rfl
  | 3,_=>rfl
theorem LY{m:FE}{i k:Nat}{v:Int}(hi:i<4)(hk:k<4):By (KJ m) (0+i*4+k*1) [.int .i64 v]=KJ (m.set i k v):=by
 match i,hi with
 | 0,_=>match k,hk with
  | 0,_=>rfl
  | 1,_=>rfl
  | 2,_=>rfl
  | 3,_=>rfl
 | 1,_=>match k,hk with
  | 0,_=>rfl
  | 1,_=>rfl
  | 2,_=>rfl
  | 3,_=>rfl
 | 2,_=>match k,hk with
  | 0,_=>rfl
  | 1,_=>rfl
  | 2,_=>rfl
  | 3,_=>rfl
 | 3,_=>match k,hk with
  | 0,_=>rfl
  | 1,_=>rfl
  | 2,_=>rfl
  | 3,_=>rfl
def Oy(i:Nat)(m:FE)(k:Nat):FE:=if¬(i:Int)=(k:Int) then m.set i k 1048576 else m
def JO(i:Nat)(m:FE)(n:Nat):FE:=(List.range n).foldl (Oy i) m
def KK(n:Nat):FE:=(List.range n).foldl (λm i=>JO i m 4) FE.zero
def VO(p:AG)(ws:List AF)(m:FE)(k:Nat):FE:=(m.set (ws.getD k AF.z).a.toNat (ws.getD k AF.z).b.toNat (p.ways k)).set (ws.getD k AF.z).b.toNat (ws.getD k AF.z).a.toNat (p.ways k)
def BW(p:AG)(ws:List AF)(n:Nat):FE:=(List.range n).foldl (VO p ws) (KK 4)
def XL(by_ i:Nat)(m:FE)(k:Nat):FE:=m.set i k (min (m i k) (m i by_+m by_ k))
def IK(by_ i:Nat)(m:FE)(n:Nat):FE:=(List.range n).foldl (XL by_ i) m
def Ti(by_ np:Nat)(m:FE)(i:Nat):FE:=if m i by_=1048576 then m else IK by_ i m np
def Fp(by_ np:Nat)(m:FE)(n:Nat):FE:=(List.range n).foldl (Ti by_ np) m
def DN(np:Nat)(m:FE)(n:Nat):FE:=(List.range n).foldl (λm b=>Fp b np m np) m
def A9(np:Nat)(ws:List AF)(p:AG):FE:=DN np (BW p ws ws.length) np
theorem BP{β:Type}(f:β->Nat->β)(b:β)(n:Nat):(List.range (n+1)).foldl f b=f ((List.range n).foldl f b) n:=by rw [List.range_succ,List.foldl_append];rfl
def FE.ok(m:FE):Prop:=∀i k,0<=m i k/\m i k<=1048576
theorem FE.ok_set{m:FE}(h:m.ok){i k:Nat}{v:Int}(hv:0<=v/\v<=1048576):(m.set i k v).ok:=λa b=>by
 unfold FE.set;split
 ·exact hv
 ·exact h a b
theorem FE.ok_zero:FE.zero.ok:=λ_ _=>⟨Int.le_refl 0,(aC:(0:Int)<=1048576)⟩
theorem Hj{β:Type}{Q:β->Prop}{f:β->Nat->β}(hf:∀b k,Q b->Q (f b k)):∀{l:List Nat}{b:β},Q b->Q (l.foldl f b)
 | [],_,h=>h
 | x ::l,b,h=>Hj hf (l:=l) (hf b x h)
theorem YE{i:Nat}{m:FE}{k:Nat}(h:m.ok):(Oy i m k).ok:=by
 unfold Oy;split
 ·exact FE.ok_set h aC
 ·exact h
theorem far0K_ok{i:Nat}{m:FE}{n:Nat}(h:m.ok):(JO i m n).ok:=Hj (λ_ _=>YE) h
theorem far0_ok{n:Nat}:(KK n).ok:=Hj (λ_ _ h=>far0K_ok h) FE.ok_zero
theorem YF{p:AG}{ws:List AF}{m:FE}{k:Nat}(hp:CF p)(h:m.ok):(VO p ws m k).ok:=by
 have:=hp.ways k
 exact FE.ok_set (FE.ok_set h aA) aA
theorem Oz{p:AG}{ws:List AF}{n:Nat}(hp:CF p):(BW p ws n).ok:=Hj (λ_ _ h=>YF hp h) far0_ok
theorem VP{b i:Nat}{m:FE}{k:Nat}(h:m.ok):(XL b i m k).ok:=by
 have h1:=h i k;have h2:=h i b;have h3:=h b k;exact FE.ok_set h aA
theorem XM{b i:Nat}{m:FE}{n:Nat}(h:m.ok):(IK b i m n).ok:=Hj (λ_ _ h=>VP h) h
theorem farI1_ok{b np:Nat}{m:FE}{i:Nat}(h:m.ok):(Ti b np m i).ok:=by
 unfold Ti;split
 ·exact h
 ·exact XM h
theorem XN{b np:Nat}{m:FE}{n:Nat}(h:m.ok):(Fp b np m n).ok:=Hj (λ_ _ h=>farI1_ok h) h
theorem Tj{np:Nat}{m:FE}{n:Nat}(h:m.ok):(DN np m n).ok:=Hj (λ_ _ h=>XN h) h
theorem CB{c c':Array Value}(h:c.size=c'.size):By c 0 c'.toList=c':=by
 apply Array.toList_inj.1;rw [EK _ _ _ (by simp [h])];simp [h]
theorem IL{b:Bool}(h:(!b)=true):b=false:=by cases b <;> simp_all
theorem IM{b:Bool}(h:(!b)=false):b=true:=by cases b <;> simp_all
abbrev E3:=(Int×Int×Int×Int×Int)×Int×Int
def Ek(a:E3):Value:=.agg #[.int .i64 a.1.1,.int .i64 a.1.2.1,.int .i64 a.1.2.2.1,.int .i64 a.1.2.2.2.1,.int .i64 a.1.2.2.2.2,.int .i64 a.2.1,.int .i64 a.2.2]
def Tk:E3->Option Int:=λ_=>none
def AG.w5(p:AG):Int×Int×Int×Int×Int:=(p.ways 0,p.ways 1,p.ways 2,p.ways 3,p.ways 4)
theorem E3.eq_iff(a b:E3):((a.1.1==b.1.1 && (a.1.2.1==b.1.2.1 && (a.1.2.2.1==b.1.2.2.1 && (a.1.2.2.2.1==b.1.2.2.2.1 && (a.1.2.2.2.2==b.1.2.2.2.2 && true))))) && (a.2.1==b.2.1 && (a.2.2==b.2.2 && true)))=decide (a=b):=by
 obtain ⟨⟨a1,a2,a3,a4,a5⟩,a6,a7⟩:=a;obtain ⟨⟨b1,b2,b3,b4,b5⟩,b6,b7⟩:=b;rw [Bool.eq_iff_iff];simp [and_assoc]
theorem P5(a:E3):Instr.sameBits 10000 (Ek a) (Ek a)=true:=by
 have hi:∀(n:Nat)(x:Int),Instr.sameBits n (.int .i64 x) (.int .i64 x)=true:=λn x=>by
  cases n <;> (unfold Instr.sameBits;simp)
 unfold Ek;show Instr.sameBits (9999+1) _ _=true;unfold Instr.sameBits;simp only [List.zip_cons_cons,List.zip_nil_left,List.all_cons,List.all_nil,hi];simp
def VQ(m:FE)(w:Int×Int×Int×Int×Int)(i:Nat)(M:E3->Option Int)(k:Nat):E3->Option Int:=λb=>if b=(w,(i:Int),(k:Int)) then some (m i k) else M b
def F1(m:FE)(w:Int×Int×Int×Int×Int)(i:Nat)(M:E3->Option Int)(n:Nat):E3->Option Int:=(List.range n).foldl (VQ m w i) M
def CL(m:FE)(w:Int×Int×Int×Int×Int)(np:Nat)(M:E3->Option Int)(n:Nat):E3->Option Int:=(List.range n).foldl (λM i=>F1 m w i M np) M
theorem NF{m:FE}{w:Int×Int×Int×Int×Int}{i k:Nat}{M:E3->Option Int}:∀{n:Nat},k<n->F1 m w i M n (w,(i:Int),(k:Int))=some (m i k)
 | 0,h=>absurd h (Nat.not_lt_zero _)
 | n+1,h=>by
  unfold F1;rw [BP];unfold VQ;by_cases e:k=n
  ·subst e;rw [if_pos rfl]
  ·rw [if_neg (λq=>e (by have h2:(k:Int)=(n:Int):=congrArg (λz:E3=>z.2.2) q;omega))];exact NF (n:=n) aA
theorem Ix{m:FE}{w:Int×Int×Int×Int×Int}{i:Nat}{M:E3->Option Int}{b:E3}(hb:b.1≠w\/b.2.1≠(i:Int)):∀{n:Nat},F1 m w i M n b=M b
 | 0=>rfl
 | n+1=>by
  unfold F1;rw [BP];unfold VQ;rw [if_neg (λq=>by subst q;rcases hb with h | h <;> exact h rfl)];exact Ix hb (n:=n)
theorem NG{m:FE}{w:Int×Int×Int×Int×Int}{np i k:Nat}{M:E3->Option Int}(hk:k<np):∀{n:Nat},i<n->CL m w np M n (w,(i:Int),(k:Int))=some (m i k)
 | 0,h=>absurd h (Nat.not_lt_zero _)
 | n+1,h=>by
  unfold CL;rw [BP];by_cases e:i=n
  ·subst e;exact NF hk
  ·rw [Ix (.inr (by show (i:Int)≠(n:Int);omega))];exact NG hk (n:=n) aA
theorem LZ{m:FE}{w:Int×Int×Int×Int×Int}{np:Nat}{M:E3->Option Int}{b:E3}(hb:b.1≠w):∀{n:Nat},CL m w np M n b=M b
 | 0=>rfl
 | n+1=>by
  unfold CL;rw [BP,Ix (.inl hb)];exact LZ hb (n:=n)
theorem w5_at{p q:AG}(e:q.w5=p.w5){k:Nat}(h:k<5):q.ways k=p.ways k:=by
 simp only [AG.w5,Prod.mk.injEq] at e;obtain ⟨e0,e1,e2,e3,e4⟩:=e
 match k,h with
 | 0,_=>exact e0
 | 1,_=>exact e1
 | 2,_=>exact e2
 | 3,_=>exact e3
 | 4,_=>exact e4
theorem O0{p q:AG}{ws:List AF}(e:q.w5=p.w5):∀{n:Nat},n<=5->BW q ws n=BW p ws n
 | 0,_=>rfl
 | n+1,h=>by
  have h1:=O0 (ws:=ws) e (n:=n) aA;unfold BW at h1 ⊢;rw [BP,BP,h1];unfold VO;rw [w5_at e aA]
theorem Q0{p q:AG}{ws:List AF}{np:Nat}(hw:ws.length<=5)(e:q.w5=p.w5):A9 np ws q=A9 np ws p:=by
 unfold A9;rw [O0 e hw]
def GG(np:Nat)(ws:List AF)(l:List AG)(M:E3->Option Int):Prop:=∀q ∈ l,∀i k:Nat,i<np->k<np->M (q.w5,(i:Int),(k:Int))=some (A9 np ws q i k)
theorem GG.call{np:Nat}{ws:List AF}{pq:List AG}{k:Nat}{M:E3->Option Int}(h:GG np ws (pq.take k) M)(hk:k<pq.length)(hw:ws.length<=5) :
  GG np ws (pq.take (k+1)) (CL (A9 np ws (pq.getD k AG.zero)) (pq.getD k AG.zero).w5 np M np):=by
 intro q hq i j hi hj;by_cases e:q.w5=(pq.getD k AG.zero).w5
 ·rw [e,NG hj hi,Q0 hw e]
 ·rw [LZ e];rw [D4 AG.zero hk] at hq;rcases List.mem_append.1 hq with h1 | h1
  ·exact h q h1 i j hi hj
  ·rw [List.mem_singleton.1 h1] at e;exact absurd rfl e
theorem GG.skip{np:Nat}{ws:List AF}{pq:List AG}{k:Nat}{M:E3->Option Int}(h:GG np ws (pq.take k) M)(hk:k<pq.length)(hw:ws.length<=5)(h0:¬(k:Int)=0)(e:(pq.getD k AG.zero).w5=(pq.getD (k-1) AG.zero).w5) :
  GG np ws (pq.take (k+1)) M:=by
 intro q hq i j hi hj;rw [D4 AG.zero hk] at hq;rcases List.mem_append.1 hq with h1 | h1
 ·exact h q h1 i j hi hj
 ·rw [List.mem_singleton.1 h1,e,Q0 hw e];refine h _ ?_ i j hi hj;rw [Dz AG.zero aA];exact List.mem_take_iff_getElem.2 ⟨k-1,aA,rfl⟩
def D6(h:GH)(r np:Nat)(ws:List AF)(pq:List AG):Prop:=∃pm M,MapAt h r pm Ek Df M/\GG np ws pq M
theorem D6.le{h h':GH}{r np:Nat}{ws:List AF}{pq:List AG}(x:D6 h r np ws pq)(l:h.Le h'):D6 h' r np ws pq:=by
 obtain ⟨pm,M,⟨es,clk,hb,hl⟩,hM⟩:=x;exact ⟨pm,M,⟨es,clk,l.keep hb rfl,hl⟩,hM⟩
structure DR(hB:GH)(r:Nat)(M:E3->Option Int)(h hc:GH):Prop where
 ok:Cp hc r Ek Df M
 keep:Bc (λb=>b=r) h hc
 base:hB.Le hc
def FRes(hB:GH)(r:Nat)(M:E3->Option Int)(h h':GH):Prop:=Cp h' r Ek Df M/\Bc (λb=>b=r) h h'/\hB.Le h'
section
variable {hB h hc h':GH} {r:Nat} {M M':E3->Option Int}
theorem Cp.some(x:Cp h r Ek Df M):∃o,h r=some (true,o)/\JR o=false:=by obtain ⟨es,clk,hb,_⟩:=x;exact ⟨_,hb,rfl⟩
theorem DR.start(x:Cp h r Ek Df M)(l:hB.Le h):DR hB r M h h:=⟨x,Bc.refl _ _,l⟩
theorem DR.le(y:DR hB r M h hc)(l:hc.Le h'):DR hB r M h h':=by
 obtain ⟨o,ho,_⟩:=y.ok.some;exact ⟨y.ok.le_other ((l.keep ho rfl).trans ho.symm),y.keep.trans (λ_ q=>.inl q) (l.keepX _),y.base.trans l⟩
theorem DR.store(y:DR hB r M h hc){q:Nat}(hq:h q=none)(qB:hB q=none)(hn:q≠r)(ho:∀b,b≠q->h' b=hc b):DR hB r M h h':=
 ⟨y.ok.le_other (ho r (Ne.symm hn)),y.keep.store hq ho,y.base.upd qB ho⟩
theorem DR.put(y:DR hB r M h hc)(rB:hB r=none)(x:Cp h' r Ek Df M')(ho:∀b,b≠r->h' b=hc b):DR hB r M' h h':=⟨x,y.keep.store' (.inl rfl) ho,y.base.upd rB ho⟩
theorem DR.call(y:DR hB r M h hc)(m:FRes hB r M' hc h'):DR hB r M' h h':=⟨m.1,y.keep.trans (λ_ q=>.inl q) m.2.1,m.2.2⟩
theorem DR.ne(y:DR hB r M h hc){q:Nat}(hq:hc q=none):q≠r:=λe=>by
 obtain ⟨o,ho,_⟩:=y.ok.some;rw [e,ho] at hq;cases hq
theorem DR.nothing(y:DR hB r M h hc){q:Nat}(hq:hc q=none):h q=none:=by
 cases hx:h q with
 | none=>rfl
 | some x=>
  obtain ⟨o',h1,_⟩:=y.keep q x.1 x.2 hx (y.ne hq);rw [h1] at hq;cases hq
theorem NH(x:h r=some (true,.map #[] 0)):Cp h r Ek Df Tk:=Cp.empty x
theorem Cp.slDel{V:Type}(x:Cp h r Ek Df M){v:Value}{n:Nat}{enc:V->Array Value}{xs:List V}(y:AC h v n enc xs):AC (h.del r) v n enc xs:=by
 obtain ⟨es,clk,hb,_⟩:=x;exact AC.slDel y hb
theorem Cp.leF(x:Cp h r Ek Df M)(l:h.Le h'):Cp h' r Ek Df M:=by
 obtain ⟨o,ho,e⟩:=x.some;exact x.le_other ((l.keep ho e).trans ho.symm)
theorem DR.res(y:DR hB r M h hc):FRes hB r M h hc:=⟨y.ok,y.keep,y.base⟩
end
theorem NI{bag kinds:Int}{ps:List ByteArray}{ws:List AF}{js:List AN}{ns:List AI}(b:BV bag kinds ps ws js ns){ag:AG->Bool}:∀{f i:Nat}{p:AG},i+f=ws.length+js.length->CF p->∀q ∈ CX ag ws js f i p,CF q
 | 0,_,p,_,hp,q,hq=>by rw [List.mem_singleton.1 hq];exact hp
 | f+1,i,p,h,hp,q,hq=>by
  rw [Gf] at hq;obtain ⟨n,hn,hq⟩:=List.mem_flatMap.1 hq;have h1:=b.few (i:=i) aA;have h2:=QU.1 hn;unfold CM at hq;split at hq
  ·cases hq
  ·exact NI b (f:=f) aA (hp.put aA) q hq
section
variable {bag kinds:Int} {ps:List ByteArray} {ws:List AF} {js:List AN} {ns:List AI}
theorem Gp(b:BV bag kinds ps ws js ns):∀q ∈ AD ws js ns,CF q:=by
 intro q hq;unfold AD at hq;split at hq
 ·exact NI b aA CF.zero q hq
 ·cases hq
theorem O1(b:BV bag kinds ps ws js ns)(k:Nat):CF ((AD ws js ns).getD k AG.zero):=by
 rcases Nat.lt_or_ge k (AD ws js ns).length with h | h
 ·exact Gp b _ (B7 h)
 ·rw [CE h];exact CF.zero
def Ae(bag kinds:Int)(ps:List ByteArray)(ws:List AF)(js:List AN)(ns:List AI)(s:Int):Int:=
 if¬BQ bag kinds ps ws js ns=0 then BQ bag kinds ps ws js ns else if¬s=0 then s else if (AD ws js ns).length=0 then 9 else 0
variable {s:Int}
theorem XO(h:¬BQ bag kinds ps ws js ns=0):Ae bag kinds ps ws js ns s=BQ bag kinds ps ws js ns:=if_pos h
theorem XP(h:¬¬BQ bag kinds ps ws js ns=0)(h2:¬s=0):Ae bag kinds ps ws js ns s=s:=by unfold Ae;rw [if_neg h,if_pos h2]
theorem XQ(h:¬¬BQ bag kinds ps ws js ns=0)(h2:¬¬s=0)(h3:(AD ws js ns).length=0):Ae bag kinds ps ws js ns s=9:=by unfold Ae;rw [if_neg h,if_neg h2,if_pos h3]
theorem openB_4(h:¬¬BQ bag kinds ps ws js ns=0)(h2:¬¬s=0)(h3:¬(AD ws js ns).length=0):Ae bag kinds ps ws js ns s=0:=by unfold Ae;rw [if_neg h,if_neg h2,if_neg h3]
theorem El(h:Ae bag kinds ps ws js ns s=0):BV bag kinds ps ws js ns/\s=0/\0<(AD ws js ns).length:=by
 unfold Ae at h;split at h
 ·rename_i a;exact absurd h a
 ·split at h
  ·rename_i a b;exact absurd h b
  ·split at h
   ·cases h
   ·rename_i a b c
    exact ⟨Cl (Decidable.not_not.1 a),Decidable.not_not.1 b,aA⟩
theorem w5_eq{p q:AG}(h:(!((p.ways 0==q.ways 0 && (p.ways 1==q.ways 1 && (p.ways 2==q.ways 2 && (p.ways 3==q.ways 3 && (p.ways 4==q.ways 4 && true)))))))=false):p.w5=q.w5:=by
 simp only [Bool.not_eq_false',Bool.and_eq_true,beq_iff_eq,and_true] at h;obtain ⟨e0,e1,e2,e3,e4⟩:=h;simp only [AG.w5,e0,e1,e2,e3,e4]
theorem GG.is{h:GH}{r np:Nat}{ws:List AF}{pq:List AG}{M:E3->Option Int}{k:Nat}(x:Cp h r Ek Df M)(hM:GG np ws (pq.take k) M)(hk:pq.length<=k):D6 h r np ws pq:=by
 rw [List.take_of_length_le hk] at hM;exact ⟨true,M,x,hM⟩
theorem Q1{a b c d e f w:Value}{r:Nat}(h:w.cells=#[w]):Instr.fill (λx=>#[(0,6),(6,1),(7,1)][x]?) #[.int .i64 0,.int .i64 0,.slice none 0 0,.slice none 0 0,.slice none 0 0,.slice none 0 0,.slice none 0 0,.map none] [(0,.agg #[a,b,c,d,e,f]),(1,w),(2,.map (some r))]=some #[a,b,c,d,e,f,w,.map (some r)]:=by
 have e1:∀cs,(Value.agg cs).cells=cs:=λ_=>rfl;have e2:∀q,(Value.map q).cells=#[.map q]:=λ_=>rfl;simp [Instr.fill,h,e1,e2]
end
end Go.Ns
namespace Go.Ns
open Go.Conc
section
variable {P:Program} {E:GF P} {O:Nat->Value} {ds:List Deferred} {h:GH} {T:(Nat->Value)->List Deferred->GH->Prop}
variable {dst:Option Nat} {ty:TypeId} {pos:String} {af:Array Edge} {gd:Option (Nat×Bool)}
def La(P:Program)(e:TypeId):Option Nat:=(P.info? e).map (·.bytes)
theorem SX(z:Value)(n:Nat):(Array.range n).map (λi=>(#[z]:Array Value)[i%(#[z]:Array Value).size]!)=Array.replicate n z:=by
 apply Array.ext
 ·simp
 ·intro i h1 h2;simp [Nat.mod_one]
theorem Lb{t:TypeId}{l c:Operand}{N by_:Nat}{z:Value}{e:TypeId}(hs:DL P t=some (1,#[z],e))(hby:La P e=some by_)(hl:AO O l=.int .i64 N)(hc:AO O c=.int .i64 N)(hb:by_*N<=281474976710656)(hN2:N<=16777216)
  (k:∀r h',h r=none->h.Le h'->h' r=some (true,.cells (Array.replicate N z) e (0,0))->(∀b,b≠r->h' b=h b)->T (putS O dst (.slice (some ⟨r,0,none⟩) N N)) ds h'):BS E ⟨dst,.makeSlice t l c,ty,pos,af,gd⟩ O ds h T:=by
 unfold BS execOp;refine FW ?_;unfold DL at hs;unfold Instr.makeSlice;rw [hl,hc];cases hu:P.underlying t with
 | none=>rw [hu] at hs;cases hs
 | some d=>
  rw [hu] at hs;cases d <;> first | (cases hs;done) | skip
  rename_i e'
  simp only at hs;cases ht:Cb P e' with
  | none=>rw [ht] at hs;cases hs
  | some x=>
   cases hz:Bw P e' with
   | none=>rw [ht,hz] at hs;cases hs
   | some z'=>
    rw [ht,hz] at hs;simp only [Option.some.injEq,Prod.mk.injEq] at hs;obtain ⟨hx2,rfl,rfl⟩:=hs;refine AE _ _ (Ao hu ?_);refine AE _ _ (Av ?_);refine AE _ _ (Av ?_);unfold La at hby;unfold Bw at hz;cases hi:P.info? e' with
    | none=>rw [hi] at hz;cases hz
    | some i=>
    rw [hi] at hz hby;simp only [Option.map_some,Option.some.injEq] at hby;simp only [Option.map_eq_some_iff] at hz;obtain ⟨v,hv,hvz⟩:=hz;refine AE _ _ (Cj hi ?_);have hw:IntKind.i64.wrap (N:Int)=N:=IntWalk.i64_in _ aA;simp only [hw,hby];have hb':((by_:Int)*(N:Int))<=281474976710656:=by rw [<-Int.natCast_mul];exact Int.ofNat_le.2 hb
    rw [if_neg (by simp;omega)];simp only [Int.toNat_natCast];have hask:∀(m:Nat)(Q:Unit->GH->Prop),Q () h->(askRoom m).gh P h Q:=λm Q q=>by
     unfold askRoom;split
     ·exact ⟨rfl,q⟩
     ·exact q
    refine AE _ _ (hask _ _ ?_);refine AE _ _ (GK (by rw [ht];rfl) ?_);dsimp only;rw [hx2,Nat.mul_one];by_cases hN:N=0
    ·subst hN;rw [if_pos rfl];refine AE _ _ (Av ?_);rw [show (Array.range 0).map (λi=>(#[]:Array Value)[i%(#[]:Array Value).size]!)=Array.replicate 0 z from aD];refine AE _ _ ?_;unfold newRow;refine AE _ _ (λr hr=>?_);exact k r _ hr (GH.Le.new hr _ _) (GH.set_same _ _ _ _) λb hb=>GH.set_ne _ _ _ hb
    rw [if_neg hN];unfold zeroValue;refine AE _ _ (AE _ _ (AE _ _ (Cj hi ?_)));rw [hv];refine Av ?_;refine AE _ _ (Av ?_);rw [hvz,SX];refine AE _ _ ?_;unfold newRow;refine AE _ _ (λr hr=>?_);exact k r _ hr (GH.Le.new hr _ _) (GH.set_same _ _ _ _) λb hb=>GH.set_ne _ _ _ hb
theorem Ji{V:Type}{enc:V->Array Value}{x:V}{z:Value}(he:enc x=#[z]):∀N:Nat,DU enc (List.replicate N x)=List.replicate N z
 | 0=>rfl
 | N+1=>by
  have:=Ji he N
  unfold DU at this ⊢;rw [List.replicate_succ,List.flatMap_cons,this,he];rfl
theorem AS.made{V:Type}{h h':GH}{r N:Nat}{t:TypeId}{enc:V->Array Value}{x:V}{z:Value}(hr:h r=none)(hb:h' r=some (true,.cells (Array.replicate N z) t (0,0)))(hN:N<=16777216)(he:enc x=#[z]) :
  AS h h' (.slice (some ⟨r,0,none⟩) N N) t 1 enc (List.replicate N x):=
 .inr ⟨r,N,_,by rw [List.length_replicate],hr,hb,aD,aD,by rw [List.length_replicate];omega,by rw [Ji he,List.length_replicate,Nat.mul_one];simp,λy hy=>by rw [(List.mem_replicate.1 hy).2,he];rfl⟩
end
def F2(nj:Nat)(k:Int):Int:=if¬(0<=k/\k<=(nj:Int)-1) then 6 else 0
def Hy(nj:Nat)(l:List Int)(k:Nat):Int:=if¬F2 nj (l.getD k 0)=0 then F2 nj (l.getD k 0) else if (l.take k).any (λx=>decide (l.getD k 0=x))=true then 5 else 0
def Ai(nj:Nat)(l:List Int):Int:=Cv (Hy nj l) 0 l.length
def F3(bag kinds:Int)(ps:List ByteArray)(ws:List AF)(js:List AN)(ns:List AI)(l:List Int):Int:=
 if¬BQ bag kinds ps ws js ns=0 then BQ bag kinds ps ws js ns else Ai js.length l
theorem NJ{nj:Nat}{k:Int}(h:F2 nj k=0):0<=k/\k<nj:=by
 unfold F2 at h;split at h
 ·cases h
 ·omega
theorem E4{nj:Nat}{l:List Int}(h:Ai nj l=0)(k:Nat)(hk:k<l.length):0<=l.getD k 0/\l.getD k 0<nj:=by
 have h1:=DH h k (Nat.zero_le _) aA;unfold Hy at h1;split at h1
 ·rename_i a;exact absurd h1 a
 ·rename_i a;exact NJ (Decidable.not_not.1 a)
def GT(out ps:List Int):Nat->List Int
 | 0=>out
 | i+1=>(GT out ps i).set i ((GT out ps i).getD i 0+ps.getD i 0)
def Ch(kinds:Int)(js:List AN)(l:List Int):Nat->List Int
 | 0=>List.replicate kinds.toNat 0
 | q+1=>GT (Ch kinds js l q) (js.getD (l.getD q 0).toNat AN.z).parts (js.getD (l.getD q 0).toNat AN.z).parts.length
def DA(kinds:Int)(js:List AN)(l:List Int):List Int:=Ch kinds js l l.length
theorem Lc(out ps:List Int):∀i,(GT out ps i).length=out.length
 | 0=>rfl
 | i+1=>by rw [GT,List.length_set,Lc out ps i]
theorem O2(out ps:List Int)(hl:ps.length=out.length):∀i,i<=ps.length->∀j,(GT out ps i).getD j 0=if j<i then out.getD j 0+ps.getD j 0 else out.getD j 0
 | 0,_,j=>by rw [if_neg aA];rfl
 | i+1,h,j=>by
  have e:=O2 out ps hl i aA;have hn:=Lc out ps i;unfold GT;rw [List.getD_eq_getElem?_getD,List.getElem?_set];by_cases hij:i=j
  ·subst hij;rw [if_pos rfl,if_pos aA,if_pos aA,Option.getD_some,e i,if_neg aA]
  ·rw [if_neg hij,<-List.getD_eq_getElem?_getD,e j];by_cases h1:j<i
   ·rw [if_pos h1,if_pos aA]
   ·rw [if_neg h1,if_neg aA]
section
variable {bag kinds:Int} {ps:List ByteArray} {ws:List AF} {js:List AN} {ns:List AI} {l:List Int}
theorem O3(b:BV bag kinds ps ws js ns){k:Int}(h:0<=k/\k<js.length):JobOK ps.length kinds (js.getD k.toNat AN.z):=LW (b.job k.toNat aA)
theorem Iy(b:BV bag kinds ps ws js ns):∀q,(Ch kinds js l q).length=kinds.toNat
 | 0=>List.length_replicate
 | q+1=>by rw [Ch,Lc,Iy b q]
theorem Km(b:BV bag kinds ps ws js ns)(hr:∀k,k<l.length->0<=l.getD k 0/\l.getD k 0<js.length):∀q,q<=l.length->∀j,0<=(Ch kinds js l q).getD j 0/\(Ch kinds js l q).getD j 0<=5*(q:Int)
 | 0,_,j=>by
  unfold Ch;rw [List.getD_eq_getElem?_getD,List.getElem?_replicate];split <;> simp
 | q+1,h,j=>by
  have e:=Km b hr q aA j;have x:=O3 b (hr q aA);have x2:=x.part j;have x3:=x.len;unfold Ch;rw [O2 _ _ (by rw [Iy b q];omega) _ (Nat.le_refl _)];split <;> omega
theorem addP_rng(b:BV bag kinds ps ws js ns)(hr:∀k,k<l.length->0<=l.getD k 0/\l.getD k 0<js.length){q:Nat}(hq:q<l.length){i:Nat}(hi:i<(js.getD (l.getD q 0).toNat AN.z).parts.length) :
  (GT (Ch kinds js l q) (js.getD (l.getD q 0).toNat AN.z).parts i).length=(js.getD (l.getD q 0).toNat AN.z).parts.length/\0<=(GT (Ch kinds js l q) (js.getD (l.getD q 0).toNat AN.z).parts i).getD i 0/\(GT (Ch kinds js l q) (js.getD (l.getD q 0).toNat AN.z).parts i).getD i 0<=5*(q:Int)/\
  0<=(js.getD (l.getD q 0).toNat AN.z).parts.getD i 0/\(js.getD (l.getD q 0).toNat AN.z).parts.getD i 0<=5:=by
 have x:=O3 b (hr q hq);have e:=Km b hr q aA i;have x3:=x.len;have hl:=Iy (l:=l) b q;refine ⟨by rw [Lc,hl];omega,?_⟩;rw [O2 _ _ (by rw [hl];omega) i aA,if_neg aA];exact ⟨e.1,e.2,x.part i⟩
theorem VR(b:BV bag kinds ps ws js ns):(DA kinds js l).length=kinds.toNat:=Iy b _
theorem VS(b:BV bag kinds ps ws js ns)(hr:∀k,k<l.length->0<=l.getD k 0/\l.getD k 0<js.length)(j:Nat):0<=(DA kinds js l).getD j 0/\(DA kinds js l).getD j 0<=5*(l.length:Int):=Km b hr _ (Nat.le_refl _) j
theorem sum_take(xs:List Int){k:Nat}(h:k<xs.length):(xs.take (k+1)).sum=(xs.take k).sum+xs.getD k 0:=by
 rw [List.take_add_one,List.sum_append,List.getD_eq_getElem?_getD,List.getElem?_eq_getElem h];simp
theorem sum_all(xs:List Int){k:Nat}(h:xs.length<=k):(xs.take k).sum=xs.sum:=by rw [List.take_of_length_le h]
theorem Tl(h:F3 bag kinds ps ws js ns l=0):BV bag kinds ps ws js ns/\∀k,k<l.length->0<=l.getD k 0/\l.getD k 0<js.length:=by
 unfold F3 at h;split at h
 ·rename_i a;exact absurd h a
 ·rename_i a;exact ⟨Cl (Decidable.not_not.1 a),E4 h⟩
def Q2(bag kinds:Int)(ps:List ByteArray)(ws:List AF)(js:List AN)(ns:List AI)(l:List Int):List Int:=if¬F3 bag kinds ps ws js ns l=0 then [] else DA kinds js l
def XR(bag kinds:Int)(ps:List ByteArray)(ws:List AF)(js:List AN)(ns:List AI)(l:List Int):Bool:=if¬F3 bag kinds ps ws js ns l=0 then false else decide ((DA kinds js l).sum<=bag)
end
end Go.Ns
namespace Go.Ns
open Go.Conc
section
variable {P:Program} {E:GF P} {O:Nat->Value} {ds:List Deferred} {h:GH} {T:(Nat->Value)->List Deferred->GH->Prop}
variable {dst:Option Nat} {ty:TypeId} {pos:String} {af:Array Edge} {gd:Option (Nat×Bool)}
theorem Kn{t kt vt:TypeId}{x ix:Operand}{r np:Nat}{ws:List AF}{pq:List AG}{q:AG}{a b:Int}{z:Value}(ht:LJ P t=some (kt,vt))(hx:AO O x=.map (some r))(hk:AO O ix=Ek (q.w5,a,b))(hm:D6 h r np ws pq)
  (hc:∀a:E3,ckP P 4 kt (Ek a)=true)
  (he:∀a b:E3,Nu P 4 kt (Ek a) (Ek b)=some ((a.1.1==b.1.1 && (a.1.2.1==b.1.2.1 && (a.1.2.2.1==b.1.2.2.1 && (a.1.2.2.2.1==b.1.2.2.2.1 && (a.1.2.2.2.2==b.1.2.2.2.2 && true))))) && (a.2.1==b.2.1 && (a.2.2==b.2.2 && true))))
  (hz:(P.info? vt).bind (·.zero)=some z) (hq:q ∈ pq) (ha:0<=a/\a<np) (hb:0<=b/\b<np)
  (k:T (putS O dst (.int .i64 (A9 np ws q a.toNat b.toNat))) ds h):BS E ⟨dst,.lookup t x ix false,ty,pos,af,gd⟩ O ds h T:=by
 obtain ⟨pm,M,hM,hF⟩:=hm;have e:=hF q hq a.toNat b.toNat aA aA;rw [Int.toNat_of_nonneg ha.1,Int.toNat_of_nonneg hb.1] at e;refine QQ (d:=3) (a:=(q.w5,a,b)) ht hx hk hM rfl (hc _) (λb=>by rw [he,E3.eq_iff]) hz ?_;rw [e];exact k
theorem Q3{V:Type}{t:TypeId}{x:Operand}{olo ohi:Option Operand}{n:Nat}{enc:V->Array Value}{xs:List V}{v:Value}{hk:GH}(lo hi:Nat)(ht:Eb P t=some n)(hs:AC hk v n enc xs)(hx:AO O x=v)
  (hlo:match olo with | none=>lo=0 | some o=>∃kd,AO O o=.int kd lo) (hhi:match ohi with | none=>hi=xs.length | some o=>∃kd,AO O o=.int kd hi) (h1:lo<=hi) (h2:hi<=xs.length)
  (k:∀v',AC hk v' n enc ((xs.take hi).drop lo)->T (putS O dst v') ds h):BS E ⟨dst,.slice t x olo ohi none,ty,pos,af,gd⟩ O ds h T:=by
 have hs':=hs;obtain ⟨a,cap,rfl,hc,_,_⟩:=hs';exact J5 lo hi ht hc hx hlo hhi h1 h2 (k _ (hs.part h1 h2))
end
def YG(F:AG->Int)(l:List AG):Nat->Int
 | 0=>F (l.getD 0 AG.zero)
 | k+1=>min (YG F l k) (F ((l.drop 1).getD k AG.zero))
def YH(F:AG->Int)(l:List AG):Nat->Int
 | 0=>F (l.getD 0 AG.zero)
 | k+1=>max (YH F l k) (F ((l.drop 1).getD k AG.zero))
def Dx(F:AG->Int)(l:List AG):Int:=YG F l (l.length-1)
def CQ(F:AG->Int)(l:List AG):Int:=YH F l (l.length-1)
theorem YI{l:List AG}{k:Nat}(h:k<l.length-1):(l.drop 1).getD k AG.zero ∈ l:=List.mem_of_mem_drop (B7 (by rw [List.length_drop];exact h))
def Q4(s v:Int):Int:=if s=0 then v else 0
theorem NK(v:Int):Q4 0 v=v:=if_pos rfl
theorem NL{s v:Int}(h:¬s=0):Q4 s v=0:=if_neg h
end Go.Ns
namespace Go.Ns
open Go.Conc
theorem VT:∀(n m:Nat)(f:Nat->Nat),(∀i,i<m->f i<n)->(∀i j,i<j->j<m->f i≠f j)->m<=n
 | 0,m,f,h,_=>by
  rcases Nat.eq_zero_or_pos m with e | e
  ·omega
  ·exact absurd (h 0 e) (Nat.not_lt_zero _)
 | n+1,m,f,h,d=>by
  rcases Nat.eq_zero_or_pos m with e | e
  ·omega
  ·have x:=VT n (m-1) (λi=>if f i=n then f (m-1) else f i) (λi hi=>by
    have h1:=h i aA;have h2:=h (m-1) aA;have h3:=d i (m-1) hi aA;show (if f i=n then f (m-1) else f i)<n;split <;> omega) (λi j hij hj=>by
    have h1:=d i j hij aA;have h2:=d i (m-1) aA aA;have h3:=d j (m-1) aA aA;show (if f i=n then f (m-1) else f i)≠(if f j=n then f (m-1) else f j);split <;> split <;> omega)
   omega
theorem IZ{nj:Nat}{l:List Int}(h:Ai nj l=0):l.length<=nj:=by
 refine VT nj l.length (λk=>(l.getD k 0).toNat) (λi hi=>?_) λi j hij hj=>?_
 ·have:=E4 h i hi
  show (l.getD i 0).toNat<nj;omega
 ·have hi:=E4 h i aA;have hj':=E4 h j hj;have h1:=DH h j (Nat.zero_le _) aA;unfold Hy at h1;split at h1
  ·rename_i a;exact absurd h1 a
  ·split at h1
   ·cases h1
   ·rename_i a b
    show (l.getD i 0).toNat≠(l.getD j 0).toNat;intro e;refine b (List.any_eq_true.2 ⟨l.getD i 0,?_,decide_eq_true aA⟩);rw [List.mem_iff_getElem];refine ⟨i,by rw [List.length_take];omega,?_⟩;rw [List.getElem_take,List.getD_eq_getElem?_getD,List.getElem?_eq_getElem aA];rfl
def G4(js:List AN)(l:List Int):Nat->Int
 | 0=>0
 | q+1=>(js.getD (l.getD q 0).toNat AN.z).place
def B9(np:Nat)(ws:List AF)(js:List AN)(p:AG)(l:List Int):Nat->Int
 | 0=>0
 | q+1=>B9 np ws js p l q+(A9 np ws p (G4 js l q).toNat (js.getD (l.getD q 0).toNat AN.z).place.toNat+p.works (l.getD q 0).toNat)
def Em(np:Nat)(ws:List AF)(js:List AN)(p:AG)(l:List Int):Nat->List Int
 | 0=>[]
 | q+1=>Em np ws js p l q++[B9 np ws js p l (q+1)]
def A0(np:Nat)(ws:List AF)(js:List AN)(p:AG)(l:List Int):Int:=B9 np ws js p l l.length+A9 np ws p (G4 js l l.length).toNat 0
theorem Iz(np:Nat)(ws:List AF)(js:List AN)(p:AG)(l:List Int):∀q,(Em np ws js p l q).length=q
 | 0=>rfl
 | q+1=>by rw [Em,List.length_append,Iz np ws js p l q];rfl
theorem O4(np:Nat)(ws:List AF)(js:List AN)(p:AG)(l:List Int):∀q i,i<q->(Em np ws js p l q).getD i 0=B9 np ws js p l (i+1)
 | 0,i,h=>absurd h (Nat.not_lt_zero _)
 | q+1,i,h=>by
  have hl:=Iz np ws js p l q;rw [Em,List.getD_eq_getElem?_getD];by_cases e:i<q
  ·rw [List.getElem?_append_left aA,<-List.getD_eq_getElem?_getD];exact O4 np ws js p l q i e
  ·have e2:i=q:=aA
   subst e2;rw [List.getElem?_append_right aA,hl,Nat.sub_self];rfl
section
variable {bag kinds:Int} {ps:List ByteArray} {ws:List AF} {js:List AN} {ns:List AI} {l:List Int} {p:AG}
theorem Q5{np:Nat}(hp:CF p):(A9 np ws p).ok:=Tj (Oz hp)
theorem goAt_rng(b:BV bag kinds ps ws js ns)(hr:∀k,k<l.length->0<=l.getD k 0/\l.getD k 0<js.length):∀q,q<=l.length->0<=G4 js l q/\G4 js l q<ps.length
 | 0,_=>by have:=b.plen;show (0:Int)<=0/\(0:Int)<_;omega
 | q+1,h=>by have:=(O3 b (hr q aA)).place;show 0<=(js.getD (l.getD q 0).toNat AN.z).place/\(js.getD (l.getD q 0).toNat AN.z).place<ps.length;omega
theorem Q6(hp:CF p):∀q,0<=B9 ps.length ws js p l q/\B9 ps.length ws js p l q<=1048606*(q:Int)
 | 0=>⟨Int.le_refl 0,Int.le_refl 0⟩
 | q+1=>by
  have e:=Q6 hp q;have f:=Q5 (np:=ps.length) (ws:=ws) hp (G4 js l q).toNat (js.getD (l.getD q 0).toNat AN.z).place.toNat;have w:=hp.works (l.getD q 0).toNat;unfold B9;omega
end
end Go.Ns
namespace Go.Ns
open Go.Conc
theorem D6.store{h h':GH}{q r np:Nat}{ws:List AF}{pq:List AG}(x:D6 h r np ws pq)(ho:∀b,b≠q->h' b=h b)(n:r≠q):D6 h' r np ws pq:=by
 obtain ⟨pm,M,⟨es,clk,hb,hl⟩,hM⟩:=x;exact ⟨pm,M,⟨es,clk,(ho r n).trans hb,hl⟩,hM⟩
def eSp(x:Int×Int):Array Value:=#[.int .i64 x.1,.int .i64 x.2]
section
variable (np:Nat) (ws:List AF) (js:List AN) (pq:List AG) (l:List Int)
def endLo(i:Nat):Int:=Dx (λx=>B9 np ws js x l (i+1)) pq
def endHi(i:Nat):Int:=CQ (λx=>B9 np ws js x l (i+1)) pq
def I0:Nat->List (Int×Int)
 | 0=>[]
 | q+1=>I0 q++[(endLo np ws js pq l q,endHi np ws js pq l q)]
theorem O5:∀q,(I0 np ws js pq l q).length=q
 | 0=>rfl
 | q+1=>by rw [I0,List.length_append,O5 q];rfl
def O6(i:Nat):Bool:=decide (endHi np ws js pq l i<=(js.getD (l.getD i 0).toNat AN.z).due)
def CG(bag kinds:Int):Bool:=decide ((DA kinds js l).sum<=bag) && (List.range l.length).all (O6 np ws js pq l)
variable {np ws js pq l}
theorem YJ{q:Nat}(h:¬(js.getD (l.getD q 0).toNat AN.z).due<CQ (λx=>B9 np ws js x l ((q:Int).toNat+1)) pq):O6 np ws js pq l q=true:=decide_eq_true (Int.not_lt.1 h)
theorem YK{q:Nat}(h:(js.getD (l.getD q 0).toNat AN.z).due<CQ (λx=>B9 np ws js x l ((q:Int).toNat+1)) pq):O6 np ws js pq l q=false:=decide_eq_false (Int.not_le.2 h)
variable {bag kinds:Int}
theorem VU(h:¬(DA kinds js l).sum<=bag):CG np ws js pq l bag kinds=false:=by unfold CG;rw [decide_eq_false h];rfl
theorem YL{k:Nat}(hk:k<l.length)(h:(js.getD (l.getD k 0).toNat AN.z).due<CQ (λx=>B9 np ws js x l ((k:Int).toNat+1)) pq):CG np ws js pq l bag kinds=false:=by
 unfold CG;rw [Bool.and_eq_false_iff];refine .inr (Bool.eq_false_iff.2 λe=>?_)
 have:=List.all_eq_true.1 e k (List.mem_range.2 hk)
 rw [YK h] at this;cases this
theorem safe_all{k:Nat}(h:¬¬(DA kinds js l).sum<=bag)(hs:∀j,j<k->O6 np ws js pq l j=true)(hk:l.length<=k):CG np ws js pq l bag kinds=true:=by
 unfold CG;rw [decide_eq_true (Decidable.not_not.1 h),Bool.true_and];exact List.all_eq_true.2 λj hj=>hs j (by have:=List.mem_range.1 hj;omega)
end
def DS:Nat->List Int
 | 0=>[]
 | k+1=>DS k++[(k:Int)]
theorem DT:∀n,(DS n).length=n
 | 0=>rfl
 | n+1=>by rw [DS,List.length_append,DT n];rfl
def En(nj:Nat)(l:List Int)(i:Int):Int:=if¬Ai nj l=0 then Ai nj l else if¬(0<=i/\i<=(l.length:Int)-1) then 1 else 0
theorem Tm{nj:Nat}{l:List Int}{i:Int}(h:En nj l i=0):Ai nj l=0/\0<=i/\i<l.length:=by
 unfold En at h;split at h
 ·rename_i a;exact absurd h a
 ·rename_i a
  split at h
  ·cases h
  ·exact ⟨Decidable.not_not.1 a,aA⟩
section
variable (bag kinds:Int) (ps:List ByteArray) (ws:List AF) (js:List AN) (ns:List AI) (l:List Int)
def Q7:List (Int×Int):=if¬Ae bag kinds ps ws js ns (Ai js.length l)=0 then [] else I0 ps.length ws js (AD ws js ns) l l.length
def XS:Bool:=if¬Ae bag kinds ps ws js ns (Ai js.length l)=0 then false else CG ps.length ws js (AD ws js ns) l bag kinds
def KV(i:Int):Int:=
 if¬Ae bag kinds ps ws js ns (En js.length l i)=0 then 0 else if (js.getD (l.getD i.toNat 0).toNat AN.z).due<endLo ps.length ws js (AD ws js ns) l i.toNat then 1
 else if endHi ps.length ws js (AD ws js ns) l i.toNat<=(js.getD (l.getD i.toNat 0).toNat AN.z).due then 2 else 0
variable {bag kinds ps ws js ns l} {i:Int}
theorem late_yes(h0:Ae bag kinds ps ws js ns (En js.length l i)=0)(h:(js.getD (l.getD i.toNat 0).toNat AN.z).due<Dx (λx=>B9 ps.length ws js x l (i.toNat+1)) (AD ws js ns)):(1:Int)=KV bag kinds ps ws js ns l i:=by
 unfold KV;rw [if_neg (λx=>x h0)];exact (if_pos h).symm
theorem late_no(h0:Ae bag kinds ps ws js ns (En js.length l i)=0)(h:¬(js.getD (l.getD i.toNat 0).toNat AN.z).due<Dx (λx=>B9 ps.length ws js x l (i.toNat+1)) (AD ws js ns))
  (h2:CQ (λx=>B9 ps.length ws js x l (i.toNat+1)) (AD ws js ns)<=(js.getD (l.getD i.toNat 0).toNat AN.z).due):(2:Int)=KV bag kinds ps ws js ns l i:=by
 unfold KV;rw [if_neg (λx=>x h0)];exact ((if_neg h).trans (if_pos h2)).symm
theorem YM(h0:Ae bag kinds ps ws js ns (En js.length l i)=0)(h:¬(js.getD (l.getD i.toNat 0).toNat AN.z).due<Dx (λx=>B9 ps.length ws js x l (i.toNat+1)) (AD ws js ns))
  (h2:¬CQ (λx=>B9 ps.length ws js x l (i.toNat+1)) (AD ws js ns)<=(js.getD (l.getD i.toNat 0).toNat AN.z).due):(0:Int)=KV bag kinds ps ws js ns l i:=by
 unfold KV;rw [if_neg (λx=>x h0)];exact ((if_neg h).trans (if_neg h2)).symm
theorem late_bad(h0:¬Ae bag kinds ps ws js ns (En js.length l i)=0):(0:Int)=KV bag kinds ps ws js ns l i:=by unfold KV;rw [if_pos h0]
end
end Go.Ns
namespace Go.Ns
open Go.Conc
def Gh(i:Nat)(pq:List AG):Nat->List Int
 | 0=>[]
 | k+1=>Gh i pq k++[(pq.getD k AG.zero).works i]
theorem Gq(i:Nat)(pq:List AG):∀k,(Gh i pq k).length=k
 | 0=>rfl
 | k+1=>by rw [Gh,List.length_append,Gq i pq k];rfl
theorem O7{i:Nat}{pq:List AG}{k:Nat}(h:0<k):Gh i pq k≠[]:=λe=>by
 have:=Gq i pq k
 rw [e] at this;simp at this;omega
def MO(bag kinds:Int)(ps:List ByteArray)(ws:List AF)(js:List AN)(ns:List AI)(i:Int):List Int:=
 if¬Ae bag kinds ps ws js ns (F2 js.length i)=0 then [] else Dd (EY (Gh i.toNat (AD ws js ns) (AD ws js ns).length))
end Go.Ns
namespace Go.Ns
open Go.Conc
theorem Tn{h:GH}{r:Nat}{M:Int->Option Int}(x:Cp h r Df Df M):∃y,h r=some y:=by
 obtain ⟨es,clk,hb,_⟩:=x;exact ⟨_,hb⟩
def DO(ns:List AI)(mask:Int)(k:Nat):List AI:=((List.range k).filter (M7 mask)).map λ(i:Nat)=>ns.getD i AI.z
section
variable {ns:List AI} {mask:Int} {k:Nat} {h:GH}
theorem pickN_t(hb:mask.fdiv (2 ^ k)%2=1):DO ns mask (k+1)=DO ns mask k++[ns.getD k AI.z]:=by
 unfold DO;rw [JW (by unfold M7;rw [decide_eq_true hb]),List.map_append];rfl
theorem pickN_f(hb:¬mask.fdiv (2 ^ k)%2=1):DO ns mask (k+1)=DO ns mask k:=by
 unfold DO;rw [JX (by unfold M7;rw [decide_eq_false hb])]
theorem Q8(ns:List AI)(mask:Int)(k:Nat):(DO ns mask k).length<=k:=by
 unfold DO;rw [List.length_map]
 have:=List.length_filter_le (M7 mask) (List.range k)
 rwa [List.length_range] at this
theorem To(ns:List AI)(mask:Int)(k q:Nat)(hq:q<(DO ns mask k).length):∃i,i<k/\(DO ns mask k).getD q AI.z=ns.getD i AI.z:=by
 have hm:(DO ns mask k).getD q AI.z ∈ DO ns mask k:=B7 hq;unfold DO at hm ⊢;obtain ⟨i,hi,e⟩:=List.mem_map.1 hm;exact ⟨i,List.mem_range.1 (List.mem_filter.1 hi).1,e.symm⟩
theorem AU.pick(x:AU h ns)(mask:Int)(k:Nat):AU h (DO ns mask k):=λq=>by
 by_cases hq:q<(DO ns mask k).length
 ·obtain ⟨i,_,e⟩:=To ns mask k q hq;rw [e];exact x i
 ·rw [List.getD_eq_getElem?_getD,List.getElem?_eq_none aA];exact AU.nil h 0
theorem AU.fine1(x:AU h ns)(k:Nat):(Am (ns.getD k AI.z)).toList.all (·.oneCell')=true:=by
 show (((ns.getD k AI.z).wv.oneCell') && (true && (true && true)))=true;rw [(AC.one (x k)).2];rfl
theorem AU.fine(x:AU h ns):∀y ∈ ns,(Am y).toList.all (·.oneCell')=true:=λy hy=>by
 obtain ⟨i,hi,e⟩:=List.mem_iff_getElem.1 hy
 have:=x.fine1 i
 rw [List.getD_eq_getElem?_getD,List.getElem?_eq_getElem hi] at this;rw [<-e];exact this
theorem Lf{nw:Nat}{ns ns':List AI}{k i:Nat}(e:ns'.getD k AI.z=ns.getD i AI.z):Ds nw ns' k=Ds nw ns i:=by unfold Ds;rw [e]
theorem BV.pick{bag kinds:Int}{ps:List ByteArray}{ws:List AF}{js:List AN}(b:BV bag kinds ps ws js ns)(mask:Int):BV bag kinds ps ws js (DO ns mask ns.length):=
 { b with
  nlen:=Nat.le_trans (Q8 ns mask ns.length) b.nlen
  note:=λk hk=>by
   obtain ⟨i,hi,e⟩:=To ns mask ns.length k hk;rw [Lf e];exact b.note i hi }
end
section
variable (ws:List AF) (js:List AN) (ns:List AI)
def EF(x:Bool×List Int)(l:List Int):Bool:=x.1 && (decide ((x.2.length:Int)<l.length) || (decide ((l.length:Int)=x.2.length) && decide (0<JY l x.2)))
def BU:Nat->Bool×List Int
 | 0=>(false,[])
 | q+1=>if EF (BU q) (Aq (q:Int) ns.length)=true then BU q else if (AD ws js (DO ns (q:Int) ns.length)).length=0 then (true,Aq (q:Int) ns.length) else BU q
variable {ws js ns} {q:Nat}
theorem Gr(h:EF (BU ws js ns q) (Aq (q:Int) ns.length)=true):BU ws js ns (q+1)=BU ws js ns q:=if_pos h
theorem Hz(h:EF (BU ws js ns q) (Aq (q:Int) ns.length)=false)(h2:((AD ws js (DO ns (q:Int) ns.length)).length:Int)=0):BU ws js ns (q+1)=(true,Aq (q:Int) ns.length):=by
 rw [BU,if_neg (by rw [h];simp),if_pos aA]
theorem H0(h:EF (BU ws js ns q) (Aq (q:Int) ns.length)=false)(h2:¬((AD ws js (DO ns (q:Int) ns.length)).length:Int)=0):BU ws js ns (q+1)=BU ws js ns q:=by
 rw [BU,if_neg (by rw [h];simp),if_neg aA]
theorem Q9{x:Bool×List Int}{l:List Int}(h:x.1=false):EF x l=false:=by unfold EF;rw [h];rfl
theorem YN{x:Bool×List Int}{l:List Int}(h:¬(x.2.length:Int)<l.length)(h2:¬(l.length:Int)=x.2.length):EF x l=false:=by
 unfold EF;rw [decide_eq_false h,decide_eq_false h2];simp
theorem YO{x:Bool×List Int}{l:List Int}(h:¬(x.2.length:Int)<l.length)(h2:¬0<JY l x.2):EF x l=false:=by
 unfold EF;rw [decide_eq_false h,decide_eq_false h2];simp
theorem RA{x:Bool×List Int}{l:List Int}(h:x.1=true)(h1:(x.2.length:Int)<l.length):EF x l=true:=by
 unfold EF;rw [h,decide_eq_true h1];simp
theorem RB{x:Bool×List Int}{l:List Int}(h:x.1=true)(h1:(l.length:Int)=x.2.length)(h2:0<JY l x.2):EF x l=true:=by
 unfold EF;rw [h,decide_eq_true h1,decide_eq_true h2];simp
theorem pow_16:∀{n:Nat},n<=4->(1:Int)<=(2:Int) ^ n/\(2:Int) ^ n<=16
 | 0,_=>aC
 | 1,_=>aC
 | 2,_=>aC
 | 3,_=>aC
 | 4,_=>aC
theorem O8:∀q,(BU ws js ns q).2.length<=ns.length
 | 0=>Nat.zero_le _
 | q+1=>by
  have e:=O8 q;unfold BU;split
  ·exact e
  ·split
   ·exact HR _ _
   ·exact e
def Au(bag kinds:Int)(ps:List ByteArray)(ws:List AF)(js:List AN)(ns:List AI):List Int:=
 if¬BQ bag kinds ps ws js ns=0 then [] else if (0:Int)<(AD ws js ns).length then [] else (BU ws js ns (2 ^ ns.length)).2
end
section
variable {bag kinds:Int} {ps:List ByteArray} {ws:List AF} {js:List AN} {ns:List AI} {q:Nat}
theorem Tp(h:¬BQ bag kinds ps ws js ns=0):Au bag kinds ps ws js ns=[]:=if_pos h
theorem I2(h:(0:Int)<(AD ws js ns).length):Au bag kinds ps ws js ns=[]:=by
 unfold Au;rw [if_pos h];exact ite_self _
theorem Tq(h:BQ bag kinds ps ws js ns=0)(h1:¬(0:Int)<(AD ws js ns).length)(hq:¬(q:Int)<(2:Int) ^ ((ns.length:Int)).toNat)(hq2:(q:Int)<=(2:Int) ^ ((ns.length:Int)).toNat):Au bag kinds ps ws js ns=(BU ws js ns q).2:=by
 have e:((2 ^ ns.length:Nat):Int)=(2:Int) ^ ((ns.length:Int)).toNat:=by rw [Int.toNat_natCast,Int.natCast_pow];rfl
 rw [<-e] at hq hq2
 have:2 ^ ns.length=q:=aA
 unfold Au;rw [if_neg (λx=>x h),if_neg h1,this]
end
section
variable (ws:List AF) (js:List AN) (ns:List AI)
abbrev KL(pq:List AG)(i:Nat):Nat->Int:=λk=>(pq.getD k AG.zero).ways i
def Ts(pq:List AG)(i:Nat):Int:=KT (KL pq i) pq.length
def HJ(pq:List AG)(k:Nat):Int×Int:=askTo (Ts pq) (pq.length:Int) k
theorem RC{pq:List AG}{k:Nat}(h:Ts pq k<(HJ pq k).2):HJ pq (k+1)=((k:Int),Ts pq k):=if_pos h
theorem RD{pq:List AG}{k:Nat}(h:¬Ts pq k<(HJ pq k).2):HJ pq (k+1)=HJ pq k:=if_neg h
def SY(bag kinds:Int)(ps:List ByteArray)(ws:List AF)(js:List AN)(ns:List AI):Int:=if¬Ae bag kinds ps ws js ns 0=0 then 0 else (HJ (AD ws js ns) ws.length).1
def Nz(bag kinds:Int)(ps:List ByteArray)(ws:List AF)(js:List AN)(ns:List AI):Int:=if¬Ae bag kinds ps ws js ns 0=0 then 0 else (HJ (AD ws js ns) ws.length).2
end
end Go.Ns
namespace Go.Ns
open Go.Conc
def P6(hs:GH)(k0 ln:Nat)(c:Array Value)(t:TypeId)(k:Nat)(v:Value)(h:GH):Prop:=k=k0->∃r,v=.slice (some ⟨r,0,none⟩) ln ln/\hs r=none/\h r=some (true,.cells c t (0,0))
theorem P6.mono(hs:GH)(k0 ln:Nat)(c:Array Value)(t:TypeId):∀k v h1 h2,GH.Le h1 h2->P6 hs k0 ln c t k v h1->P6 hs k0 ln c t k v h2:=λ_ _ _ _ l x e=>by
 obtain ⟨r,q1,q2,q3⟩:=x e;exact ⟨r,q1,q2,l.keep q3 rfl⟩
theorem RE{P:Program}{E:GF P}{O:Nat->Value}{ds:List Deferred}{hs hx:GH}{dst:Option Nat}{ty:TypeId}{pos:String}{af:Array Edge}{gd:Option (Nat×Bool)}{t:TypeId}{len n k0 k:Nat}{z cells:Array Value}{e:TypeId}{parts:Array (Nat×Operand)}
  (h0:DL P t=some (n,z,e)) (hl:len*n<=2 ^ 24) (hn:(len*n=0)=False) (hf:Instr.fill (λi=>some (i*n,n)) ((Array.range (len*n)).map (z[·%z.size]!)) (parts.map λ(i,x)=>(i,AO O x)).toList=some cells) (l:hs.Le hx) :
  BS E ⟨dst,.buildSlice t len parts,ty,pos,af,gd⟩ O ds hx λσ' ds' h'=>ds'=ds/\∃v,σ'=putS O dst v/\hx.Le h'/\P6 hs k0 len cells e k v h':=
 AX h0 hl hn hf λr h' hr le bx _=>⟨rfl,_,rfl,le,λ_=>⟨r,rfl,GH.Le.nothing l hr,bx⟩⟩
def LfW(hs:GH)(k0 ln:Nat)(c:Array Value)(t:TypeId)(n:Nat)(Fr:GH->Prop)(k:Nat)(v:Value)(h:GH):Prop:=P6 hs k0 ln c t k v h/\(k=n->Fr h)
theorem LfW.mono(hs:GH)(k0 ln:Nat)(c:Array Value)(t:TypeId)(n:Nat){Fr:GH->Prop}(m:∀h1 h2,GH.Le h1 h2->Fr h1->Fr h2):∀k v h1 h2,GH.Le h1 h2->LfW hs k0 ln c t n Fr k v h1->LfW hs k0 ln c t n Fr k v h2:=λ_ _ _ _ l x=>⟨P6.mono _ _ _ _ _ _ _ _ _ l x.1,λe=>m _ _ l (x.2 e)⟩
theorem VV{P:Program}{E:GF P}{O:Nat->Value}{ds:List Deferred}{hs hx:GH}{dst:Option Nat}{ty:TypeId}{pos:String}{af:Array Edge}{gd:Option (Nat×Bool)}{t:TypeId}{len n k0 N:Nat}{z cells:Array Value}{e:TypeId}{parts:Array (Nat×Operand)}{Fr:GH->Prop}(hk:k0≠N)
  (h0:DL P t=some (n,z,e)) (hl:len*n<=2 ^ 24) (hn:(len*n=0)=False) (hf:Instr.fill (λi=>some (i*n,n)) ((Array.range (len*n)).map (z[·%z.size]!)) (parts.map λ(i,x)=>(i,AO O x)).toList=some cells) (l:hs.Le hx) :
  BS E ⟨dst,.buildSlice t len parts,ty,pos,af,gd⟩ O ds hx λσ' ds' h'=>ds'=ds/\∃v,σ'=putS O dst v/\hx.Le h'/\LfW hs k0 len cells e N Fr k0 v h':=
 AX h0 hl hn hf λr h' hr le bx _=>⟨rfl,_,rfl,le,λ_=>⟨r,rfl,GH.Le.nothing l hr,bx⟩,λe=>absurd e hk⟩
theorem tFg{P:Program}{E:GF P}{l:List Oper}{n:Nat}{fl:Bool}{hs:GH}{ds:List Deferred}{Lw:Nat->Value->GH->Prop}{F:(Nat->Value)->GH->Prop}{π:List Nat}{O:Nat->Value}{h:GH}{m k g d:Nat}{dst:Option Nat}{op:Op}{ty:TypeId}{pos:String}{af:Array Edge}{v:Value}{w:Bool}{og:Oper}
  (hk:KP m=(.p,k)) (ho:l[k]? =some ⟨dst,op,ty,pos,af,some (g,w)⟩) (h1:l[g]? =some og) (h2:og.dst=some d) (h3:O d=.bool w) (x:∀hx,Lw n undef hx->SA E ⟨dst,op,ty,pos,af,some (g,w)⟩ O ds hx v)
  (y:TD E l n fl hs ds Lw F (dK π) (putS O dst v) h):TD E l n fl hs ds Lw F (dK (m ::π)) O h:=by
 unfold dK;rw [hk];exact ⟨_,true,ho,HH h1 h2 h3,λe=>(by cases e),λ_=>⟨v,x,y⟩⟩
theorem tWLg{P:Program}{E:GF P}{l:List Oper}{n:Nat}{hs:GH}{ds:List Deferred}{Lw:Nat->Value->GH->Prop}{F:(Nat->Value)->GH->Prop}{π:List Nat}{O:Nat->Value}{h:GH}{m k g d:Nat}{dst:Option Nat}{op:Op}{ty:TypeId}{pos:String}{af:Array Edge}{w:Bool}{og:Oper}(hk:KP m=(.w,k))(ho:l[k]? =some ⟨dst,op,ty,pos,af,some (g,w)⟩)(h1:l[g]? =some og)(h2:og.dst=some d)(h3:O d=.bool w)
  (x:BS E ⟨dst,op,ty,pos,af,some (g,w)⟩ O ds h λσ' ds' h'=>ds'=ds/\∃v,σ'=putS O dst v/\Lw n undef h'/\TD E l n false hs ds Lw F (dK π) (putS O dst v) h'):TD E l n false hs ds Lw F (dK (m ::π)) O h:=by
 unfold dK;rw [hk];exact ⟨_,true,ho,HH h1 h2 h3,λe=>(by cases e),λ_ hx hg=>by rw [hg.2 rfl];exact x⟩
def Ty(h:GH)(t:TypeId)(v:Value):Prop:=∀b,CW v=some b->∃p c f,h b=some (p,.cells c t f)
def D0(h:GH)(t:TypeId)(v:Value)(xs:List Int):Prop:=AC h v 1 eI xs/\Ty h t v
theorem D0.le{h h':GH}{t:TypeId}{v:Value}{xs:List Int}(x:D0 h t v xs)(l:h.Le h'):D0 h' t v xs:=⟨x.1.le l,λb hb=>by
 obtain ⟨p,c,f,q⟩:=x.2 b hb;exact ⟨p,c,f,l.keep q rfl⟩⟩
theorem D0.nil(h:GH)(t:TypeId):D0 h t (.slice none 0 0) []:=⟨AC.nil _ _ _,λb hb=>by cases hb⟩
theorem D0.own{h0 h:GH}{t:TypeId}{v:Value}{xs:List Int}(o:AS h0 h v t 1 eI xs):D0 h t v xs:=⟨o.sl,λb hb=>by
 rcases o with ⟨rfl,_⟩ | ⟨b1,cap,c,rfl,_,h2,_⟩
 ·cases hb
 ·simp only [CW,Option.some.injEq] at hb;subst hb;exact ⟨_,_,_,h2⟩⟩
theorem D0.same{h h':GH}{t:TypeId}{w:Value}{xs:List Int}(x:D0 h t w xs)(key:∀b,CW w=some b->h' b=h b):D0 h' t w xs:=by
 refine ⟨?_,λb hb=>by rw [key b hb];exact x.2 b hb⟩;obtain ⟨a,cap,hv,hc,hm,he⟩:=x.1;refine ⟨a,cap,hv,hc,hm,λi hi=>?_⟩;obtain ⟨b,off,h1,h2⟩:=he i hi;exact ⟨b,off,h1,h2.same (key b (by rw [hv,h1];rfl))⟩
theorem D0.keepX{X:Nat->Prop}{h h':GH}{t:TypeId}{w:Value}{xs:List Int}(x:D0 h t w xs)(k:Bc X h h')(n:∀b,CW w=some b->¬X b):D0 h' t w xs:=
 x.same λb hb=>by
  obtain ⟨p,c,f,q⟩:=x.2 b hb;rw [q];exact k.box q (n b hb) rfl
theorem D0.store{h h':GH}{t t':TypeId}{w:Value}{xs:List Int}{r:Nat}{p:Bool}{c:Array Value}{f:Nat×Nat}(x:D0 h t w xs)(hr:h r=some (p,.cells c t' f))(ne:t'≠t)(ho:∀b,b≠r->h' b=h b):D0 h' t w xs:=
 x.same λb hb=>ho b λe=>by
  obtain ⟨p2,c2,f2,q⟩:=x.2 b hb;rw [e,hr] at q;cases q;exact ne rfl
def CU(h:GH)(t:TypeId)(l:List Sl):Prop:=∀k,D0 h t (l.getD k Sl.z).1 (l.getD k Sl.z).2
theorem CU.le{h h':GH}{t:TypeId}{l:List Sl}(x:CU h t l)(e:h.Le h'):CU h' t l:=λk=>(x k).le e
theorem CU.nil(h:GH)(t:TypeId):CU h t []:=λk=>by
 rw [CE aD];exact D0.nil _ _
theorem O9{V:Type}(z:V)(a b:List V)(k:Nat):(a++b).getD k z=if k<a.length then a.getD k z else b.getD (k-a.length) z:=by
 simp only [List.getD_eq_getElem?_getD,List.getElem?_append];split <;> rfl
theorem CU.app{h:GH}{t:TypeId}{l l':List Sl}(a:CU h t l)(b:CU h t l'):CU h t (l++l'):=λk=>by
 rw [O9];split
 ·exact a k
 ·exact b _
theorem CU.one{h:GH}{t:TypeId}{x:Sl}(a:D0 h t x.1 x.2):CU h t [x]:=λk=>by
 cases k with
 | zero=>exact a
 | succ k=>rw [CE aD];exact D0.nil _ _
theorem MP(a b:List Sl):A3 (a++b)=A3 a++A3 b:=by simp [A3]
section
variable {V:Type} {hB:GH} {I:List V->(Nat->Prop)->GH->Prop} {S:GH->Prop} {X0 X X1:Nat->Prop} {h hc h':GH} {pre l:List V} {v v':Value}
def I3(hB:GH)(X0 X:Nat->Prop)(h:GH)(v:Value):Prop:=∀b,CW v=some b->¬X b/\(X0 b\/h b=none)/\hB b=none
theorem EM.old(y:EM hB I X0 h pre X hc){b:Nat}(e:hc b=none):X0 b\/h b=none:=by
 by_cases q:X0 b
 ·exact .inl q
 ·refine .inr ?_;cases hb:h b with
  | none=>rfl
  | some x=>
   obtain ⟨o',h1,_⟩:=y.keep b x.1 x.2 hb q;rw [e] at h1;cases h1
theorem EM.fresh(P:GC hB I)(y:EM hB I X0 h pre X hc)(o:∀b,CW v=some b->hc b=none):I3 hB X0 X h v:=λb hb=>⟨P.off y.inv (o b hb),y.old (o b hb),y.base.nothing (o b hb)⟩
theorem I3.grown(f:I3 hB X0 X h v)(P:GC hB I)(y:EM hB I X0 h pre X hc)(g:G8 hc h' v v'):I3 hB X0 X h v':=λb hb=>by
 rcases g.2 with e | ⟨⟨r,e1,e2⟩,_⟩
 ·exact f b (e▸hb)
 ·rw [e1] at hb;cases hb;exact ⟨P.off y.inv e2,y.old e2,y.base.nothing e2⟩
theorem EM.app(P:GC hB I)(y:EM hB I X0 h pre X hc)(g:G8 hc h' v v')(f:I3 hB X0 X h v):EM hB I X0 h pre X h':=by
 have lB:hB.Le h':=λb p o hb=>by
  obtain ⟨o1,h1,h2⟩:=y.base b p o hb;exact ⟨o1,g.1 b _ h1 λe=>(by rw [(f b e).2.2] at hb;cases hb),h2⟩
 refine ⟨P.stable _ _ hc h' y.inv (λb hb=>?_) lB,y.sub,λb p o hb hn=>?_,lB⟩
 ·obtain ⟨p,o,h1,_⟩:=P.dom _ _ _ b y.inv hb;rw [h1];exact g.1 b _ h1 λe=>(f b e).1 hb
 ·obtain ⟨o1,h1,h2⟩:=y.keep b p o hb hn;exact ⟨o1,g.1 b _ h1 λe=>(f b e).2.1.elim hn λq=>(by rw [q] at hb;cases hb),h2⟩
theorem EM.callL(y:EM hB I X0 h pre X hc)(f:I3 hB X0 X h v){u:Value}(r:EW hB I S pre (λb=>X b\/CW v=some b) hc l u h') :
  ∃ok X',u=.bool ok/\(∀b,X' b->(X b\/CW v=some b)\/hc b=none)/\Bc (λb=>X b\/CW v=some b) hc h'/\(ok=true->EM hB I X0 h (pre++l) X' h')/\(ok=false->∀l',EW hB I S pre X0 h l' (.bool false) h'):=by
 obtain ⟨ok,X',hv,hs,hk,hl,h1,h2⟩:=r;have s:∀b,(X b\/CW v=some b)->X0 b\/h b=none:=λb q=>q.elim (y.sub b) λe=>(f b e).2.1;have kk:Bc X0 h h':=y.keep.trans s hk;have ss:=subX s y.keep hs;exact ⟨ok,X',hv,hs,hk,λe=>⟨h1 e,ss,kk,hl⟩,λe l'=>⟨false,X',rfl,ss,kk,hl,(λx=>by cases x),λ_=>h2 e⟩⟩
end
structure PA{P:Program}(W:Wk P)(hB:GH)(yv:Value)(t:TypeId)(I:List (List Int)->(Nat->Prop)->GH->Prop)(S:GH->Prop)(all:List (List Int)):Prop where
 prom:GC hB I
 one:yv.cells=#[yv]
 call:∀pre p post X h v,all=pre++p ::post->I pre X h->hB.Le h->D0 h t v p->(∀b,CW v=some b->¬X b/\hB b=none)->Bt W yv #[v] h (EW hB I S pre (λb=>X b\/CW v=some b) h [p])
section
variable {P:Program} {E:GF P} {O:Nat->Value} {ds:List Deferred}
theorem RF{t0:TypeId}{all:List (List Int)}{hB hc:GH}{J:List (List Int)->(Nat->Prop)->GH->Prop}{Stop:Code->GH->Prop}{Y0:Nat->Prop}{par:Tmp}{f:Operand}{assign body:Code}{Q:Post}
  (hrd:E.rd=none) (hpar:Nat.blt par E.N=true) (hJ:GC hB J) (hB0:hB.Le hc) (j0:J [] Y0 hc)
  (hS:∀c (h h':GH) l lo,Stop c h->h l=some (true,.loop lo)->(∀b,b≠l->h' b=h b)->Stop c h')
  (src:∀(yv:Value)(I:List (List Int)->(Nat->Prop)->GH->Prop)(Sp:GH->Prop)(X:Nat->Prop)(h:GH),PA E.wk hB yv t0 I Sp all->hB.Le h->I [] X h->Bt E.wk (AO O f) #[yv] h λ_ h'=>YEnd hB I Sp all X h h')
  (round:∀(l d:Nat)(lo:Loop)(pre:List (List Int))(p:List Int)(post:List (List Int))(Y:Nat->Prop)(h:GH)(v:Value),all=pre++p ::post->J pre Y h->hB.Le h->hB l=none->¬Y l->h l=some (true,.loop lo)->D0 h t0 v p->(∀b,CW v=some b->¬Y b/\hB b=none)->
   Tr ⟨E.wk,E.fn,some l,E.N⟩ assign (upd O par v) [] h λe σ' ds' h1=>e=.normal/\h1 l=some (true,.loop lo)/\∀h2,h2 l=some (true,.loop { lo with state:=.busy })->(∀b,b≠l->h2 b=h1 b)->
    Tr ⟨E.wk,E.fn,some l,E.N⟩ body σ' ds' h2 (TR hB J Stop (pre++[p]) (λb=>Y b\/CW v=some b) h l lo))
  (fin:∀(d l:Nat)(h':GH),hB.Le h'->hB d=none->hB l=none->hc d=none->h' d=some (true,.deferred (some []))->
   (∀Y,J all Y h'->(∀b,Y b->b≠d)->Q .normal O ({ target:=.collected d,args:=#[] } ::ds) h')/\
   (∀c,Stop c h'->match c with
    | .exit id=>Q (.exit id) O ({ target:=.collected d,args:=#[] } ::ds) h'
    | .ret=>Q .ret O ({ target:=.collected d,args:=#[] } ::ds) h'
    | _=>False)):Tr E (.rangeFunc f #[par] assign body) O ds hc Q:=by
 refine LL hrd λt d l hs hd hl hne=>?_;have hl':hB l=none:=hB0.nothing hl;have hd':hB d=none:=hB0.nothing hd;let lo:Loop:={ state:=.ready,pending:=none,fn:=E.fn,tmps:=t,params:=#[par],assign,body,defers:=d };have nYl:¬Y0 l:=hJ.off j0 hl;have nYd:¬Y0 d:=hJ.off j0 hd;have hL1:((hc.set d true (.deferred (some []))).set l true (.loop lo)) l=some (true,.loop lo):=GH.set_same _ _ _ _;have hL2:((hc.set d true (.deferred (some []))).set l true (.loop lo)) d=some (true,.deferred (some [])):=by rw [GH.set_ne _ _ _ (Ne.symm hne)];exact GH.set_same _ _ _ _
 have hL3:∀b,b≠l->b≠d->((hc.set d true (.deferred (some []))).set l true (.loop lo)) b=hc b:=λb h1 h2=>by rw [GH.set_ne _ _ _ h1,GH.set_ne _ _ _ h2]
 have hLB:hB.Le ((hc.set d true (.deferred (some []))).set l true (.loop lo)):=(hB0.trans (GH.Le.new hd _ _)).trans (GH.Le.new (by rw [GH.set_ne _ _ _ hne];exact hl) _ _);have hI0:M6 J l d lo [] (λb=>Y0 b\/b=l\/b=d) ((hc.set d true (.deferred (some []))).set l true (.loop lo)):=by
  refine ⟨Y0,hJ.stable _ _ hc _ j0 (λb hb=>hL3 b (λe=>nYl (e▸hb)) (λe=>nYd (e▸hb))) hLB,λb=>Iff.rfl,nYl,nYd,hL1,hL2⟩
 have prom:GC hB (M6 J l d lo):=by
  refine ⟨?_,?_⟩
  ·rintro pre X h b ⟨Y,j,hX,_,_,h1,h2⟩ hb;rcases (hX b).1 hb with h3 | rfl | rfl
   ·exact hJ.dom _ _ _ _ j h3
   ·exact ⟨_,_,h1,rfl⟩
   ·exact ⟨_,_,h2,rfl⟩
  ·rintro pre X h h' ⟨Y,j,hX,n1,n2,h1,h2⟩ same lB;refine ⟨Y,hJ.stable _ _ h h' j (λb hb=>same b ((hX b).2 (.inl hb))) lB,hX,n1,n2,?_,?_⟩
   ·rw [same l ((hX l).2 (.inr (.inl rfl)))];exact h1
   ·rw [same d ((hX d).2 (.inr (.inr rfl)))];exact h2
 have yk:PA E.wk hB (.func (.yield l) #[] #[]) t0 (M6 J l d lo) (QV Stop l d lo) all:=by
  refine ⟨prom,rfl,?_⟩;rintro pre p post X h v hall ⟨Y,j,hX,n1,n2,h1,h2⟩ lB hsv hvX;have nvl:CW v≠some l:=λe=>by obtain ⟨_,_,_,q⟩:=hsv.2 l e;rw [h1] at q;cases q
  have nvd:CW v≠some d:=λe=>by obtain ⟨_,_,_,q⟩:=hsv.2 d e;rw [h2] at q;cases q
  refine OL h1 rfl ?_;have ef:(lo.params.zip #[v]).foldl (λtmps x=>tmps.setIfInBounds x.1 x.2) lo.tmps=t.setIfInBounds par v:=by simp [lo]
  rw [ef];show BX E.wk l E.fn (t.setIfInBounds par v) assign body h _;have hs':=hs.put hpar v;refine M0 (N:=E.N) hs'.1 ?_;have e0:(λi=>(t.setIfInBounds par v).getD i undef)=upd O par v:=funext hs'.2;rw [e0];refine Jz ?_ (round l d lo pre p post Y h v hall j lB hl' n1 h1 hsv λb hb=>⟨λq=>(hvX b hb).1 ((hX b).2 (.inl q)),(hvX b hb).2⟩);rintro e σ' ds' ha ⟨rfl,ha1,hb⟩;refine ⟨rfl,lo,ha1,rfl,?_⟩;refine Jz ?_ (hb _ (GH.set_same _ _ _ _) λb hb=>GH.set_ne _ _ _ hb);rintro e σ2 ds2 h3 ⟨g1,Y',g2,g3,g4,g5⟩;have hd3:h3 d=some (true,.deferred (some [])):=g3.box h2 (λq=>q.elim (λq=>q.elim n2 nvd) (λe=>hne e.symm)) rfl;have nl:¬Y' l:=λq=>(g2 l q).elim (λq=>q.elim n1 nvl) λe=>by rw [h1] at e;cases e
  have nd:¬Y' d:=λq=>(g2 d q).elim (λq=>q.elim n2 nvd) λe=>by rw [h2] at e;cases e
  have key:∀(lo2:Loop)(ok:Bool),(if ok then J (pre++[p]) Y' (h3.set l true (.loop lo2))/\lo2=lo else QV Stop l d lo (h3.set l true (.loop lo2)))->EW hB (M6 J l d lo) (QV Stop l d lo) pre (λb=>X b\/CW v=some b) h [p] (.bool ok) (h3.set l true (.loop lo2)):=by
   intro lo2 ok hok;refine ⟨ok,λb=>Y' b\/b=l\/b=d,rfl,?_,?_,?_,?_,?_⟩
   ·rintro b (hb | rfl | rfl)
    ·exact (g2 b hb).imp (λq=>q.imp (λq=>(hX b).2 (.inl q)) id) id
    ·exact .inl (.inl ((hX _).2 (.inr (.inl rfl))))
    ·exact .inl (.inl ((hX _).2 (.inr (.inr rfl))))
   ·intro b q o hb hn;have nb:b≠l:=λe=>hn (.inl ((hX b).2 (.inr (.inl e))));rw [GH.set_ne _ _ _ nb];exact g3 b q o hb λq=>q.elim (λz=>z.elim (λz=>hn (.inl ((hX b).2 (.inl z)))) λz=>hn (.inr z)) nb
   ·exact g4.upd hl' λb hb=>GH.set_ne _ _ _ hb
   ·rintro rfl;simp only [if_true] at hok;obtain ⟨hj,rfl⟩:=hok;exact ⟨Y',hj,λb=>Iff.rfl,nl,nd,GH.set_same _ _ _ _,by rw [GH.set_ne _ _ _ (Ne.symm hne)];exact hd3⟩
   ·rintro rfl;simpa using hok
  have js:∀(lo2:Loop),J (pre++[p]) Y' h3->J (pre++[p]) Y' (h3.set l true (.loop lo2)):=λlo2 hj=>hJ.store hj nl (λb hb=>GH.set_ne _ _ _ hb) (g4.upd hl' λb hb=>GH.set_ne _ _ _ hb);have ss:∀c (lo2:Loop),Stop c h3->Stop c (h3.set l true (.loop lo2)):=λc lo2 hc=>hS c h3 _ l _ hc g1 λb hb=>GH.set_ne _ _ _ hb;refine ⟨_,g1,?_⟩;cases e with
  | normal=>exact key _ true (by simp only [if_true];exact ⟨js _ g5,rfl⟩)
  | exit id=>exact key _ false (by simp only [Bool.false_eq_true,if_false];exact ⟨_,ss _ _ g5,GH.set_same _ _ _ _,by rw [GH.set_ne _ _ _ (Ne.symm hne)];exact hd3⟩)
  | ret=>exact key _ false (by simp only [Bool.false_eq_true,if_false];exact ⟨_,ss _ _ g5,GH.set_same _ _ _ _,by rw [GH.set_ne _ _ _ (Ne.symm hne)];exact hd3⟩)
  | goto _=>exact g5.elim
  | panic _=>exact g5.elim
  | outgrown=>exact g5.elim
 refine (src _ _ _ _ _ yk hLB hI0).mono ?_;rintro v h' ⟨X',hs',hk,hl2,hor⟩;rcases hor with ⟨Y,j,hX,n1,n2,h1,h2⟩ | ⟨c,hst,h1,h2⟩
 ·refine ⟨lo,h1,rfl,?_⟩;show Q .normal O _ _;have hB':=hl2.upd hl' (λb hb=>GH.set_ne h' true (.loop { lo with state:=.exhausted }) hb);refine (fin d l _ hB' hd' hl' hd (by rw [GH.set_ne _ _ _ (Ne.symm hne)];exact h2)).1 Y (hJ.store j n1 (λb hb=>GH.set_ne _ _ _ hb) hB') λb hb e=>n2 (e▸hb)
 ·refine ⟨_,h1,rfl,?_⟩;have hB':=hl2.upd hl' (λb hb=>GH.set_ne h' true (.loop { { lo with state:=.done,pending:=some c } with state:=.exhausted }) hb)
  have:=(fin d l _ hB' hd' hl' hd (by rw [GH.set_ne _ _ _ (Ne.symm hne)];exact h2)).2 c (hS c h' _ l _ hst h1 λb hb=>GH.set_ne _ _ _ hb)
  cases c with
  | exit id=>exact this
  | ret=>exact this
  | _=>exact this.elim
end
def IN(l:List Int)(k:Int):Bool:=l.any (λx=>decide (k=x))
def BT(jobs:List Int):Nat->List Int->List (List Int)
 | 0,l=>[l]
 | f+1,l=>l ::jobs.flatMap λk=>if IN l k=true then [] else BT jobs f (l++[k])
def CH(jobs:List Int):Nat->List Int->Int->List (List Int)
 | 0,_,_=>[]
 | f+1,l,k=>if IN l k=true then [] else BT jobs f (l++[k])
theorem Gi(jobs:List Int)(f:Nat)(l:List Int):BT jobs f l=l ::jobs.flatMap (CH jobs f l):=by
 cases f with
 | zero=>simp [BT,CH]
 | succ f=>rfl
def DI(jobs:List Int):List (List Int):=BT jobs jobs.length []
def Ko(jobs l:List Int):Nat:=(jobs.filter λk=> !IN l k).length
theorem hasI_app(l:List Int)(k j:Int):IN (l++[k]) j=(IN l j || decide (j=k)):=by simp [IN]
theorem NM{jobs l:List Int}{k:Int}(hk:k ∈ jobs)(h:IN l k=false):Ko jobs (l++[k])<Ko jobs l:=by
 unfold Ko;have key:∀js:List Int,(js.filter λj=> !IN (l++[k]) j).length<=(js.filter λj=> !IN l j).length/\(k ∈ js->(js.filter λj=> !IN (l++[k]) j).length<(js.filter λj=> !IN l j).length):=by
  intro js
  induction js with
  | nil=>exact ⟨Nat.le_refl _,λe=>by cases e⟩
  | cons j js ih=>
   obtain ⟨ih1,ih2⟩:=ih;rw [List.filter_cons,List.filter_cons,hasI_app];by_cases e:j=k
   ·subst e;simp only [h,Bool.false_or,decide_true,Bool.not_true,Bool.false_eq_true,if_false,Bool.not_false,if_true,List.length_cons];exact ⟨aA,λ_=>aA⟩
   ·rw [decide_eq_false e,Bool.or_false];split
    ·simp only [List.length_cons];exact ⟨aA,λq=>by have:=ih2 ((List.mem_cons.1 q).resolve_left λz=>e z.symm);omega⟩
    ·exact ⟨ih1,λq=>ih2 ((List.mem_cons.1 q).resolve_left λz=>e z.symm)⟩
 exact (key jobs).2 hk
theorem VW{jobs:List Int}{i:Nat}{F:Int->List (List Int)}(hi:i<jobs.length):(jobs.take (i+1)).flatMap F=(jobs.take i).flatMap F++F (jobs.getD i 0):=by
 rw [D4 0 hi,List.flatMap_append];simp
theorem CT.job{all pre:List (List Int)}{jobs:List Int}{f i:Nat}{l:List Int}(w:CT all pre (BT jobs f l))(hi:i<jobs.length):CT all (pre++[l]++(jobs.take i).flatMap (CH jobs f l)) (CH jobs f l (jobs.getD i 0)):=by
 rw [Gi] at w;have w2:CT all pre ([l]++((jobs.take i).flatMap (CH jobs f l)++(CH jobs f l (jobs.getD i 0)++(jobs.drop (i+1)).flatMap (CH jobs f l)))):=by
  rw [<-List.append_assoc (List.flatMap _ _),<-VW hi,<-List.flatMap_append,List.take_append_drop];exact w
 exact (w2.right.right).left
theorem CT.head{all pre:List (List Int)}{jobs:List Int}{f:Nat}{l:List Int}(w:CT all pre (BT jobs f l)):CT all pre [l]:=by
 rw [Gi] at w;exact CT.left (a:=[l]) w
section
variable {jobs l:List Int} {f f' i:Nat} {k:Int} {all pre:List (List Int)}
theorem VX(hk:k ∈ jobs)(h:IN l k=false)(hu:Ko jobs l<=f):∃f',f=f'+1:=⟨f-1,by have:=NM hk h;omega⟩
theorem Lg(hf:f=f'+1)(h:IN l k=false):CH jobs f l k=BT jobs f' (l++[k]):=by
 subst hf;exact if_neg (by rw [h];simp)
theorem P7(h:IN l k=true):CH jobs f l k=[]:=by
 cases f with
 | zero=>rfl
 | succ f=>exact if_pos h
theorem P8(hi:i<jobs.length)(h:IN l (jobs.getD i 0)=true):pre++[l]++(jobs.take (i+1)).flatMap (CH jobs f l)=pre++[l]++(jobs.take i).flatMap (CH jobs f l):=by
 rw [VW hi,P7 h,List.append_nil]
theorem SZ(hi:i<jobs.length)(hf:f=f'+1)(h:IN l (jobs.getD i 0)=false):pre++[l]++(jobs.take (i+1)).flatMap (CH jobs f l)=(pre++[l]++(jobs.take i).flatMap (CH jobs f l))++BT jobs f' (l++[jobs.getD i 0]):=by
 rw [VW hi,Lg hf h,<-List.append_assoc]
theorem YP(hi:jobs.length<=i):pre++BT jobs f l=pre++[l]++(jobs.take i).flatMap (CH jobs f l):=by
 rw [List.take_of_length_le hi,Gi];simp
theorem CT.go(w:CT all pre (BT jobs f l))(hi:i<jobs.length)(hf:f=f'+1)(h:IN l (jobs.getD i 0)=false):CT all (pre++[l]++(jobs.take i).flatMap (CH jobs f l)) (BT jobs f' (l++[jobs.getD i 0])):=by
 have z:=w.job hi
 rwa [Lg hf h] at z
end
end Go.Ns
namespace Go.Ns
open Go.Conc
theorem G9.mem{h:GH}{l:List Sl}(a:G9 h l){x:Sl}(hx:x ∈ l):AC h x.1 1 eI x.2:=by
 obtain ⟨i,hi,e⟩:=List.mem_iff_getElem.1 hx;have z:=a i;rw [List.getD_eq_getElem?_getD,List.getElem?_eq_getElem hi] at z;have z2:AC h l[i].1 1 eI l[i].2:=z;rw [<-e];exact z2
theorem CU.all{h:GH}{t:TypeId}{l:List Sl}(a:CU h t l):G9 h l:=λk=>(a k).1
theorem CU.drop1{h:GH}{t:TypeId}{l:List Sl}(a:CU h t l):CU h t (l.drop 1):=λk=>by
 rw [List.getD_eq_getElem?_getD,List.getElem?_drop,<-List.getD_eq_getElem?_getD];exact a (1+k)
theorem VY{l:List Sl}{k:Nat}(h:k<l.length-1):(l.drop 1).getD k Sl.z ∈ l:=List.mem_of_mem_drop (B7 (by rw [List.length_drop];exact h))
section
variable (G:List Int->Int) (l:List (List Int))
def Dm:Nat->List Int×Int
 | 0=>(l.getD 0 [],G (l.getD 0 []))
 | k+1=>if G ((l.drop 1).getD k [])<(Dm k).2 then ((l.drop 1).getD k [],G ((l.drop 1).getD k [])) else Dm k
def DJ:List Int:=(Dm G l (l.length-1)).1
end
section
variable {G:List Int->Int} {l:List Sl} {k:Nat}
theorem VZ(l:List Sl):(A3 l).length=l.length:=List.length_map _
theorem NN(hk:k<l.length-1):((A3 l).drop 1).getD k []=((l.drop 1).getD k Sl.z).2:=by
 have e:(A3 l).drop 1=A3 (l.drop 1):=by unfold A3;rw [List.map_drop]
 rw [e,FY (by rw [List.length_drop];exact hk)]
theorem Lh(hk:k<l.length-1)(h:G ((l.drop 1).getD k Sl.z).2<(Dm G (A3 l) k).2):Dm G (A3 l) (k+1)=(((l.drop 1).getD k Sl.z).2,G ((l.drop 1).getD k Sl.z).2):=by
 rw [Dm,NN hk,if_pos h]
theorem Li(hk:k<l.length-1)(h:¬G ((l.drop 1).getD k Sl.z).2<(Dm G (A3 l) k).2):Dm G (A3 l) (k+1)=Dm G (A3 l) k:=by
 rw [Dm,NN hk,if_neg h]
theorem Tt(hk:k=l.length-1):DJ G (A3 l)=(Dm G (A3 l) k).1:=by unfold DJ;rw [VZ,hk]
end
theorem Kp:∀(n k:Nat),k<n->(DS n).getD k 0=(k:Int)
 | 0,k,h=>absurd h (Nat.not_lt_zero _)
 | n+1,k,h=>by
  have hl:=DT n;rw [DS,List.getD_eq_getElem?_getD];by_cases e:k<n
  ·rw [List.getElem?_append_left aA,<-List.getD_eq_getElem?_getD];exact Kp n k e
  ·have e2:k=n:=aA
   subst e2;rw [List.getElem?_append_right aA,hl,Nat.sub_self];rfl
theorem PB{n:Nat}{x:Int}(h:x ∈ DS n):0<=x/\x<n:=by
 obtain ⟨i,hi,e⟩:=List.mem_iff_getElem.1 h;have hl:=DT n
 have:=Kp n i aA
 rw [List.getD_eq_getElem?_getD,List.getElem?_eq_getElem hi,Option.getD_some,e] at this;omega
theorem Jj{jobs:List Int}:∀(f:Nat)(l:List Int),(∀x ∈ l,x ∈ jobs)->∀r ∈ BT jobs f l,(∀x ∈ r,x ∈ jobs)/\r.length<=l.length+f
 | 0,l,h,r,hr=>by
  rw [BT,List.mem_singleton] at hr;subst hr;exact ⟨h,Nat.le_refl _⟩
 | f+1,l,h,r,hr=>by
  rw [BT,List.mem_cons] at hr;rcases hr with rfl | hr
  ·exact ⟨h,aA⟩
  ·obtain ⟨k,hk,hr⟩:=List.mem_flatMap.1 hr;split at hr
   ·cases hr
   ·have:=Jj f (l++[k]) (λx hx=>by
     rcases List.mem_append.1 hx with hx | hx
     ·exact h x hx
     ·rw [List.mem_singleton.1 hx];exact hk) r hr
    refine ⟨this.1,?_⟩;have e:=this.2;rw [List.length_append,List.length_singleton] at e;omega
theorem Sa{jobs r:List Int}(h:r ∈ DI jobs):(∀x ∈ r,x ∈ jobs)/\r.length<=jobs.length:=by
 have:=Jj jobs.length [] (λx hx=>by cases hx) r h
 simpa using this
def Sb(nj:Nat)(l:List Int):Prop:=(∀k,k<l.length->0<=l.getD k 0/\l.getD k 0<nj)/\l.length<=4
theorem Jk{n:Nat}{jobs r:List Int}(hj:∀x ∈ jobs,0<=x/\x<(n:Int))(hl:jobs.length<=4)(h:r ∈ DI jobs):Sb n r:=by
 obtain ⟨h1,h2⟩:=Sa h;exact ⟨λk hk=>hj _ (h1 _ (B7 hk)),aA⟩
theorem Jl{jobs:List Int}(hj:jobs.length<=4):∀(f:Nat)(l:List Int),f<=4->(BT jobs f l).length<=5 ^ f*1
 | 0,l,_=>Nat.le_refl _
 | f+1,l,hf=>by
  have key:∀js:List Int,(js.flatMap λk=>if IN l k=true then [] else BT jobs f (l++[k])).length<=js.length*5 ^ f:=by
   intro js
   induction js with
   | nil=>simp
   | cons j js ih=>
    rw [List.flatMap_cons,List.length_append,List.length_cons,Nat.add_mul,Nat.one_mul,Nat.add_comm];refine Nat.add_le_add ih ?_;split
    ·exact Nat.zero_le _
    ·have:=Jl hj f (l++[j]) aA;omega
  rw [BT,List.length_cons];have h1:=key jobs;have h2:jobs.length*5 ^ f<=4*5 ^ f:=Nat.mul_le_mul_right _ hj;have h3:1<=5 ^ f:=Nat.one_le_pow _ _ aC;rw [Nat.pow_succ];omega
theorem HK{jobs:List Int}(hj:jobs.length<=4):(DI jobs).length<=625:=by
 have h:=Jl hj jobs.length [] hj;have h2:5 ^ jobs.length<=5 ^ 4:=Nat.pow_le_pow_right aC hj;unfold DI;omega
end Go.Ns
namespace Go.Ns
open Go.Conc
section
variable {P:Program} {M:Type} {F:MK P M} {i:Option (Co M)} {O:Nat->Value} {ds:List Deferred} {h:GH} {Q:Og M}
theorem trI_td{id:Nat}{l:List Oper}(n:Nat)(fl:Bool)(π:List Nat)(hm:P.follows .mixedOrders=true)
  (ok:OR l (l.take n) 0 [] (λcls=>OS P F.N l n cls fl (dK π))=true) (x:TD (F.env i) l n fl h ds (λ_ _ _=>True) (λσ' h'=>GD F l.toArray (l.drop n) i σ' ds h' Q) (dK π) O h):Nj F (.region id l.toArray true) i O ds h Q:=by
 obtain ⟨cls,h1⟩:=Hb ok;intro b k cs L t hb hr hl hs hq;exact XC (E:=F.env i) n cls fl (dK π) hm (λ_ _ _ _ _ y=>y) trivial h1 x hb hr hs λσ' h' f t' ht'=>f n b k cs L t' (λj=>aD) hb hr hl ht' hq
def I4(P:Program):Frame:={ (default:Frame) with fn:=P.funcs.size,defers:=[],mode:=.panicking [goexitEntry] }
theorem quit_bot:QuitsIn P 1 (G (I4 P) []):=.inr ⟨rfl,{ G (I4 P) [] with status:=.finished },λw=>by
 show unwind P false (I4 P) [] none w=_;have hcat:(I4 P).catches P=false:=by
  unfold Frame.catches
  have:P.funcs[(I4 P).fn]? =none:=Array.getElem?_eq_none (Nat.le_refl _)
  rw [this];rfl
 have hd:(I4 P).defers=[]:=rfl;have hmd:(I4 P).mode=.panicking [goexitEntry]:=rfl;unfold unwind;simp only [hd,hmd,hcat]
 rfl,rfl⟩
theorem Tu{fn:Func}{f:FuncId}{args:Array Value}{t:Array Value}{ops:Array Oper}(hf:P.funcs[f]? =some fn)(hres:fn.results=#[]):QuitsIn P 4 (G (Ce (Frame.enter P f args .deferred) t [] [.inRegion ops []]) [I4 P]):=by
 refine .inr ⟨rfl,G (Ce (Frame.enter P f args .deferred) t [] []) [I4 P],λw=>by rw [A5];simp [stepG.exec,Ce,G],?_⟩;refine .inr ⟨rfl,G (EU (Frame.enter P f args .deferred) t [] []) [I4 P],λw=>by rw [A5];simp [stepG.exec,Ce,EU,G,Frame.enter],?_⟩;refine .inr ⟨rfl,G (I4 P) [],λw=>?_,quit_bot⟩;show unwind P false (EU (Frame.enter P f args .deferred) t [] []) [I4 P] none w=_;have hfn:(EU (Frame.enter P f args .deferred) t [] []).fn=f:=rfl;have hk:(EU (Frame.enter P f args .deferred) t [] []).kind=.deferred:=rfl;have hmd:(EU (Frame.enter P f args .deferred) t [] []).mode=.returning:=rfl;have hd:(EU (Frame.enter P f args .deferred) t [] []).defers=[]:=rfl;have r1:∀t,(results fn t).runT P w #[]=(.ok (.tuple #[]) w,#[]):=λt=>by
  unfold results;rw [hres];simp only [Array.mapM_empty];rfl
 unfold unwind;simp only [hd,hmd,hfn,hf,r1,GStep.after,doReturn,hk,seen_none];rfl
def I5(F:MK P M)(R:Code)(args:Array Value)(i:Option (Co M))(O:Nat->Value)(h:GH):Prop:=∀t,BZ t F.N O->(F.wk i).K (G (Ce (Frame.enter P F.fn args .deferred) t [] [.code R]) [I4 P]) h
theorem MQ{fn:Func}{c R:Code}{s:Co M}{ars cap args:Array Value}(hm:F.main=false)(hrd:F.rd=none)(ha:ars++cap=args)(hf:P.funcs[F.fn]? =some fn)(hc:AK fn=true)(hb:fn.body=some (.seq c R))(hN:F.N=fn.ntmps)(hsz:args.size<=fn.ntmps)(hs:¬s.isDone)
  (x:Nj F c (some s) (λi=>args.getD i undef) [] h λi e O ds h=>e=.normal/\ds=[]/\I5 F R args i O h):FB P F.Rep F.W.K s false (born P { target:=.fn (.func F.fn) cap,args:=ars }) h:=by
 have hwk:∀s,(F.wk (some s)).K=EB P false (ID P F.Rep F.W.K s false):=λs=>by show EB P F.main (ID P F.Rep F.W.K s F.main)=_;rw [hm]
 rw [Gj hs];refine LE _ _ _ _ rfl λw f=>⟨G (Frame.enter P F.fn args .deferred) [I4 P],w,#[],h,?_,Bl.refl f,?_⟩
 ·subst ha;have hi:(invoke (.fn (.func F.fn) cap) ars).runT P w #[]=(.ok (.enter F.fn (ars++cap)) w,#[]):=SS hf hc w;show callDeferred P (I4 P) [] none { target:=.fn (.func F.fn) cap,args:=ars } w=_;unfold callDeferred;rw [if_neg aD];simp only [hi,seen_none];rfl
 have e0:Frame.enter P F.fn args .deferred=Ce (Frame.enter P F.fn args .deferred) (args++Array.replicate (fn.ntmps-args.size) undef) [] [.code (.seq c R)]:=by simp [Frame.enter,Ce,hf,hb]
 rw [e0,<-hwk s];refine Wk.go (Ce (Frame.enter P F.fn args .deferred) (args++Array.replicate (fn.ntmps-args.size) undef) [] (.code c ::.code R ::[])) (λw=>by rw [A5];simp [stepG.exec,Ce,G]) ?_;refine x (Frame.enter P F.fn args .deferred) [.code R] [I4 P] (λ_ _ _ _ _=>False) _ rfl hrd.symm (λi=>⟨λ_ _ _ q=>q.elim,λ_ _ _ _ q=>q.elim,λ_ _ _ _ _ _ q=>q.elim⟩) ⟨by rw [hN];simp;omega,λi=>?_⟩ ?_
 ·by_cases hi:i<args.size
  ·simp [Array.getD_eq_getD_getElem?,Array.getElem?_append_left hi]
  ·simp only [Array.getD_eq_getD_getElem?];rw [Array.getElem?_append_right aA,Array.getElem?_eq_none (show args.size<=i by omega),Array.getElem?_replicate];split <;> rfl
 ·rintro i e O ds h' ⟨rfl,rfl,z⟩ t' ht';exact z t' ht'
theorem YQ{fn:Func}{id:Nat}{o1 o2:Oper}{args:Array Value}{c:Nat}{m:M}{v z:Value}{hm:GH}{h1:GH}(hmn:F.main=false)(hrd:F.rd=none)(hf:P.funcs[F.fn]? =some fn)(hres:fn.results=#[])
  (hg1:o1.guard=none) (hd1:Cw o1.dst F.N=true) (hg2:o2.guard=none) (hdf1:Cy o1.op=false) (hdf:Cy o2.op=false) (hd2:Cw o2.dst F.N=true)
  (x:BS (F.env (some (.send c m .done))) o1 O [] h λσ' ds' h'=>ds'=[]/\(∀w,(execOp (AO σ') o2).runT P w #[]=(.ok (.comm #[scase c v z] true .send) w,#[]))/\GH.Split h' h1 hm/\F.Rep c m v hm) :
  I5 F (.region id [o1,o2].toArray false) args (some (.send c m .done)) O h:=by
 intro t hs;refine Wk.go (Ce (Frame.enter P F.fn args .deferred) t [] (.inRegion [o1,o2].toArray [0,1] ::[])) (λw=>by rw [A5];simp [stepG.exec,Ce,G,List.range_eq_range',Array.range];rfl) ?_;refine J0 (E:=F.env (some (.send c m .done))) (o:=o1) (rest:=[1]) rfl (by simp [Region.wanted,hg1]) (.inr hdf1) hd1 hs x ?_;rintro σ' ds' h' ⟨rfl,hr,hsp,hrep⟩ t' ht';refine EB.stop ⟨_,[I4 P],v,z,hm,h1,rfl,⟨λw fw=>?_,hsp,hrep,4,?_⟩⟩
 ·rw [hmn];exact SQ ht' rfl (by simp [Region.wanted,hg2]) (.inr hdf) (hr w)
 ·rw [Cz (ops:=[o1,o2].toArray) (i:=1) (o:=o2) rfl];exact Tu hf hres
theorem YR{dst:Option Nat}{x:Operand}{tys:Array TypeId}{ty:TypeId}{pos:String}{af:Array Edge}{gd:Option (Nat×Bool)}{ch s r:Nat}{w:World}(hx:AO O x=.chan (some ch))(hw:w.heap[ch]? =some (.chan 0 #[] false s r false)) :
  (execOp (AO O) ⟨dst,.call ⟨.builtin .close,#[x],tys⟩,ty,pos,af,gd⟩).runT P w #[]=(.ok (.value (.tuple #[])) { w with heap:=w.heap.setIfInBounds ch (.chan 0 #[] true s r false) },#[⟨.obj ch,false,true⟩,⟨.obj ch,true,true⟩]):=by
 have q:execOp (AO O) ⟨dst,.call ⟨.builtin .close,#[x],tys⟩,ty,pos,af,gd⟩=builtin .close tys ty (#[x].map fun | .const _=>true | _=>false) (#[x].map (AO O)):=by
  show (resolve (AO O) _ ty).bind _=_;unfold resolve;rfl
 have e:(#[x].map (AO O))=#[Value.chan (some ch)]:=by simp [hx]
 rw [q,e];show Sem.runT P (.getObj ch λo=>_) w #[]=_;unfold Sem.runT;rw [hw];show Sem.runT P (.setObj ch (.chan 0 #[] true s r false) _) w _=_;unfold Sem.runT;rw [hw];rfl
theorem PC{fn:Func}{id:Nat}{o1:Oper}{dst:Option Nat}{xo:Operand}{tys:Array TypeId}{ty:TypeId}{pos:String}{af:Array Edge}{args:Array Value}{c:Nat}(hmn:F.main=false)(hf:P.funcs[F.fn]? =some fn)(hres:fn.results=#[])
  (hg1:o1.guard=none) (hd1:Cw o1.dst F.N=true) (hdf1:Cy o1.op=false)
  (x:BS (F.env (some (.close c .done))) o1 O [] h λσ' ds' _=>ds'=[]/\AO σ' xo=.chan (some c)) :
  I5 F (.region id [o1,⟨dst,.call ⟨.builtin .close,#[xo],tys⟩,ty,pos,af,none⟩].toArray false) args (some (.close c .done)) O h:=by
 intro t hs;refine Wk.go (Ce (Frame.enter P F.fn args .deferred) t [] (.inRegion [o1,⟨dst,.call ⟨.builtin .close,#[xo],tys⟩,ty,pos,af,none⟩].toArray [0,1] ::[])) (λw=>by rw [A5];simp [stepG.exec,Ce,G,List.range_eq_range',Array.range];rfl) ?_;refine J0 (E:=F.env (some (.close c .done))) (o:=o1) (rest:=[1]) rfl (by simp [Region.wanted,hg1]) (.inr hdf1) hd1 hs x ?_;rintro σ' ds' h' ⟨rfl,hx⟩ t' ht';refine EB.stop ⟨_,[I4 P],Ce (Frame.enter P F.fn args .deferred) (Um t' dst (.tuple #[])) [] [.inRegion [o1,⟨dst,.call ⟨.builtin .close,#[xo],tys⟩,ty,pos,af,none⟩].toArray []],[I4 P],rfl,⟨λw s r fw hw=>?_,rfl,4,Tu hf hres⟩⟩;rw [hmn,Oh ht' (ops:=[o1,⟨dst,.call ⟨.builtin .close,#[xo],tys⟩,ty,pos,af,none⟩].toArray) (n:=1) (o:=⟨dst,.call ⟨.builtin .close,#[xo],tys⟩,ty,pos,af,none⟩) rfl (by simp [Region.wanted]) (.inr rfl)];simp only [stepG.apply,YR hx hw,if_true];have hk:((Ce (Frame.enter P F.fn args .deferred) t' [] [.inRegion [o1,⟨dst,.call ⟨.builtin .close,#[xo],tys⟩,ty,pos,af,none⟩].toArray [1]]).kind==CallKind.early)=false:=rfl;rw [Cz (ops:=[o1,⟨dst,.call ⟨.builtin .close,#[xo],tys⟩,ty,pos,af,none⟩].toArray) (i:=1) rfl];simp only [hk,Bool.false_eq_true,if_false];show GStep.go _ _ (seen P _ _++ #[])=_;rw [VC];rfl
end
end Go.Ns
namespace Go.Ns
open Go.Conc
theorem CU.at{h:GH}{t:TypeId}{l:List Sl}(a:CU h t l){x:Sl}(hx:x ∈ l):D0 h t x.1 x.2:=by
 obtain ⟨i,hi,e⟩:=List.mem_iff_getElem.1 hx;have z:=a i;rw [List.getD_eq_getElem?_getD,List.getElem?_eq_getElem hi] at z;have z2:D0 h t l[i].1 l[i].2:=z;rw [<-e];exact z2
theorem CU.of{h:GH}{t:TypeId}{l:List Sl}(a:∀x ∈ l,D0 h t x.1 x.2):CU h t l:=λk=>by
 by_cases hk:k<l.length
 ·exact a _ (B7 hk)
 ·rw [CE aA];exact D0.nil _ _
theorem CU.store{h h':GH}{t t':TypeId}{l:List Sl}{r:Nat}{p:Bool}{c:Array Value}{f:Nat×Nat}(x:CU h t l)(hr:h r=some (p,.cells c t' f))(ne:t'≠t)(ho:∀b,b≠r->h' b=h b):CU h' t l:=λk=>(x k).store hr ne ho
theorem D0.storeL{h h':GH}{t:TypeId}{w:Value}{xs:List Int}{r:Nat}{p:Bool}{lo:Loop}(x:D0 h t w xs)(hr:h r=some (p,.loop lo))(ho:∀b,b≠r->h' b=h b):D0 h' t w xs:=
 x.same λb hb=>ho b λe=>by
  obtain ⟨p2,c2,f2,q⟩:=x.2 b hb;rw [e,hr] at q;cases q
def RG(hB:GH)(r:Nat)(T t t0:TypeId)(F:List Int->Bool)(pre:List (List Int))(Y:Nat->Prop)(h:GH):Prop:=
 ∃w l',h r=some (true,.cells #[w] T (0,0))/\AS hB h w t 1 LA l'/\BE w r/\hB r=none/\A3 l'=pre.filter F/\CU h t0 l'/\∀b,Y b↔b=r\/CW w=some b\/∃x ∈ l',CW x.1=some b
section
variable {hB h h' ha hb:GH} {r:Nat} {T t t0:TypeId} {F:List Int->Bool} {pre:List (List Int)} {p:List Int} {w w' v:Value} {Y:Nat->Prop} {l':List Sl}
theorem PD(hB:GH)(r:Nat)(T t t0:TypeId)(F:List Int->Bool):GC hB (RG hB r T t t0 F):=by
 refine ⟨?_,?_⟩
 ·rintro pre Y h b ⟨w,l',h1,h2,h3,h0,h5,h6,h4⟩ hb;rcases (h4 b).1 hb with rfl | h7 | ⟨x,hx,h7⟩
  ·exact ⟨_,_,h1,rfl⟩
  ·obtain ⟨c,hc⟩:=h2.cellsAt b h7;exact ⟨_,_,hc,rfl⟩
  ·obtain ⟨q,c,f,hc⟩:=(h6.at hx).2 b h7;exact ⟨_,_,hc,rfl⟩
 ·rintro pre Y h h' ⟨w,l',h1,h2,h3,h0,h5,h6,h4⟩ same lB;refine ⟨w,l',by rw [same r ((h4 r).2 (.inl rfl))];exact h1,h2.keep λb o hb ho=>by rw [same b ((h4 b).2 (.inr (.inl hb)))];exact ho,h3,h0,h5,.of λx hx=>(h6.at hx).same λb hb=>same b ((h4 b).2 (.inr (.inr ⟨x,hx,hb⟩))),h4⟩
theorem NO(x:h r=some (true,.cells #[.slice none 0 0] T (0,0)))(h0:hB r=none):RG hB r T t t0 F [] (λb=>b=r) h:=
 ⟨_,[],x,AS.nil _ _ _ _ _,BE.nil,h0,rfl,CU.nil _ _,λ_=>⟨.inl,λq=>q.elim id λe=>e.elim (λe=>by cases e) λ⟨_,e,_⟩=>by cases e⟩⟩
theorem RH(hY:∀b,Y b↔b=r\/CW w=some b\/∃x ∈ l',CW x.1=some b)(g:G8 ha hb w w')(hn:∀q,ha q=none->h q=none)(x:h' r=some (true,.cells #[w'] T (0,0)))(o:AS hB h' w' t 1 LA (l'++[(v,p)]))(f:BE w' r)(h0:hB r=none)
  (hl:A3 l'=pre.filter F) (hp:F p=true) (ta:CU h' t0 (l'++[(v,p)])):∃Y',(∀b,Y' b->(Y b\/CW v=some b)\/h b=none)/\RG hB r T t t0 F (pre++[p]) Y' h':=by
 refine ⟨λb=>b=r\/CW w'=some b\/∃x ∈ l'++[(v,p)],CW x.1=some b,?_,w',_,x,o,f,h0,?_,ta,λ_=>Iff.rfl⟩
 ·rintro b (rfl | hb | ⟨y,hy,hb⟩)
  ·exact .inl (.inl ((hY _).2 (.inl rfl)))
  ·rcases g.2 with e | ⟨⟨q,e1,e2⟩,_⟩
   ·exact .inl (.inl ((hY _).2 (.inr (.inl (by rw [<-e];exact hb)))))
   ·rw [e1] at hb;cases hb;exact .inr (hn _ e2)
  ·rcases List.mem_append.1 hy with hy | hy
   ·exact .inl (.inl ((hY _).2 (.inr (.inr ⟨y,hy,hb⟩))))
   ·rw [List.mem_singleton.1 hy] at hb;exact .inl (.inr hb)
 ·rw [MP,hl,List.filter_append];simp [A3,hp]
theorem Va(hY:∀b,Y b↔b=r\/CW w=some b\/∃x ∈ l',CW x.1=some b)(x:h' r=some (true,.cells #[w] T (0,0)))(o:AS hB h' w t 1 LA l')(f:BE w r)(h0:hB r=none)(hl:A3 l'=pre.filter F)(hp:F p=false)(ta:CU h' t0 l') :
  ∃Y',(∀b,Y' b->(Y b\/CW v=some b)\/h b=none)/\RG hB r T t t0 F (pre++[p]) Y' h':=
 ⟨Y,λ_ q=>.inl (.inl q),w,l',x,o,f,h0,by rw [hl,List.filter_append];simp [hp],ta,hY⟩
end
def tVal:De->Value
 | .job i=>.int .i64 i
 | .res i b=>.agg #[.int .i64 i,.bool b]
 | .tick=>.bool true
def tOK(n:Nat):De->Prop
 | .job i=>i<n
 | .res i _=>i<n
 | .tick=>True
def Nk(n:Nat):Nat->De->Value->GH->Prop:=λ_ m v hm=>v=tVal m/\tOK n m/\hm=λ_=>none
theorem GH.split_none(h:GH):GH.Split h h (λ_=>none) where
 left:=λb p o hb=>⟨p,hb,id⟩
 right:=λb p o hb=>by cases hb
 one:=λ_ _ _ _ hb=>by cases hb
 two:=λ_ _ _ hb _=>by cases hb
section
variable {cj co cd n k:Nat} {ok:Nat->Bool}
theorem YS(h:k<n):some (HA cj (n-k) k)=some (.send cj (.job k) (HA cj (n-(k+1)) (k+1))):=by
 rw [show n-k=(n-(k+1))+1 by omega];rfl
theorem feed_end(h:n<=k):some (HA cj (n-k) k)=some (.close cj .done):=by rw [show n-k=0 by omega];rfl
theorem Tv:∀m k,¬(HA cj m k).isDone
 | 0,_=>id
 | _+1,_=>id
theorem Tw:∀m,¬(FI cj co cd ok m).isDone
 | 0=>id
 | _+1=>id
theorem YT{m:Nat}:∀o,¬(Te co cd ok (FI cj co cd ok m) o).isDone
 | none=>id
 | some (.job _)=>id
 | some (.res _ _)=>id
 | some .tick=>id
theorem RI:∀t,¬(D5 co cd t).isDone
 | 0=>id
 | _+1=>id
theorem Vb{t:Nat}:∀o,¬(ML (D5 co cd t) o).isDone
 | none=>id
 | some (.job _)=>id
 | some (.res _ _)=>id
 | some .tick=>RI t
theorem Tx:∀m R,¬(FJ co ok m R).isDone
 | 0,_=>id
 | _+1,_=>id
theorem XT{c:Prop}[Decidable c]{a b:Co De}(ha:¬a.isDone)(hb:¬b.isDone):¬(if c then a else b).isDone:=by split <;> assumption
theorem YU{m:Nat}{R:List Nat}:∀o,¬(Hx ok R (FJ co ok m) o).isDone
 | none=>XT id id
 | some (.job _)=>id
 | some .tick=>id
 | some (.res _ _)=>XT (Tx _ _) id
theorem Tz:∀m,¬(Hg cj co cd n ok m).isDone
 | 0=>id
 | _+1=>id
theorem Vc(h:k<3):some (D5 co cd (3-k))=some (.recv cd (ML (D5 co cd (3-(k+1))))):=by
 rw [show 3-k=(3-(k+1))+1 by omega];rfl
theorem YV(h:3<=k):some (D5 co cd (3-k))=some (.close co .done):=by rw [show 3-k=0 by omega];rfl
theorem YW(h:k<3):some (Hg cj co cd n ok (3-k))=some (.spawn (FI cj co cd ok (n+1)) (Hg cj co cd n ok (3-(k+1)))):=by
 rw [show 3-k=(3-(k+1))+1 by omega];rfl
theorem crew_end(h:3<=k):some (Hg cj co cd n ok (3-k))=some (.spawn (D5 co cd 3) (FJ co ok (n+1) (List.range n))):=by rw [show 3-k=0 by omega];rfl
end
def Sd(n:Nat)(ok:Nat->Bool)(R:List Nat):List Bool:=(List.range n).map λi=>if i ∈ R then false else ok i
theorem XU(n:Nat)(ok:Nat->Bool)(R:List Nat):(Sd n ok R).length=n:=by unfold Sd;rw [List.length_map,List.length_range]
theorem YX(n:Nat)(ok:Nat->Bool):Sd n ok (List.range n)=List.replicate n false:=by
 unfold Sd;refine List.ext_getElem aD λi h1 h2=>?_
 have:i<n:=by simpa using h1
 simp [this]
theorem isL_put{n i:Nat}{ok:Nat->Bool}{R:List Nat}(hR:R.Nodup):(Sd n ok R).set i (ok i)=Sd n ok (R.erase i):=by
 unfold Sd;refine List.ext_getElem aD λj h1 h2=>?_;rw [List.getElem_set];simp only [List.getElem_map,List.getElem_range,List.Nodup.mem_erase_iff hR];by_cases e:i=j
 ·subst e;simp
 ·rw [if_neg e]
  have:j≠i:=λq=>e q.symm
  simp [this]
theorem XV{n:Nat}{ok:Nat->Bool}{k:Nat}(hk:k<n):(Sd n ok []).getD k false=ok k:=by
 unfold Sd;rw [List.getD_eq_getElem?_getD,List.getElem?_map,List.getElem?_range hk];simp
def I6(fl:List Sl)(ok:Nat->Bool):Nat->List Sl
 | 0=>[]
 | k+1=>if ok k=true then I6 fl ok k++[fl.getD k Sl.z] else I6 fl ok k
theorem selS_t{fl:List Sl}{ok:Nat->Bool}{k:Nat}(h:ok k=true):I6 fl ok (k+1)=I6 fl ok k++[fl.getD k Sl.z]:=if_pos h
theorem selS_f{fl:List Sl}{ok:Nat->Bool}{k:Nat}(h:ok k=false):I6 fl ok (k+1)=I6 fl ok k:=if_neg (by rw [h];simp)
theorem T0(fl:List Sl)(ok:Nat->Bool):∀k,(I6 fl ok k).length<=k
 | 0=>Nat.le_refl _
 | k+1=>by
  have:=T0 fl ok k
  unfold I6;split
  ·rw [List.length_append,List.length_singleton];omega
  ·omega
theorem PE{fl:List Sl}{G:List Int->Bool}:∀k,k<=fl.length->A3 (I6 fl (λi=>G (fl.getD i Sl.z).2) k)=((A3 fl).take k).filter G
 | 0,_=>rfl
 | k+1,h=>by
  have ih:=PE (fl:=fl) (G:=G) k aA;have e:(A3 fl).take (k+1)=(A3 fl).take k++[(fl.getD k Sl.z).2]:=by rw [D4 [] (by rw [CA];omega),FY (l:=fl) aA]
  unfold I6;rw [e,List.filter_append];by_cases q:G (fl.getD k Sl.z).2=true
  ·rw [if_pos q,MP,ih,List.filter_cons_of_pos q];rfl
  ·rw [if_neg q,ih,List.filter_cons_of_neg q,List.filter_nil,List.append_nil]
end Go.Ns
namespace Go.Ns
open Go.Conc
section
variable {P:Program} {M:Type} {F:MK P M} {i i':Option (Co M)} {O:Nat->Value} {ds:List Deferred} {h:GH} {Q:Og M}
theorem trI_ix{c:Code}(e:i=i')(x:Nj F c i' O ds h Q):Nj F c i O ds h Q:=e▸x
theorem I7{ops:Array Oper}{l:List Oper}(e:i=i')(x:GD F ops l i' O ds h Q):GD F ops l i O ds h Q:=e▸x
theorem YY{c:Code}{Q:Post}(x:Nj F c none O ds h λi e O ds h=>i=none/\Q e O ds h):Tr ⟨F.W,F.fn,F.rd,F.N⟩ c O ds h Q:=by
 intro b k cs L t hb hr hl hs hc;refine x b k cs (λi=>match i with | none=>L | some _=>λ_ _ _ _=>False) t hb hr (λi=>?_) hs λi e σ' ds' h' q t' ht'=>?_
 ·cases i with
  | none=>exact hl
  | some s=>exact ⟨λ_ _ _ x=>x.elim,λ_ _ _ _ x=>x.elim,λ_ _ _ _ _ _ x=>x.elim⟩
 ·obtain ⟨rfl,q⟩:=q;exact hc e σ' ds' h' q t' ht'
theorem trI_end{c:Code}{Q:Post}(x:Tr (F.env none) c O ds h Q):Nj F c none O ds h λi e O ds h=>i=none/\Q e O ds h:=
 IY (Jz (λ_ _ _ _ q=>⟨rfl,q⟩) x)
variable {dst:Option Nat} {ty:TypeId} {pos:String} {af:Array Edge} {gd:Option (Nat×Bool)}
theorem PG{a x:Operand}{c:Nat}{v:Value}(ha:AO O a=.chan (some c))(hx:AO O x=v)(w:World):(execOp (AO O) ⟨dst,.send a x,ty,pos,af,gd⟩).runT P w #[]=(.ok (.comm #[scase c v (.tuple #[])] true .send) w,#[]):=by
 subst hx;show (Result.ok (Next.comm #[{ chan:=AO O a,send:=some (AO O x),zero:=.tuple #[] }] true .send) w,#[])=_;rw [ha];rfl
theorem run_recv{a:Operand}{c:Nat}{t e:TypeId}{d:ChanDir}{ok:Bool}{z:Value}{inf:TypeInfo}(ht:P.underlying t=some (.chan d e))(hi:P.info? e=some inf)(hz:inf.zero=some z)(ha:AO O a=.chan (some c))(w:World) :
  (execOp (AO O) ⟨dst,.recv t a ok,ty,pos,af,gd⟩).runT P w #[]=(.ok (.comm #[rcase c z] true (.recv ok)) w,#[]):=by
 have h1:(zeroValue e).run P w=.ok z w:=by
  unfold zeroValue typeInfo;simp only [Sem.run_bind,program,hi];simp [Sem.run,hi,hz]
 have h2:(underlying t).run P w=.ok (.chan d e) w:=run_underlying ht w;rw [Sem.runT_eq];unfold execOp;simp [h1,h2,ha,rcase]
theorem MR{a:Operand}{c:Nat}{t e:TypeId}{d:ChanDir}{ok:Bool}{z:Value}(ht:P.underlying t=some (.chan d e))(hz:(P.info? e).map (·.zero)=some (some z))(ha:AO O a=.chan (some c))(w:World) :
  (execOp (AO O) ⟨dst,.recv t a ok,ty,pos,af,gd⟩).runT P w #[]=(.ok (.comm #[rcase c z] true (.recv ok)) w,#[]):=by
 obtain ⟨inf,hi,h2⟩:=Option.map_eq_some_iff.1 hz;exact run_recv ht hi h2 ha w
theorem Vd{x:Operand}{f:Fn}{cap:Array Value}{tys:Array TypeId}(hx:AO O x=.func f #[] cap)(w:World):(execOp (AO O) ⟨dst,.go ⟨.value x,#[],tys⟩,ty,pos,af,gd⟩).runT P w #[]=(.ok (.spawn { target:=.fn f cap,args:=#[] }) w,#[]):=by
 have e:resolve (AO O) ⟨.value x,#[],tys⟩ ty=(pure { target:=.fn f cap,args:=#[] }:Sem Deferred):=by
  unfold resolve;simp only [hx,Deferred.ofValue];simp
 unfold execOp;simp only [e];rfl
variable {E:GF P} {T:(Nat->Value)->List Deferred->GH->Prop}
theorem Jm{t e:TypeId}{d:ChanDir}{n:Operand}(ht:P.underlying t=some (.chan d e))(hi0:(P.info? e).isSome=true)(hn:AO O n=.int .i64 0)
  (k:∀r h',h r=none->h.Le h'->h' r=some (true,.chan 0 #[] false 0 0 false)->(∀b,b≠r->h' b=h b)->T (putS O dst (.chan (some r))) ds h'):BS E ⟨dst,.makeChan t n,ty,pos,af,gd⟩ O ds h T:=by
 unfold BS execOp;refine FW ?_;unfold Instr.makeChan;rw [hn];refine AE _ _ (Av ?_);refine AE _ _ (Ao ht ?_);simp only [];obtain ⟨inf,hi⟩:=Option.isSome_iff_exists.1 hi0;refine AE _ _ (Cj hi ?_);rw [if_neg (by simp [IntKind.max];decide)];refine AE _ _ ?_;exact λr hr=>k r _ hr (GH.Le.new hr _ _) (GH.set_same _ _ _ _) λb hb=>GH.set_ne _ _ _ hb
end
section
variable {P:Program} {F:MK P De} {i i':Option (Co De)} {O:Nat->Value} {ds:List Deferred} {h:GH} {Q:Og De} {ops:Array Oper} {o:Oper} {l:List Oper} {n:Nat} {cj co cd c m k:Nat} {ok:Nat->Bool} {R:List Nat} {z:Value}
theorem I5.ix{X:Code}{args:Array Value}(e:i=i')(x:I5 F X args i' O h):I5 F X args i O h:=e▸x
theorem HL:GD F ops l (some .never) O ds h Q:=λ_ _ _ _ _ _ _ _ _ _ _ _=>EB.stop rfl
theorem GH.join_none(h:GH):h.join (λ_=>none)=h:=by
 funext b;unfold GH.join;cases h b <;> rfl
theorem T1{s:De}{nx:Co De}(hR:F.Rep=Nk n)(hg:o.guard=none)(hdf:Cy o.op=false)(hd:Cw o.dst F.N=true)(hr:∀w,(execOp (AO O) o).runT P w #[]=(.ok (.comm #[scase c (tVal s) z] true .send) w,#[]))(hs:tOK n s)(hnx:¬nx.isDone)
  (x:GD F ops l (some nx) (putS O o.dst undef) ds h Q):GD F ops (o ::l) (some (.send c s nx)) O ds h Q:=
 X3 hg hdf hd hr (GH.split_none h) (by rw [hR];exact ⟨rfl,hs,rfl⟩) hnx x
theorem MS{f:Option De->Co De}{r:Bool}(hR:F.Rep=Nk n)(hg:o.guard=none)(hdf:Cy o.op=false)(hd:Cw o.dst F.N=true)(hr:∀w,(execOp (AO O) o).runT P w #[]=(.ok (.comm #[rcase c z] true (.recv r)) w,#[]))(hnx:∀o,¬(f o).isDone)
  (x:∀s,tOK n s->GD F ops l (some (f (some s))) (putS O o.dst (recvd r (tVal s) true)) ds h Q) (y:GD F ops l (some (f none)) (putS O o.dst (recvd r z false)) ds h Q):GD F ops (o ::l) (some (.recv c f)) O ds h Q:=
 X4 hg hdf hd hr hnx (λs v hm hrep _=>by
  rw [hR] at hrep;obtain ⟨rfl,h2,rfl⟩:=hrep;rw [GH.join_none];exact x s h2) y
theorem T3(hR:F.Rep=Nk n)(hg:o.guard=none)(hdf:Cy o.op=false)(hd:Cw o.dst F.N=true)(hr:∀w,(execOp (AO O) o).runT P w #[]=(.ok (.comm #[rcase cj z] true (.recv true)) w,#[]))
  (x:∀i,i<n->GD F ops l (some (.send co (.res i (ok i)) (FI cj co cd ok m))) (putS O o.dst (.tuple #[.int .i64 i,.bool true])) ds h Q) (y:GD F ops l (some (.send cd .tick .done)) (putS O o.dst (.tuple #[z,.bool false])) ds h Q) :
  GD F ops (o ::l) (some (FI cj co cd ok (m+1))) O ds h Q:=
 MS (f:=Te co cd ok (FI cj co cd ok m)) hR hg hdf hd hr YT (λs hs=>by
  cases s with
  | job i=>exact x i hs
  | res i b=>exact HL
  | tick=>exact HL) y
theorem T4(hR:F.Rep=Nk n)(hg:o.guard=none)(hdf:Cy o.op=false)(hd:Cw o.dst F.N=true)(hr:∀w,(execOp (AO O) o).runT P w #[]=(.ok (.comm #[rcase cd z] true (.recv false)) w,#[]))(hk:k<3)
  (x:GD F ops l (some (D5 co cd (3-(k+1)))) (putS O o.dst (.bool true)) ds h Q):GD F ops (o ::l) (some (D5 co cd (3-k))) O ds h Q:=
 I7 (Vc hk) (MS (f:=ML (D5 co cd (3-(k+1)))) hR hg hdf hd hr Vb (λs _=>by
  cases s with
  | job i=>exact HL
  | res i b=>exact HL
  | tick=>exact x) HL)
theorem YZ(hR:F.Rep=Nk n)(hg:o.guard=none)(hdf:Cy o.op=false)(hd:Cw o.dst F.N=true)(hr:∀w,(execOp (AO O) o).runT P w #[]=(.ok (.comm #[rcase co z] true (.recv true)) w,#[]))
  (x:∀i,i<n->i ∈ R->GD F ops l (some (FJ co ok m (R.erase i))) (putS O o.dst (.tuple #[.agg #[.int .i64 i,.bool (ok i)],.bool true])) ds h Q) (y:R=[]->GD F ops l (some .stop) (putS O o.dst (.tuple #[z,.bool false])) ds h Q) :
  GD F ops (o ::l) (some (FJ co ok (m+1) R)) O ds h Q:=
 MS (f:=Hx ok R (FJ co ok m)) hR hg hdf hd hr YU (λs hs=>by
  cases s with
  | job i=>exact HL
  | tick=>exact HL
  | res i b=>
   by_cases e:i ∈ R/\b=ok i
   ·obtain ⟨e1,rfl⟩:=e;exact I7 (show some (Hx ok R (FJ co ok m) (some (.res i (ok i))))=some (FJ co ok m (R.erase i)) by unfold Hx;simp [e1]) (x i hs e1)
   ·exact I7 (show some (Hx ok R (FJ co ok m) (some (.res i b)))=some .never by show some (if i ∈ R/\b=ok i then _ else _)=_;rw [if_neg e]) HL) (by
  by_cases e:R=[]
  ·exact I7 (show some (Hx ok R (FJ co ok m) none)=some .stop by unfold Hx;rw [if_pos e]) (y e)
  ·exact I7 (show some (Hx ok R (FJ co ok m) none)=some .never by unfold Hx;rw [if_neg e]) HL)
end
theorem Ar.flags{h h':GH}{js:List AN}(s:h.Same h')(x:Ar h js):Ar h' js:=λk=>(x k).flags s
theorem AU.flags{h h':GH}{ns:List AI}(s:h.Same h')(x:AU h ns):AU h' ns:=λk=>(x k).flags s
theorem G9.flags{h h':GH}{l:List Sl}(s:h.Same h')(a:G9 h l):G9 h' l:=λk=>(a k).flags s
theorem D6.flags{h h':GH}{r np:Nat}{ws:List AF}{pq:List AG}(s:h.Same h')(x:D6 h r np ws pq):D6 h' r np ws pq:=by
 obtain ⟨pm,M,⟨es,clk,hb,hl⟩,hM⟩:=x;obtain ⟨p',hb'⟩:=s _ _ _ hb;exact ⟨p',M,⟨es,clk,hb',hl⟩,hM⟩
theorem tr_lays5{P:Program}{E:GF P}{id:Nat}{a0 a1 a2 a3 a4:Oper}{rest:List Oper}{d0 d1 d2 d3:Nat}{O:Nat->Value}{ds:List Deferred}{h:GH}{Q:Post}(o0 o1 o2 o3:Obj)(o4:Nat->Obj)(v0 v1 v2 v3:Nat->Value)(hm:P.follows .mixedOrders=true)
  (ok:Fq E.N (a0 ::a1 ::a2 ::a3 ::a4 ::rest) 5 [[],[],[],[],[0,2,3]]=true)
  (g0:a0.guard=none) (g1:a1.guard=none) (g2:a2.guard=none) (g3:a3.guard=none) (g4:a4.guard=none) (e0:a0.dst=some d0) (e1:a1.dst=some d1) (e2:a2.dst=some d2) (e3:a3.dst=some d3)
  (l0:∀σ' h',BS E a0 σ' ds h' λσ'' ds'' h''=>ds''=ds/\∃r,σ''=putS σ' a0.dst (v0 r)/\h' r=none/\h'.Le h''/\h'' r=some (true,o0)) (l1:∀σ' h',BS E a1 σ' ds h' λσ'' ds'' h''=>ds''=ds/\∃r,σ''=putS σ' a1.dst (v1 r)/\h' r=none/\h'.Le h''/\h'' r=some (true,o1))
  (l2:∀σ' h',BS E a2 σ' ds h' λσ'' ds'' h''=>ds''=ds/\∃r,σ''=putS σ' a2.dst (v2 r)/\h' r=none/\h'.Le h''/\h'' r=some (true,o2)) (l3:∀σ' h',BS E a3 σ' ds h' λσ'' ds'' h''=>ds''=ds/\∃r,σ''=putS σ' a3.dst (v3 r)/\h' r=none/\h'.Le h''/\h'' r=some (true,o3))
  (l4:∀r0 r2 σ' h',σ' d0=v0 r0->σ' d2=v2 r2->h' r2=some (true,o2)->BS E a4 σ' ds h' λσ'' ds'' h''=>ds''=ds/\σ''=σ'/\h'' r2=some (true,o4 r0)/\∀b,b≠r2->h'' b=h' b)
  (fin:∀(r0 r1 r2 r3:Nat) σ' h',h.Le h'->(h r0=none/\h' r0=some (true,o0)/\σ' d0=v0 r0)->(h r1=none/\h' r1=some (true,o1)/\σ' d1=v1 r1)->(h r2=none/\h' r2=some (true,o4 r0)/\σ' d2=v2 r2)->(h r3=none/\h' r3=some (true,o3)/\σ' d3=v3 r3)->
   (r0≠r1/\r0≠r2/\r0≠r3/\r1≠r2/\r1≠r3/\r2≠r3)->(∀t,(DQ (a0 ::a1 ::a2 ::a3 ::a4 ::rest) 5).contains t=false->σ' t=O t)->DD E (a0 ::a1 ::a2 ::a3 ::a4 ::rest).toArray rest σ' ds h' Q):Tr E (.region id (a0 ::a1 ::a2 ::a3 ::a4 ::rest).toArray true) O ds h Q:=by
 let l:=a0 ::a1 ::a2 ::a3 ::a4 ::rest;let obj:Nat->Obj:=λi=>match i with | 0=>o0 | 1=>o1 | 2=>o2 | _=>o3
 let val:Nat->Nat->Value:=λi=>match i with | 0=>v0 | 1=>v1 | 2=>v2 | _=>v3
 have lay:∀i o,i<4->l[i]? =some o->∀σ' h',BS E o σ' ds h' λσ'' ds'' h''=>ds''=ds/\∃r,σ''=putS σ' o.dst (val i r)/\h' r=none/\h'.Le h''/\h'' r=some (true,obj i):=by
  intro i o hi ho σ' h';rcases i with _ | _ | _ | _ | i
  ·cases ho;exact l0 σ' h'
  ·cases ho;exact l1 σ' h'
  ·cases ho;exact l2 σ' h'
  ·cases ho;exact l3 σ' h'
  ·omega
 have nd:(DQ l 5).Nodup:=by
  have:=ok
  unfold Fq at this;simp only [Bool.and_eq_true] at this;exact of_decide_eq_true this.1.2
 refine TL 5 [[],[],[],[],[0,2,3]] (λD σ' h'=>h.Le h'/\(D 4=true->D 0=true/\D 2=true)/\∃rs:Nat->Nat,(∀i,i<4->D i=true->h (rs i)=none/\h' (rs i)=some (true,if i=2/\D 4=true then o4 (rs 0) else obj i)/\∀o d,l[i]? =some o->o.dst=some d->σ' d=val i (rs i))/\
  (∀i j,i<4->j<4->D i=true->D j=true->i≠j->rs i≠rs j)/\∀t,(DQ l 5).contains t=false->σ' t=O t) hm ok ⟨GH.Le.refl _,(λe=>by cases e),λ_=>0,(λ_ _ q=>by cases q),(λ_ _ _ _ q=>by cases q),λ_ _=>rfl⟩ ?_ ?_
 ·rintro D σ' h' i o ⟨l1',hD4,rs,h1,h2,h3⟩ hi hD ho hcl _;have hgd:o.guard=none:=by
   rcases i with _ | _ | _ | _ | _ | i
   ·cases ho;exact g0
   ·cases ho;exact g1
   ·cases ho;exact g2
   ·cases ho;exact g3
   ·cases ho;exact g4
   ·omega
  refine ⟨λ_=>?_,λq=>absurd (by unfold DE;rw [hgd];trivial) q⟩;by_cases hi4:i=4
  ·subst hi4;have c0:D 0=true:=hcl 0 aD;have c2:D 2=true:=hcl 2 aD;cases ho;obtain ⟨q1,q2,q3⟩:=h1 0 aC c0;obtain ⟨p1,p2,p3⟩:=h1 2 aC c2;rw [if_neg (λe=>by rw [hD] at e;cases e.2)] at p2;refine (l4 (rs 0) (rs 2) σ' h' (q3 a0 d0 rfl e0) (p3 a2 d2 rfl e2) p2).mono λσ'' ds'' h'' q=>?_;obtain ⟨rfl,rfl,k1,k2⟩:=q;refine ⟨rfl,λb p x hb=>?_,λ_=>⟨by rw [Bi aC];exact c0,by rw [Bi aC];exact c2⟩,rs,λj hj hDj=>?_,λa b ha hb hDa hDb hab=>?_,h3⟩
   ·rw [k2 b λe=>by subst e;rw [p1] at hb;cases hb];exact l1' b p x hb
   ·rw [Bi aA] at hDj;obtain ⟨u1,u2,u3⟩:=h1 j hj hDj;refine ⟨u1,?_,u3⟩;by_cases ej:j=2
    ·subst ej;rw [if_pos ⟨rfl,if_pos rfl⟩];exact k1
    ·rw [if_neg (λe=>ej e.1),k2 _ (h2 j 2 hj aC hDj c2 ej)];rw [if_neg (λe=>ej e.1)] at u2;exact u2
   ·rw [Bi aA] at hDa hDb;exact h2 a b ha hb hDa hDb hab
  ·have hi':i<4:=aA
   refine (lay i o hi' ho σ' h').mono λσ'' ds'' h'' q=>?_;obtain ⟨rfl,r,rfl,hr,l2',hr2⟩:=q;have h4e:G0 D i 4=D 4:=Bi (λe=>hi4 e.symm);have hne:∀j,j<4->D j=true->rs j≠r:=λj hj hDj e=>by
    have:=(h1 j hj hDj).2.1
    rw [e,hr] at this;cases this
   refine ⟨rfl,l1'.trans l2',λe=>?_,λj=>if j=i then r else rs j,λj hj hDj=>?_,λa b ha hb hDa hDb hab=>?_,λt ht=>?_⟩
   ·rw [h4e] at e;obtain ⟨c0,c2⟩:=hD4 e;exact ⟨by rw [Bi (λq=>by subst q;rw [hD] at c0;cases c0)];exact c0,by rw [Bi (λq=>by subst q;rw [hD] at c2;cases c2)];exact c2⟩
   ·by_cases e:j=i
    ·subst e;dsimp only;rw [if_pos rfl];refine ⟨l1'.nothing hr,?_,λo' d ho' hd=>?_⟩
     ·rw [if_neg (λe=>by have e2:=e.2;rw [h4e] at e2;have e3:=(hD4 e2).2;rw [<-e.1,hD] at e3;cases e3)];exact hr2
     ·obtain rfl:o'=o:=Option.some.inj (ho'.symm.trans ho);rw [hd];exact upd_same _ _ _
    ·dsimp only;rw [if_neg e];rw [Bi e] at hDj;obtain ⟨q1,q2,q3⟩:=h1 j hj hDj;refine ⟨q1,?_,λo' d ho' hd=>by rw [Cr λd' hd'=>Dp nd hi (aA:j<5) (λq=>e q.symm) ho ho' hd' hd];exact q3 o' d ho' hd⟩;rw [h4e];by_cases hc:j=2/\D 4=true
     ·rw [if_pos hc] at q2 ⊢;rw [if_neg (λq=>by have c0:=(hD4 hc.2).1;rw [q,hD] at c0;cases c0)];exact l2'.keep q2 rfl
     ·rw [if_neg hc] at q2 ⊢;exact l2'.keep q2 rfl
   ·show (if a=i then r else rs a)≠(if b=i then r else rs b);by_cases ea:a=i
    ·by_cases eb:b=i
     ·exact absurd (ea.trans eb.symm) hab
     ·rw [if_pos ea,if_neg eb];rw [Bi eb] at hDb;exact (hne b hb hDb).symm
    ·rw [Bi ea] at hDa;by_cases eb:b=i
     ·rw [if_neg ea,if_pos eb];exact hne a ha hDa
     ·rw [if_neg ea,if_neg eb];rw [Bi eb] at hDb;exact h2 a b ha hb hDa hDb hab
   ·rw [Cr (HF hi ho ht)];exact h3 t ht
 ·rintro D σ' h' ⟨l1',hD4,rs,h1,h2,h3⟩ hall;have A:∀i,i<5->D i=true:=hall;have f0:=h1 0 aC (A 0 aC);have f1:=h1 1 aC (A 1 aC);have f2:=h1 2 aC (A 2 aC);have f3:=h1 3 aC (A 3 aC);rw [if_neg (λe=>by have:=e.1;omega)] at f0;rw [if_neg (λe=>by have:=e.1;omega)] at f1;rw [if_pos ⟨rfl,A 4 aC⟩] at f2;rw [if_neg (λe=>by have:=e.1;omega)] at f3;have ne:=λi j (hi:i<4) (hj:j<4)=>h2 i j hi hj (A i aA) (A j aA);exact fin (rs 0) (rs 1) (rs 2) (rs 3) σ' h' l1' ⟨f0.1,f0.2.1,f0.2.2 a0 d0 rfl e0⟩ ⟨f1.1,f1.2.1,f1.2.2 a1 d1 rfl e1⟩ ⟨f2.1,f2.2.1,f2.2.2 a2 d2 rfl e2⟩ ⟨f3.1,f3.2.1,f3.2.2 a3 d3 rfl e3⟩
   ⟨ne 0 1 aC aC aC,ne 0 2 aC aC aC,ne 0 3 aC aC aC,ne 1 2 aC aC aC,ne 1 3 aC aC aC,ne 2 3 aC aC aC⟩ h3
section
variable {h h' h0:GH} {r:Nat}
theorem GH.cut_ne{b:Nat}(e:b≠r):h.cut r b=h b:=if_neg e
theorem GH.Le.cut(l:h0.Le h)(n:h0 r=none):h0.Le (h.cut r):=λb p o hb=>by
 rw [GH.cut_ne λe=>by subst e;rw [n] at hb;cases hb];exact l b p o hb
theorem AS.cut{V:Type}{v:Value}{t:TypeId}{n:Nat}{enc:V->Array Value}{xs:List V}(x:AS h0 h v t n enc xs)(f:BE v r):AS h0 (h.cut r) v t n enc xs:=
 x.keep λb o hb ho=>by rw [GH.cut_ne λe=>by subst e;exact f hb];exact ho
theorem AS.del'{V:Type}{v:Value}{t:TypeId}{n:Nat}{enc:V->Array Value}{xs:List V}(x:AS h0 h v t n enc xs)(f:BE v r):AS h0 (h.del r) v t n enc xs:=
 x.keep λb o hb ho=>by rw [GH.del_ne λe=>by subst e;exact f hb];exact ho
theorem D0.keep3{X:Nat->Prop}{t0 T t:TypeId}{n l:Nat}{w v:Value}{p q:Bool}{c:Array Value}{f:Nat×Nat}{lo:Loop}{ys:List Sl}{hB:GH}{ys':List Int}(x:D0 h t0 v ys')(k:Bc X h h')(hX:∀b,X b->(b=r\/CW w=some b)\/b=l)(hr:h r=some (p,.cells c T f))(ow:AS hB h w t n LA ys)(hl:h l=some (q,.loop lo))(n1:T≠t0)(n2:t≠t0):D0 h' t0 v ys':=
 x.keepX k λb hb q2=>by
  obtain ⟨p2,c2,f2,e⟩:=x.2 b hb;rcases hX b q2 with (rfl | q3) | rfl
  ·rw [hr] at e;cases e;exact n1 rfl
  ·rcases ow with ⟨rfl,_⟩ | ⟨b1,cap,c1,rfl,_,h2,_⟩
   ·cases q3
   ·simp only [CW,Option.some.injEq] at q3;subst q3;rw [h2] at e;cases e;exact n2 rfl
  ·rw [hl] at e;cases e
theorem Bc.mono{X Y:Nat->Prop}(k:Bc X h h')(s:∀b,X b->Y b):Bc Y h h':=λb p o hb hn=>k b p o hb λx=>hn (s b x)
end
theorem Ya{n:Nat}{fl:List Sl}(h:A3 fl=DI (DS n))(hn:n<=4)(i:Nat):Sb n (fl.getD i Sl.z).2:=by
 by_cases hi:i<fl.length
 ·refine Jk (λx hx=>PB hx) (by rw [DT];exact hn) (r:=(fl.getD i Sl.z).2) ?_;rw [<-h,<-FY hi];exact B7 (by rw [CA];exact hi)
 ·rw [CE aA];exact ⟨λk hk=>absurd hk (Nat.not_lt_zero _),Nat.zero_le _⟩
theorem D0.storeD{h h':GH}{t:TypeId}{v:Value}{xs:List Int}{r:Nat}{p:Bool}{q:Option (List Deferred)}(x:D0 h t v xs)(hr:h r=some (p,.deferred q))(ho:∀b,b≠r->h' b=h b):D0 h' t v xs:=
 x.same λb hb=>ho b λe=>by
  obtain ⟨p2,c2,f2,z⟩:=x.2 b hb;rw [e,hr] at z;cases z
theorem CU.storeD{h h':GH}{t:TypeId}{l:List Sl}{r:Nat}{p:Bool}{q:Option (List Deferred)}(x:CU h t l)(hr:h r=some (p,.deferred q))(ho:∀b,b≠r->h' b=h b):CU h' t l:=λk=>
 (x k).same λb hb=>ho b λe=>by
  obtain ⟨p2,c2,f2,z⟩:=(x k).2 b hb;rw [e,hr] at z;cases z
theorem selS_all{fl:List Sl}{G:List Int->Bool}{all:List (List Int)}{k:Nat}(h:A3 fl=all)(h1:k<=fl.length)(h2:fl.length<=k):A3 (I6 fl (λi=>G (fl.getD i Sl.z).2) k)=all.filter G:=by
 rw [PE k h1,List.take_of_length_le (by rw [CA];exact h2),h]
theorem CU.sel{h:GH}{t:TypeId}{fl:List Sl}{ok:Nat->Bool}{k:Nat}(a:CU h t fl):CU h t (I6 fl ok k):=by
 induction k with
 | zero=>exact CU.nil h t
 | succ k ih=>
  unfold I6;split
  ·exact CU.app ih (CU.one (a k))
  ·exact ih
end Go.Ns
namespace Go.Ns
theorem Se{P:Program}{O:Nat->Value}{h:GH}{fn:Func}{R:Value->GH->Prop}{a u s:Tmp}{t:TypeId}{b off:Nat}{v v' v2:Value}(hr:fn.results=#[.tmp u,.cell a t,.tmp s])(hv:O u=v)(ha:O a=.pointer (some ⟨b,off,none⟩))(hv':Rd P h t b off v')(hv2:O s=v2)(x:R (.tuple #[v,v',v2]) h):GI P fn O R [] h:=by
 unfold GI;rw [hr];subst hv;subst hv2;exact ⟨b,off,v',ha,hv',x⟩
section
variable (np:Nat) (ws:List AF) (js:List AN) (pq:List AG) (bag kinds:Int)
def Hk:List (List Int):=(DI (DS js.length)).filter (λq=>CG np ws js pq q bag kinds)
end
def N0(g:List (List Int))(x:List Int):List (List Int):=if 0<g.length/\(g.getD 0 []).length<x.length then [] else g
def N1(g:List (List Int))(x:List Int):List (List Int):=if g.length=0\/x.length=(g.getD 0 []).length then g++[x] else g
def T5(g:List (List Int))(x:List Int):List (List Int):=N1 (N0 g x) x
def Sf(l:List (List Int)):Nat->List (List Int)
 | 0=>[]
 | k+1=>T5 (Sf l k) (l.getD k [])
def Gt(g:List Sl)(x:Sl):List Sl:=if 0<g.length/\(g.getD 0 Sl.z).2.length<x.2.length then [] else g
def Hl(g:List Sl)(x:Sl):List Sl:=if g.length=0\/x.2.length=(g.getD 0 Sl.z).2.length then g++[x] else g
def C4(g:List Sl)(x:Sl):List Sl:=Hl (Gt g x) x
def BD(l:List Sl):Nat->List Sl
 | 0=>[]
 | k+1=>C4 (BD l k) (l.getD k Sl.z)
section
variable {l g:List Sl} {x:Sl} {k:Nat}
theorem PH(h0:0<g.length)(h1:(g.getD 0 Sl.z).2.length<x.2.length):C4 g x=[x]:=by
 unfold C4 Gt;rw [if_pos ⟨h0,h1⟩];rfl
theorem PI(h0:0<g.length)(h1:x.2.length=(g.getD 0 Sl.z).2.length):C4 g x=g++[x]:=by
 unfold C4 Gt;rw [if_neg (λe=>by have:=e.2;omega)];unfold Hl;rw [if_pos (.inr h1)]
theorem PJ(h0:0<g.length)(h1:x.2.length<(g.getD 0 Sl.z).2.length):C4 g x=g:=by
 unfold C4 Gt;rw [if_neg (λe=>by have:=e.2;omega)];unfold Hl;rw [if_neg];rintro (e | e) <;> omega
theorem PK(h0:g.length=0):C4 g x=g++[x]:=by
 unfold C4 Gt;rw [if_neg (λe=>by have:=e.1;omega)];unfold Hl;rw [if_pos (.inl h0)]
theorem goodS_a(h0:0<(BD l k).length)(h1:((BD l k).getD 0 Sl.z).2.length<(l.getD k Sl.z).2.length):BD l (k+1)=[l.getD k Sl.z]:=PH h0 h1
theorem goodS_b(h0:0<(BD l k).length)(h1:(l.getD k Sl.z).2.length=((BD l k).getD 0 Sl.z).2.length):BD l (k+1)=BD l k++[l.getD k Sl.z]:=PI h0 h1
theorem goodS_c(h0:0<(BD l k).length)(h1:¬((BD l k).getD 0 Sl.z).2.length<(l.getD k Sl.z).2.length)(h2:¬(l.getD k Sl.z).2.length=((BD l k).getD 0 Sl.z).2.length):BD l (k+1)=BD l k:=PJ h0 aA
theorem goodS_d(h0:(BD l k).length=0):BD l (k+1)=BD l k++[l.getD k Sl.z]:=PK h0
theorem goodS_t(h1:¬(0<(BD l k).length/\((BD l k).getD 0 Sl.z).2.length<(l.getD k Sl.z).2.length))(h2:(BD l k).length=0\/(l.getD k Sl.z).2.length=((BD l k).getD 0 Sl.z).2.length):BD l (k+1)=BD l k++[l.getD k Sl.z]:=by
 by_cases h0:(BD l k).length=0
 ·exact goodS_d h0
 ·exact goodS_b aA aA
theorem goodS_f(h1:¬(0<(BD l k).length/\((BD l k).getD 0 Sl.z).2.length<(l.getD k Sl.z).2.length))(h2:¬((BD l k).length=0\/(l.getD k Sl.z).2.length=((BD l k).getD 0 Sl.z).2.length)):BD l (k+1)=BD l k:=goodS_c aA aA aA
theorem Hm(g:List Sl)(x:Sl):C4 g x=[x]\/C4 g x=g++[x]\/(C4 g x=g/\0<g.length):=by
 by_cases h0:g.length=0
 ·exact .inr (.inl (PK h0))
 ·by_cases h1:(g.getD 0 Sl.z).2.length<x.2.length
  ·exact .inl (PH aA h1)
  ·by_cases h2:x.2.length=(g.getD 0 Sl.z).2.length
   ·exact .inr (.inl (PI aA h2))
   ·exact .inr (.inr ⟨PJ aA aA,aA⟩)
theorem Yb:∀k,0<k->0<(BD l k).length
 | k+1,_=>by
  show 0<(C4 (BD l k) (l.getD k Sl.z)).length;rcases Hm (BD l k) (l.getD k Sl.z) with e | e | ⟨e,h⟩ <;> rw [e]
  ·exact Nat.zero_lt_one
  ·rw [List.length_append];exact Nat.succ_pos _
  ·exact h
theorem RJ:∀k,(BD l k).length<=k
 | 0=>Nat.le_refl _
 | k+1=>by
  have ih:=RJ k;show (C4 (BD l k) (l.getD k Sl.z)).length<=_;rcases Hm (BD l k) (l.getD k Sl.z) with e | e | ⟨e,_⟩ <;> rw [e]
  ·simp
  ·rw [List.length_append,List.length_singleton];omega
  ·omega
theorem MT:∀k,k<=l.length->∀y ∈ BD l k,y ∈ l
 | 0,_,y,hy=>by cases hy
 | k+1,hk,y,hy=>by
  have ih:=MT k aA;have hx:l.getD k Sl.z ∈ l:=B7 aA;change y ∈ C4 (BD l k) (l.getD k Sl.z) at hy;rcases Hm (BD l k) (l.getD k Sl.z) with e | e | ⟨e,_⟩ <;> rw [e] at hy
  ·rw [List.mem_singleton.1 hy];exact hx
  ·rcases List.mem_append.1 hy with hy | hy
   ·exact ih y hy
   ·rw [List.mem_singleton.1 hy];exact hx
  ·exact ih y hy
theorem NP:∀k,k<=l.length->A3 (BD l k)=Sf (A3 l) k
 | 0,_=>rfl
 | k+1,hk=>by
  have ih:=NP k aA;have hg:∀g:List Sl,(g.getD 0 Sl.z).2=(A3 g).getD 0 []:=λg=>by cases g <;> rfl
  show A3 (C4 (BD l k) (l.getD k Sl.z))=T5 (Sf (A3 l) k) ((A3 l).getD k []);rw [<-ih,FY aA];have hc:A3 (Gt (BD l k) (l.getD k Sl.z))=N0 (A3 (BD l k)) (l.getD k Sl.z).2:=by
   unfold Gt N0;rw [hg,CA];split <;> rfl
  have ha:∀g:List Sl,A3 (Hl g (l.getD k Sl.z))=N1 (A3 g) (l.getD k Sl.z).2:=λg=>by
   unfold Hl N1;rw [hg,CA];split
   ·rw [MP];rfl
   ·rfl
  show A3 (Hl (Gt (BD l k) (l.getD k Sl.z)) (l.getD k Sl.z))=N1 (N0 (A3 (BD l k)) _) _;rw [ha,hc]
end
theorem CU.good{h:GH}{t:TypeId}{l:List Sl}{k:Nat}(a:CU h t l)(hk:k<=l.length):CU h t (BD l k):=.of λx hx=>a.at (MT k hk x hx)
section
variable {np:Nat} {ws:List AF} {js:List AN} {pq:List AG} {bag kinds:Int} {fs:List Sl}
theorem XW(h:A3 fs=Hk np ws js pq bag kinds)(hn:js.length<=4):∀x ∈ fs,Sb js.length x.2:=λx hx=>by
 have:x.2 ∈ A3 fs:=List.mem_map_of_mem hx
 rw [h] at this;exact Jk (λy hy=>PB hy) (by rw [DT];exact hn) (List.mem_filter.1 this).1
theorem T6(h:A3 fs=Hk np ws js pq bag kinds)(hn:js.length<=4)(i:Nat):Sb js.length (fs.getD i Sl.z).2:=by
 by_cases hi:i<fs.length
 ·exact XW h hn _ (B7 hi)
 ·rw [CE aA];exact ⟨λk hk=>absurd hk (Nat.not_lt_zero _),Nat.zero_le _⟩
theorem safe_nil(hb:0<=bag):CG np ws js pq [] bag kinds=true:=by
 unfold CG;have e:(DA kinds js []).sum=0:=by
  show (List.replicate kinds.toNat (0:Int)).sum=0;generalize kinds.toNat=n
  induction n with
  | zero=>rfl
  | succ n ih=>rw [List.replicate_succ,List.sum_cons,ih];rfl
 rw [e,decide_eq_true hb];rfl
theorem Ve(hb:0<=bag):0<(Hk np ws js pq bag kinds).length:=by
 refine List.length_pos_of_mem (a:=[]) (List.mem_filter.2 ⟨?_,safe_nil hb⟩);unfold DI;rw [Gi];exact List.mem_cons_self
theorem PL(hn:js.length<=4):(Hk np ws js pq bag kinds).length<=625:=
 Nat.le_trans (List.length_filter_le _ _) (HK (by rw [DT];exact hn))
theorem RK{G:List Int->Int}:∀(l:List (List Int)),0<l.length->∀k,k<=l.length-1->(Dm G l k).1 ∈ l
 | l,h,0,_=>B7 h
 | l,h,k+1,hk=>by
  unfold Dm;split
  ·exact List.mem_of_mem_drop (B7 (by rw [List.length_drop];omega))
  ·exact RK l h k aA
theorem Lj{n:Nat}{G:List Int->Int}{l:List Sl}(h:∀x ∈ l,Sb n x.2)(hl:0<l.length):Sb n (DJ G (A3 l)):=by
 have:=RK (G:=G) (A3 l) (by rw [CA];exact hl) ((A3 l).length-1) (Nat.le_refl _)
 obtain ⟨x,hx,e⟩:=List.mem_map.1 this;unfold DJ;rw [<-e];exact h x hx
end
section
variable (bag kinds:Int) (ps:List ByteArray) (ws:List AF) (js:List AN) (ns:List AI)
def Vf:List Int:=DJ (λl=>CQ (λx=>A0 ps.length ws js x l) (AD ws js ns)) (Sf (Hk ps.length ws js (AD ws js ns) bag kinds) (Hk ps.length ws js (AD ws js ns) bag kinds).length)
def KW:List Int:=if¬Ae bag kinds ps ws js ns 0=0 then [] else Vf bag kinds ps ws js ns
end
section
variable {bag kinds:Int} {ps:List ByteArray} {ws:List AF} {js:List AN} {ns:List AI} {fs:List Sl} {k:Nat}
theorem best_end(h:A3 fs=Hk ps.length ws js (AD ws js ns) bag kinds)(h1:k<=fs.length)(h2:fs.length<=k):Vf bag kinds ps ws js ns=DJ (λl=>CQ (λx=>A0 ps.length ws js x l) (AD ws js ns)) (A3 (BD fs k)):=by
 unfold Vf;rw [NP k h1,h,<-h,CA,show fs.length=k by omega]
theorem T7(h0:¬¬Ae bag kinds ps ws js ns 0=0)(h:A3 fs=Hk ps.length ws js (AD ws js ns) bag kinds)(h1:k<=fs.length)(h2:fs.length<=k):KW bag kinds ps ws js ns=DJ (λl=>CQ (λx=>A0 ps.length ws js x l) (AD ws js ns)) (A3 (BD fs k)):=(if_neg h0).trans (best_end h h1 h2)
end
def Sg(c:Hh)(l:List Int):Nat->Hh
 | 0=>c
 | i+1=>(Sg c l i).set (l.getD i 0).toNat true
def GU(ls:List (List Int)):Nat->Hh
 | 0=>Hh.none
 | k+1=>Sg (GU ls k) (ls.getD k []) (ls.getD k []).length
def Eo(c:Hh):Nat->List Int
 | 0=>[]
 | q+1=>if c q=true then Eo c q else Eo c q++[(q:Int)]
theorem neverL_t{c:Hh}{q:Nat}(h:c q=true):Eo c (q+1)=Eo c q:=if_pos h
theorem neverL_f{c:Hh}{q:Nat}(h:c q=false):Eo c (q+1)=Eo c q++[(q:Int)]:=if_neg (by rw [h];simp)
theorem PM(c:Hh):∀q,(Eo c q).length<=q
 | 0=>Nat.le_refl _
 | q+1=>by
  have:=PM c q
  unfold Eo;split
  ·omega
  ·rw [List.length_append,List.length_singleton];omega
section
variable (bag kinds:Int) (ps:List ByteArray) (ws:List AF) (js:List AN) (ns:List AI)
def MU:List Int:=if¬Ae bag kinds ps ws js ns 0=0 then [] else Eo (GU (Hk ps.length ws js (AD ws js ns) bag kinds) (Hk ps.length ws js (AD ws js ns) bag kinds).length) js.length
end
section
variable {bag kinds:Int} {ps:List ByteArray} {ws:List AF} {js:List AN} {ns:List AI} {fs:List Sl} {k q:Nat}
theorem Yc{i:Nat}(hk:k<fs.length)(h1:i<=(fs.getD k Sl.z).2.length)(h2:(fs.getD k Sl.z).2.length<=i):GU (A3 fs) (k+1)=Sg (GU (A3 fs) k) (fs.getD k Sl.z).2 i:=by
 unfold GU;rw [FY hk,show (fs.getD k Sl.z).2.length=i by omega];cases k <;> rfl
theorem Ye(h0:¬¬Ae bag kinds ps ws js ns 0=0)(h:A3 fs=Hk ps.length ws js (AD ws js ns) bag kinds)(h1:k<=fs.length)(h2:fs.length<=k)(h3:q<=js.length)(h4:js.length<=q):MU bag kinds ps ws js ns=Eo (GU (A3 fs) k) q:=
 (if_neg h0).trans (by rw [<-h,CA,show fs.length=k by omega,show js.length=q by omega])
end
end Go.Ns
namespace Go.Ns
theorem T8{nj:Nat}{l:List Int}(h:Ai nj l=0):l.Nodup:=by
 rw [List.nodup_iff_pairwise_ne];rw [List.pairwise_iff_getElem];intro i j hi hj hij e;have h1:=DH h j (Nat.zero_le _) aA;unfold Hy at h1;split at h1
 ·rename_i a;exact a h1
 ·split at h1
  ·cases h1
  ·rename_i a
   refine a (List.any_eq_true.2 ⟨l[i],List.mem_take_iff_getElem.2 ⟨i,aA,rfl⟩,?_⟩);rw [List.getD_eq_getElem?_getD,List.getElem?_eq_getElem hj];exact decide_eq_true e.symm
theorem NQ{jobs:List Int}(nd:jobs.Nodup):∀(rest done:List Int),jobs=done++rest->jobs ∈ BT jobs rest.length done
 | [],done,e=>by rw [e,List.append_nil];exact List.mem_singleton.2 rfl
 | k ::rest,done,e=>by
  have ih:=NQ nd rest (done++[k]) (by rw [e];simp);show jobs ∈ done ::jobs.flatMap _;refine List.mem_cons_of_mem _ (List.mem_flatMap.2 ⟨k,by rw [e];simp,?_⟩);have hn:IN done k=false:=by
   cases hh:IN done k with
   | false=>rfl
   | true=>
    exfalso;obtain ⟨x,hx,hk⟩:=List.any_eq_true.1 hh;have hk':k=x:=of_decide_eq_true hk;rw [e,List.nodup_append] at nd;exact nd.2.2 x hx k List.mem_cons_self hk'.symm
  rw [if_neg (by rw [hn];simp)];exact ih
def XX(jobs:List Int)(n:Nat):List (List Int):=(DI jobs).filter λq=>decide (q.length=n)
theorem Yf{l:List Int}(nd:l.Nodup):0<(XX (EY l) l.length).length:=by
 have hs:(EY l).Nodup:=by rw [LQ];exact (List.mergeSort_perm l _).nodup_iff.2 nd
 have:=NQ hs (EY l) [] rfl
 exact List.length_pos_of_mem (List.mem_filter.2 ⟨this,decide_eq_true (Dl l)⟩)
section
variable (bag kinds:Int) (ps:List ByteArray) (ws:List AF) (js:List AN) (ns:List AI) (l:List Int)
def swiftL:List Int:=DJ (λl=>CQ (λx=>A0 ps.length ws js x l) (AD ws js ns)) (XX (EY l) l.length)
def IO:List Int:=if¬Ae bag kinds ps ws js ns (Ai js.length l)=0 then [] else swiftL ps ws js ns l
end
section
variable {bag kinds:Int} {ps:List ByteArray} {ws:List AF} {js:List AN} {ns:List AI} {l:List Int} {fl:List Sl} {nj:Nat}
theorem RL(h0:¬¬Ae bag kinds ps ws js ns (Ai js.length l)=0)(h:A3 fl=XX (EY l) l.length):IO bag kinds ps ws js ns l=DJ (λl=>CQ (λx=>A0 ps.length ws js x l) (AD ws js ns)) (A3 fl):=(if_neg h0).trans (by unfold swiftL;rw [h])
theorem full_ok(h:A3 fl=XX (EY l) l.length)(hr:∀k,k<l.length->0<=l.getD k 0/\l.getD k 0<nj)(h4:l.length<=4):∀x ∈ fl,Sb nj x.2:=λx hx=>by
 have:x.2 ∈ A3 fl:=List.mem_map_of_mem hx
 rw [h] at this;refine Jk (λy hy=>?_) (by rw [Dl];exact h4) (List.mem_filter.1 this).1;rw [LQ,List.mem_mergeSort] at hy;obtain ⟨i,hi,e⟩:=List.mem_iff_getElem.1 hy
 have:=hr i hi
 rw [List.getD_eq_getElem?_getD,List.getElem?_eq_getElem hi,Option.getD_some,e] at this;exact this
end
end Go.Ns
namespace Go.Ns
def PV(h:GH)(t:TypeId)(f:Nat->Value)(L:Nat->List Int)(k:Nat):Prop:=∀i,i<k->D0 h t (f i) (L i)
section
variable {h h' h0:GH} {t t':TypeId} {f:Nat->Value} {L:Nat->List Int} {k r:Nat} {w v v':Value} {p:Bool} {c:Array Value} {g:Nat×Nat}
theorem PV.zero:PV h t f L 0:=λ_ hi=>absurd hi (Nat.not_lt_zero _)
theorem PV.le(x:PV h t f L k)(l:h.Le h'):PV h' t f L k:=λi hi=>(x i hi).le l
theorem PV.store(x:PV h t f L k)(hr:h r=some (p,.cells c t' g))(ne:t'≠t)(ho:∀b,b≠r->h' b=h b):PV h' t f L k:=λi hi=>(x i hi).store hr ne ho
theorem PV.next(x:PV h t f L k)(y:D0 h t w (L k)):PV h t (λi=>if i=k then w else f i) L (k+1):=λi hi=>by
 show D0 h t (if i=k then w else f i) (L i);by_cases e:i=k
 ·rw [if_pos e,e];exact y
 ·rw [if_neg e];exact x i aA
end
def AN.re(j:AN)(v:Value):AN:={ j with pv:=v }
def AI.re(j:AI)(v:Value):AI:={ j with wv:=v }
def HT(js:List AN)(f:Nat->Value)(k:Nat):List AN:=(List.range js.length).map λi=>if i<k then (js.getD i AN.z).re (f i) else js.getD i AN.z
def IP(ns:List AI)(f:Nat->Value)(k:Nat):List AI:=(List.range ns.length).map λi=>if i<k then (ns.getD i AI.z).re (f i) else ns.getD i AI.z
section
variable {V:Type} {z:V} {l:List V} {F:Nat->V->V} {k:Nat}
def reL(z:V)(l:List V)(F:Nat->V->V)(k:Nat):List V:=(List.range l.length).map λi=>if i<k then F i (l.getD i z) else l.getD i z
theorem J9:(reL z l F k).length=l.length:=by unfold reL;rw [List.length_map,List.length_range]
theorem H1{i:Nat}(hi:i<l.length):(reL z l F k).getD i z=if i<k then F i (l.getD i z) else l.getD i z:=by
 unfold reL;rw [List.getD_eq_getElem?_getD,List.getElem?_map,List.getElem?_range hi];rfl
theorem Sh{i:Nat}(hi:i<(reL z l F k).length):(reL z l F k)[i]=if i<k then F i (l.getD i z) else l.getD i z:=by
 have e:=H1 (z:=z) (F:=F) (k:=k) (show i<l.length by rw [<-J9 (z:=z) (F:=F) (k:=k)];exact hi);rw [List.getD_eq_getElem?_getD,List.getElem?_eq_getElem hi] at e;exact e
theorem reL_0:reL z l F 0=l:=by
 refine List.ext_getElem J9 λi h1 h2=>?_;rw [Sh,if_neg (Nat.not_lt_zero _),List.getD_eq_getElem?_getD,List.getElem?_eq_getElem h2];rfl
theorem XY{G:Nat->V->V}(hk:k<l.length)(hG:∀i,i<k->∀x,G i x=F i x):(reL z l F k).set k (G k ((reL z l F k).getD k z))=reL z l G (k+1):=by
 rw [H1 hk,if_neg (Nat.lt_irrefl _)];refine List.ext_getElem (by rw [List.length_set,J9,J9]) λi h1 h2=>?_;rw [List.getElem_set,Sh];by_cases e:k=i
 ·subst e;rw [if_pos rfl,Sh,if_pos aA]
 ·rw [if_neg e,Sh];by_cases e2:i<k
  ·rw [if_pos e2,if_pos aA,hG i e2]
  ·rw [if_neg e2,if_neg aA]
end
section
variable {h:GH} {t:TypeId} {f:Nat->Value} {js:List AN} {ns:List AI} {k:Nat} {w:Value}
theorem PN:HT js f k=reL AN.z js (λi j=>j.re (f i)) k:=rfl
theorem PO:IP ns f k=reL AI.z ns (λi j=>j.re (f i)) k:=rfl
theorem N2(js:List AN)(f:Nat->Value)(k:Nat):(HT js f k).length=js.length:=by rw [PN];exact J9
theorem N3(ns:List AI)(f:Nat->Value)(k:Nat):(IP ns f k).length=ns.length:=by rw [PO];exact J9
theorem reJ_0:HT js f 0=js:=by rw [PN];exact reL_0
theorem reN_0:IP ns f 0=ns:=by rw [PO];exact reL_0
theorem reJ_put(hk:k<js.length):(HT js f k).set k (((HT js f k).getD k AN.z).re w)=HT js (λi=>if i=k then w else f i) (k+1):=by
 have:=XY (z:=AN.z) (l:=js) (F:=λi j=>j.re (f i)) (G:=λi j=>j.re (if i=k then w else f i)) hk (λi hi x=>by rw [if_neg aA])
 rw [if_pos rfl] at this;exact this
theorem reN_put(hk:k<ns.length):(IP ns f k).set k (((IP ns f k).getD k AI.z).re w)=IP ns (λi=>if i=k then w else f i) (k+1):=by
 have:=XY (z:=AI.z) (l:=ns) (F:=λi j=>j.re (f i)) (G:=λi j=>j.re (if i=k then w else f i)) hk (λi hi x=>by rw [if_neg aA])
 rw [if_pos rfl] at this;exact this
theorem RM(js:List AN)(f:Nat->Value)(k i:Nat):((HT js f k).getD i AN.z).parts=(js.getD i AN.z).parts:=by
 by_cases hi:i<js.length
 ·rw [PN,H1 hi];split <;> rfl
 ·rw [CE (by rw [N2];omega),CE aA]
theorem T9(ns:List AI)(f:Nat->Value)(k i:Nat):((IP ns f k).getD i AI.z).ways=(ns.getD i AI.z).ways:=by
 by_cases hi:i<ns.length
 ·rw [PO,H1 hi];split <;> rfl
 ·rw [CE (by rw [N3];omega),CE aA]
theorem Ar.re(x:Ar h js)(y:PV h t f (λi=>(js.getD i AN.z).parts) k):Ar h (HT js f k):=λi=>by
 by_cases hi:i<js.length
 ·rw [PN,H1 hi];by_cases e:i<k
  ·rw [if_pos e];exact (y i e).1
  ·rw [if_neg e];exact x i
 ·rw [CE (by rw [N2];omega)];exact AC.nil _ _ _
theorem AU.re(x:AU h ns)(y:PV h t f (λi=>(ns.getD i AI.z).ways) k):AU h (IP ns f k):=λi=>by
 by_cases hi:i<ns.length
 ·rw [PO,H1 hi];by_cases e:i<k
  ·rw [if_pos e];exact (y i e).1
  ·rw [if_neg e];exact x i
 ·rw [CE (by rw [N3];omega)];exact AC.nil _ _ _
def C1(h:GH)(t:TypeId)(js:List AN):Prop:=∀k,D0 h t (js.getD k AN.z).pv (js.getD k AN.z).parts
def D7(h:GH)(t:TypeId)(ns:List AI):Prop:=∀k,D0 h t (ns.getD k AI.z).wv (ns.getD k AI.z).ways
theorem C1.jobs(x:C1 h t js):Ar h js:=λk=>(x k).1
theorem D7.notes(x:D7 h t ns):AU h ns:=λk=>(x k).1
theorem C1.le{h':GH}(x:C1 h t js)(l:h.Le h'):C1 h' t js:=λk=>(x k).le l
theorem D7.le{h':GH}(x:D7 h t ns)(l:h.Le h'):D7 h' t ns:=λk=>(x k).le l
theorem C1.store{h':GH}{t':TypeId}{r:Nat}{p:Bool}{c:Array Value}{g:Nat×Nat}(x:C1 h t js)(hr:h r=some (p,.cells c t' g))(ne:t'≠t)(ho:∀b,b≠r->h' b=h b):C1 h' t js:=λk=>(x k).store hr ne ho
theorem D7.store{h':GH}{t':TypeId}{r:Nat}{p:Bool}{c:Array Value}{g:Nat×Nat}(x:D7 h t ns)(hr:h r=some (p,.cells c t' g))(ne:t'≠t)(ho:∀b,b≠r->h' b=h b):D7 h' t ns:=λk=>(x k).store hr ne ho
theorem C1.of(y:PV h t f (λi=>(js.getD i AN.z).parts) k)(hk:js.length<=k):C1 h t (HT js f k):=λi=>by
 by_cases hi:i<js.length
 ·rw [PN,H1 hi,if_pos aA];exact y i aA
 ·rw [CE (by rw [N2];omega)];exact D0.nil _ _
theorem D7.of(y:PV h t f (λi=>(ns.getD i AI.z).ways) k)(hk:ns.length<=k):D7 h t (IP ns f k):=λi=>by
 by_cases hi:i<ns.length
 ·rw [PO,H1 hi,if_pos aA];exact y i aA
 ·rw [CE (by rw [N3];omega)];exact D0.nil _ _
theorem Ar.fine1(x:Ar h js)(k:Nat):(BA (js.getD k AN.z)).toList.all (·.oneCell')=true:=by
 show (true && (true && (true && (true && (((js.getD k AN.z).pv.oneCell') && true)))))=true;rw [(AC.one (x k)).2];rfl
theorem Ar.fine(x:Ar h js):∀y ∈ js,(BA y).toList.all (·.oneCell')=true:=λy hy=>by
 obtain ⟨i,hi,e⟩:=List.mem_iff_getElem.1 hy
 have:=x.fine1 i
 rw [List.getD_eq_getElem?_getD,List.getElem?_eq_getElem hi] at this;rw [<-e];exact this
theorem AU.snoc{x:AI}(a:AU h ns)(b:AC h x.wv 1 eI x.ways):AU h (ns++[x]):=λk=>by
 rw [O9];split
 ·exact a k
 ·cases hk:k-ns.length with
  | zero=>exact b
  | succ n=>rw [CE aD];exact AC.nil _ _ _
end
theorem BV.copy{bag kinds:Int}{ps:List ByteArray}{ws:List AF}{js:List AN}{ns:List AI}(b:BV bag kinds ps ws js ns):(∀i,(js.getD i AN.z).parts.length<=1000)/\∀i,(ns.getD i AI.z).ways.length<=1000:=by
 refine ⟨λi=>?_,λi=>Nat.le_trans (Ox b.note i).1 aC⟩;by_cases hi:i<js.length
 ·have:=(LW (b.job i hi)).len
  have:=b.hkin
  omega
 ·rw [CE aA];exact Nat.zero_le _
end Go.Ns
namespace Go.Ns
section
variable {P:Program} {E:GF P} {O:Nat->Value} {ds:List Deferred} {h:GH} {T:(Nat->Value)->List Deferred->GH->Prop} {dst:Option Nat} {ty:TypeId} {pos:String} {af:Array Edge} {gd:Option (Nat×Bool)}
theorem Vg{s:ByteArray}{i:Nat}(h:i<s.size):((s[i]'h).toNat:Int)=(bytesOf s).getD i 0:=by
 have h2:i<(bytesOf s).length:=by rw [C0];exact h
 rw [Dz 0 h2];exact (List.getElem_map (l:=s.data.toList) (f:=λb=>(b.toNat:Int)) (h:=h2)).symm
theorem PP{t:TypeId}{x ix:Operand}{s:ByteArray}{kd:IntKind}{i:Int}(ht:OE P t=true)(hx:AO O x=.string s)(hi:AO O ix=.int kd i)(h0:0<=i)(h1:i<s.size)(k:T (putS O dst (.int .u8 ((bytesOf s).getD i.toNat 0))) ds h) :
  BS E ⟨dst,.index t x ix,ty,pos,af,gd⟩ O ds h T:=QP ht hx hi h0 h1 (by rw [Vg];exact k)
end
theorem UA{s:ByteArray}(h:¬(1<=(s.size:Int)/\(s.size:Int)<=10)):Eh s=false:=by unfold Eh;rw [decide_eq_false h,Bool.and_false]
theorem UB{a b:List UInt8}{v:Bool}(h:(a==b)=v):(b==a)=v:=by rw [<-h];exact BEq.comm
def IQ(l:List Int)(k:Nat)(p q:Int):List Int:=if p=l.getD k 0/\¬q ∈ l then l++[q] else l
def C5(l:List Int)(k:Nat)(x:AF):List Int:=IQ (IQ l k x.a x.b) k x.b x.a
def Ag(ws:List AF)(l:List Int)(k:Nat):Nat->List Int
 | 0=>l
 | j+1=>C5 (Ag ws l k j) k (ws.getD j AF.z)
def Aw(ws:List AF):Nat->List Int
 | 0=>[0]
 | k+1=>if k<(Aw ws k).length then Ag ws (Aw ws k) k ws.length else Aw ws k
def G5(ws:List AF):List Int:=Aw ws 4
def Hn(np:Nat)(l:List Int):Prop:=l.Nodup/\(∀x ∈ l,0<=x/\x<np)/\0<l.length
def PQ(np:Nat)(ws:List AF):Prop:=∀k,k<ws.length->(0<=(ws.getD k AF.z).a/\(ws.getD k AF.z).a<np)/\0<=(ws.getD k AF.z).b/\(ws.getD k AF.z).b<np
section
variable {np:Nat} {l:List Int} {ws:List AF} {k j:Nat} {x:Int} {w:AF}
theorem Hn.len(h:Hn np l):l.length<=np:=by
 refine VT np l.length (λk=>(l.getD k 0).toNat) (λi hi=>?_) λi j hij hj=>?_
 ·have:=h.2.1 _ (B7 (d:=(0:Int)) hi)
  show (l.getD i 0).toNat<np;omega
 ·have h1:=h.2.1 _ (B7 (d:=(0:Int)) hj);have h2:=h.2.1 _ (B7 (d:=(0:Int)) (show i<l.length by omega));show (l.getD i 0).toNat≠(l.getD j 0).toNat;intro e;have e2:l.getD i 0=l.getD j 0:=aA
  rw [List.getD_eq_getElem?_getD,List.getD_eq_getElem?_getD,List.getElem?_eq_getElem aA,List.getElem?_eq_getElem hj,Option.getD_some,Option.getD_some] at e2
  have:=(List.pairwise_iff_getElem.1 (List.nodup_iff_pairwise_ne.1 h.1)) i j aA hj hij
  exact this e2
theorem Hn.snoc(h:Hn np l)(hx:0<=x/\x<np)(n:¬x ∈ l):Hn np (l++[x]):=
 ⟨List.nodup_append.2 ⟨h.1,aD,λa ha b hb e=>by rw [List.mem_singleton.1 hb] at e;exact n (e▸ha)⟩,λy hy=>by
  rcases List.mem_append.1 hy with hy | hy
  ·exact h.2.1 y hy
  ·rw [List.mem_singleton.1 hy];exact hx,aD⟩
theorem Lk{p q:Int}(h1:p=l.getD k 0)(h2:¬q ∈ l):IQ l k p q=l++[q]:=if_pos ⟨h1,h2⟩
theorem Ll{p q:Int}(h:¬(p=l.getD k 0/\¬q ∈ l)):IQ l k p q=l:=if_neg h
theorem rs_tt(h1:w.a=l.getD k 0/\¬w.b ∈ l)(h2:w.b=(l++[w.b]).getD k 0/\¬w.a ∈ l++[w.b]):C5 l k w=l++[w.b]++[w.a]:=by unfold C5;rw [Lk h1.1 h1.2,Lk h2.1 h2.2]
theorem rs_tf(h1:w.a=l.getD k 0/\¬w.b ∈ l)(h2:¬(w.b=(l++[w.b]).getD k 0/\¬w.a ∈ l++[w.b])):C5 l k w=l++[w.b]:=by unfold C5;rw [Lk h1.1 h1.2,Ll h2]
theorem rs_ft(h1:¬(w.a=l.getD k 0/\¬w.b ∈ l))(h2:w.b=l.getD k 0/\¬w.a ∈ l):C5 l k w=l++[w.a]:=by unfold C5;rw [Ll h1,Lk h2.1 h2.2]
theorem rs_ff(h1:¬(w.a=l.getD k 0/\¬w.b ∈ l))(h2:¬(w.b=l.getD k 0/\¬w.a ∈ l)):C5 l k w=l:=by unfold C5;rw [Ll h1,Ll h2]
theorem RN{p q:Int}(h:Hn np l)(hq:0<=q/\q<np):Hn np (IQ l k p q):=by
 unfold IQ;split
 ·rename_i c;exact h.snoc hq c.2
 ·exact h
theorem Kq(l:List Int)(k:Nat)(p q:Int):l<+:IQ l k p q:=by
 unfold IQ;split
 ·exact List.prefix_append _ _
 ·exact List.prefix_refl _
theorem Si(h:Hn np l)(ha:0<=w.a/\w.a<np)(hb:0<=w.b/\w.b<np):Hn np (C5 l k w):=RN (RN h hb) ha
theorem P9(l:List Int)(k:Nat)(w:AF):l<+:C5 l k w:=(Kq _ _ _ _).trans (Kq _ _ _ _)
theorem I8(h:Hn np l)(hw:PQ np ws):∀j,j<=ws.length->Hn np (Ag ws l k j)
 | 0,_=>h
 | j+1,hj=>Si (I8 h hw j aA) (hw j aA).1 (hw j aA).2
theorem IR:∀j,l<+:Ag ws l k j
 | 0=>List.prefix_refl _
 | j+1=>(IR j).trans (P9 _ _ _)
theorem KA(hn:0<np)(hw:PQ np ws):∀k,Hn np (Aw ws k)
 | 0=>⟨by simp [Aw],λx hx=>by rw [List.mem_singleton.1 hx];omega,Nat.zero_lt_one⟩
 | k+1=>by
  unfold Aw;split
  ·exact I8 (KA hn hw k) hw _ (Nat.le_refl _)
  ·exact KA hn hw k
theorem NR(hk:k<(Aw ws k).length):Aw ws (k+1)=Ag ws (Aw ws k) k ws.length:=if_pos hk
theorem NS(hk:(Aw ws k).length<=k):∀m,k<=m->Aw ws m=Aw ws k
 | 0,h=>by rw [show k=0 by omega]
 | m+1,h=>by
  by_cases e:m+1=k
  ·rw [e]
  ·have ih:=NS hk m aA
   have:Aw ws (m+1)=Aw ws m:=by
    conv=>lhs;unfold Aw
    rw [if_neg (by rw [ih];omega)]
   rw [this,ih]
theorem Yg(hk:(Aw ws k).length<=k)(hk4:k<=4):G5 ws=Aw ws k:=NS hk 4 hk4
end
def FM(np:Nat)(ws:List AF):Int:=if (5:Int)<ws.length then 2 else if¬Cv (DC np ws) 0 ws.length=0 then Cv (DC np ws) 0 ws.length else if (G5 ws).length<np then 8 else 0
def Dg(bag kinds:Int)(ps:List ByteArray)(ws:List AF)(js:List AN)(ns:List AI):Int:=
 if¬Gc bag kinds=0 then Gc bag kinds else if¬BO ps=0 then BO ps else if¬FM ps.length ws=0 then FM ps.length ws else if¬B8 ps.length kinds js=0 then B8 ps.length kinds js else Cd ws.length ns
section
variable {V:Type} {p:V->Bool} {l:List V} {d:V} {k j:Nat}
theorem MV(hk:k<l.length)(e:p (l.getD k d)=true):l.any p=true:=List.any_eq_true.2 ⟨_,B7 hk,e⟩
theorem KB(h:(l.take k).any p=false)(hk:l.length<=k):l.any p=false:=by rwa [List.take_of_length_le hk] at h
theorem any_take(hj:j<k)(hk:k<=l.length)(e:p (l.getD j d)=true):(l.take k).any p=true:=by
 refine MV (k:=j) (d:=d) (by rw [List.length_take];omega) ?_;rw [List.getD_eq_getElem?_getD,List.getElem?_take,if_pos hj,<-List.getD_eq_getElem?_getD];exact e
end
section
variable {np nw:Nat} {ws:List AF} {js:List AN} {ns:List AI} {k:Nat} {kinds:Int}
theorem Lm{a b:Int}(ha:0<=a/\a<=(np:Int)-1)(hb:0<=b/\b<=(np:Int)-1):B1 np [a,b]=0:=by
 have h0:EX np [a,b] 0=0:=if_neg (λe=>e ha);have h1:EX np [a,b] 1=0:=if_neg (λe=>e hb);show Cv (EX np [a,b]) 0 2=0;simp [Cv,h0,h1]
theorem miss_no{a b:Int}(h:¬(0<=a/\a<=(np:Int)-1)\/¬(0<=b/\b<=(np:Int)-1)):B1 np [a,b]=6:=by
 show Cv (EX np [a,b]) 0 2=6;by_cases ha:0<=a/\a<=(np:Int)-1
 ·have h0:EX np [a,b] 0=0:=if_neg (λe=>e ha);have h1:EX np [a,b] 1=6:=if_pos (h.resolve_left λe=>e ha);simp [Cv,h0,h1]
 ·have h0:EX np [a,b] 0=6:=if_pos ha;simp [Cv,h0]
theorem PR{a:Int}(ha:0<=a/\a<=(np:Int)-1):B1 np [a]=0:=by
 have h0:EX np [a] 0=0:=if_neg (λe=>e ha);show Cv (EX np [a]) 0 1=0;simp [Cv,h0]
theorem miss_no1{a:Int}(ha:¬(0<=a/\a<=(np:Int)-1)):B1 np [a]=6:=by
 have h0:EX np [a] 0=6:=if_pos ha;show Cv (EX np [a]) 0 1=6;simp [Cv,h0]
variable (ws k) in
def waP(np:Nat):Prop:=(0<=(ws.getD k AF.z).a/\(ws.getD k AF.z).a<=(np:Int)-1)/\(0<=(ws.getD k AF.z).b/\(ws.getD k AF.z).b<=(np:Int)-1)
theorem wy6(h:¬(0<=(ws.getD k AF.z).a/\(ws.getD k AF.z).a<=(np:Int)-1)\/¬(0<=(ws.getD k AF.z).b/\(ws.getD k AF.z).b<=(np:Int)-1)):DC np ws k=6:=by
 unfold DC;rw [miss_no h,if_pos aC]
theorem wyP(h:¬(¬(0<=(ws.getD k AF.z).a/\(ws.getD k AF.z).a<=(np:Int)-1)\/¬(0<=(ws.getD k AF.z).b/\(ws.getD k AF.z).b<=(np:Int)-1))):waP ws k np:=⟨Decidable.byContradiction λe=>h (.inl e),Decidable.byContradiction λe=>h (.inr e)⟩
theorem wy7(h:waP ws k np)(h2:(ws.getD k AF.z).b<=(ws.getD k AF.z).a):DC np ws k=7:=by
 unfold DC;rw [Lm h.1 h.2,if_neg aD,if_pos h2]
theorem wy5(h:waP ws k np)(h2:¬(ws.getD k AF.z).b<=(ws.getD k AF.z).a)(h3:(ws.take k).any (λy=>decide (y.a=(ws.getD k AF.z).a/\y.b=(ws.getD k AF.z).b))=true):DC np ws k=5:=by
 unfold DC;rw [Lm h.1 h.2,if_neg aD,if_neg h2,if_pos h3]
theorem wy1(h:waP ws k np)(h2:¬(ws.getD k AF.z).b<=(ws.getD k AF.z).a)(h3:(ws.take k).any (λy=>decide (y.a=(ws.getD k AF.z).a/\y.b=(ws.getD k AF.z).b))=false)(h4:¬(((0<=(ws.getD k AF.z).low/\(ws.getD k AF.z).low<=(ws.getD k AF.z).high)/\(ws.getD k AF.z).high<=30)/\(ws.getD k AF.z).high-(ws.getD k AF.z).low<2)):DC np ws k=1:=by
 unfold DC;rw [Lm h.1 h.2,if_neg aD,if_neg h2,if_neg (by rw [h3];simp)];exact if_pos h4
theorem wy0(h:waP ws k np)(h2:¬(ws.getD k AF.z).b<=(ws.getD k AF.z).a)(h3:(ws.take k).any (λy=>decide (y.a=(ws.getD k AF.z).a/\y.b=(ws.getD k AF.z).b))=false)(h4:(((0<=(ws.getD k AF.z).low/\(ws.getD k AF.z).low<=(ws.getD k AF.z).high)/\(ws.getD k AF.z).high<=30)/\(ws.getD k AF.z).high-(ws.getD k AF.z).low<2)):DC np ws k=0:=by
 unfold DC;rw [Lm h.1 h.2,if_neg aD,if_neg h2,if_neg (by rw [h3];simp)];exact if_neg (λe=>e h4)
theorem waysOK(h:∀k,k<ws.length->DC np ws k=0):PQ np ws:=λk hk=>by
 have:=h k hk
 unfold DC at this;split at this
 ·rename_i a;exact absurd this a
 ·rename_i a
  have q:=FK (Decidable.not_not.1 a);have q1:=q _ List.mem_cons_self;have q2:=q _ (List.mem_cons_of_mem _ List.mem_cons_self);omega
theorem rw2(h:(5:Int)<ws.length):FM np ws=2:=if_pos h
theorem Sj{c:Int}(h5:¬(5:Int)<ws.length)(hs:∀j,j<k->DC np ws j=0)(hk:k<ws.length)(e:DC np ws k=c)(hc:c≠0):FM np ws=c:=by
 have h1:=BN hs hk e hc;rw [FM,if_neg h5,h1,if_pos hc]
theorem rw8(h5:¬(5:Int)<ws.length)(hs:∀j,j<k->DC np ws j=0)(hk:ws.length<=k)(h:((G5 ws).length:Int)<np):FM np ws=8:=by
 rw [FM,if_neg h5,Bu hs hk,if_neg aD,if_pos aA]
theorem rw0(h5:¬(5:Int)<ws.length)(hs:∀j,j<k->DC np ws j=0)(hk:ws.length<=k)(h:¬((G5 ws).length:Int)<np):FM np ws=0:=by
 rw [FM,if_neg h5,Bu hs hk,if_neg aD,if_neg aA]
theorem jb6(h:¬(0<=(js.getD k AN.z).place/\(js.getD k AN.z).place<=(np:Int)-1)):Fe np kinds js k=6:=by
 unfold Fe;rw [miss_no1 h,if_pos aC]
theorem jb1(h:0<=(js.getD k AN.z).place/\(js.getD k AN.z).place<=(np:Int)-1)(h2:¬(((0<=(js.getD k AN.z).low/\(js.getD k AN.z).low<=(js.getD k AN.z).high)/\(js.getD k AN.z).high<=30)/\(js.getD k AN.z).high-(js.getD k AN.z).low<2)\/¬(0<=(js.getD k AN.z).due/\(js.getD k AN.z).due<=200)):Fe np kinds js k=1:=by
 unfold Fe;rw [PR h,if_neg aD];exact if_pos h2
theorem jb2(h:0<=(js.getD k AN.z).place/\(js.getD k AN.z).place<=(np:Int)-1)(h2:¬(¬(((0<=(js.getD k AN.z).low/\(js.getD k AN.z).low<=(js.getD k AN.z).high)/\(js.getD k AN.z).high<=30)/\(js.getD k AN.z).high-(js.getD k AN.z).low<2)\/¬(0<=(js.getD k AN.z).due/\(js.getD k AN.z).due<=200)))(h3:¬((js.getD k AN.z).parts.length:Int)=kinds):Fe np kinds js k=2:=by
 unfold Fe;rw [PR h,if_neg aD];exact (if_neg h2).trans (if_pos h3)
theorem jb3(h:0<=(js.getD k AN.z).place/\(js.getD k AN.z).place<=(np:Int)-1)(h2:¬(¬(((0<=(js.getD k AN.z).low/\(js.getD k AN.z).low<=(js.getD k AN.z).high)/\(js.getD k AN.z).high<=30)/\(js.getD k AN.z).high-(js.getD k AN.z).low<2)\/¬(0<=(js.getD k AN.z).due/\(js.getD k AN.z).due<=200)))(h3:((js.getD k AN.z).parts.length:Int)=kinds):Fe np kinds js k=if (js.getD k AN.z).parts.any (λn=>decide (¬(0<=n/\n<=5))) then 1 else 0:=by
 unfold Fe;rw [PR h,if_neg aD];exact (if_neg h2).trans (if_neg (λe=>e h3))
theorem nt2(h:(5:Int)<(ns.getD k AI.z).ways.length):Ds nw ns k=2:=if_pos h
theorem nt6(h:¬(5:Int)<(ns.getD k AI.z).ways.length)(h2:(ns.getD k AI.z).ways.any (λn=>decide (¬(0<=n/\n<=(nw:Int)-1)))=true):Ds nw ns k=6:=by
 unfold Ds;rw [if_neg h,if_pos h2]
theorem nt1(h:¬(5:Int)<(ns.getD k AI.z).ways.length)(h2:(ns.getD k AI.z).ways.any (λn=>decide (¬(0<=n/\n<=(nw:Int)-1)))=false)(h3:¬((0<=(ns.getD k AI.z).low/\(ns.getD k AI.z).low<=(ns.getD k AI.z).high)/\(ns.getD k AI.z).high<=200)):Ds nw ns k=1:=by
 unfold Ds;rw [if_neg h,if_neg (by rw [h2];simp),if_pos (λe=>h3 e.1)]
theorem nt0(h:¬(5:Int)<(ns.getD k AI.z).ways.length)(h2:(ns.getD k AI.z).ways.any (λn=>decide (¬(0<=n/\n<=(nw:Int)-1)))=false)(h3:(0<=(ns.getD k AI.z).low/\(ns.getD k AI.z).low<=(ns.getD k AI.z).high)/\(ns.getD k AI.z).high<=200):Ds nw ns k=0:=by
 unfold Ds;rw [if_neg h,if_neg (by rw [h2];simp),if_neg (λe=>e ⟨h3,aA⟩)]
end
section
variable {ps:List ByteArray} {k:Nat} {a b:List (Int×Int)}
theorem pa4(h:Eh (ps.getD k (⟨#[]⟩:ByteArray))=false):E2 ps k=4:=by unfold E2;rw [if_pos h]
theorem pa5(h:Eh (ps.getD k (⟨#[]⟩:ByteArray))=true)(h2:0<=idxOf (λx=>(ps.getD k (⟨#[]⟩:ByteArray)).toList==x.toList) (ps.take k)):E2 ps k=5:=by
 unfold E2;rw [if_neg (by rw [h];simp),if_pos ((E0 _ _).1 h2)]
theorem pa0(h:Eh (ps.getD k (⟨#[]⟩:ByteArray))=true)(h2:¬0<=idxOf (λx=>(ps.getD k (⟨#[]⟩:ByteArray)).toList==x.toList) (ps.take k)):E2 ps k=0:=by
 unfold E2;rw [if_neg (by rw [h];simp),if_neg λe=>h2 ((E0 _ _).2 e)]
theorem QA(hs:a.take k=b.take k)(hk:k<=a.length)(h:¬(k:Int)<a.length)(hl:(a.length:Int)=b.length):a=b:=by
 rw [List.take_of_length_le aA,List.take_of_length_le aA] at hs;exact hs
theorem eq_getDP{k:Nat}(h:((a.getD k (0,0)).1==(b.getD k (0,0)).1 && ((a.getD k (0,0)).2==(b.getD k (0,0)).2 && true))=true):a.getD k (0,0)=b.getD k (0,0):=by
 simp only [Bool.and_true,Bool.and_eq_true,beq_iff_eq] at h;exact Prod.ext h.1 h.2
theorem ne_getDP{k:Nat}(h:(!((a.getD k (0,0)).1==(b.getD k (0,0)).1 && ((a.getD k (0,0)).2==(b.getD k (0,0)).2 && true)))=true):¬a=b:=λe=>by rw [e] at h;simp at h
end
section
variable (bag kinds:Int) (ps:List ByteArray) (ws:List AF) (js:List AN) (ns:List AI)
def D9:Bool:=decide ((((20:Int)<ps.length\/(20:Int)<ws.length)\/(20:Int)<js.length)\/(20:Int)<ns.length) || ps.any (λs=>decide ((100:Int)<s.size)) || js.any (λj=>decide ((20:Int)<j.parts.length)) || ns.any λn=>decide ((20:Int)<n.ways.length)
def fit9:Bool:= !D9 ps ws js ns && decide (Dg bag kinds ps ws js ns=0)
end
section
variable {ps:List ByteArray} {ws:List AF} {js:List AN} {ns:List AI} {k:Nat}
theorem Lp(h:D9 ps ws js ns=false)(k:Nat):(ps.getD k (⟨#[]⟩:ByteArray)).size<=1000:=by
 unfold D9 at h;simp only [Bool.or_eq_false_iff] at h;by_cases hk:k<ps.length
 ·have:=List.any_eq_false.1 h.1.1.2 _ (B7 (d:=(⟨#[]⟩:ByteArray)) hk)
  have:=of_decide_eq_false (Bool.eq_false_iff.2 this)
  omega
 ·rw [CE aA];decide
end
section
variable {bag kinds:Int} {ps:List ByteArray} {ws:List AF} {js:List AN} {ns:List AI}
theorem Jn(h:BO ps=0):0<ps.length/\ps.length<=4:=by
 unfold BO at h;split at h
 ·cases h
 ·omega
theorem rc1(h:¬(0<=bag/\bag<=9)\/¬(0<=kinds/\kinds<=3)):Dg bag kinds ps ws js ns=1:=by
 have e:Gc bag kinds=1:=if_pos h;unfold Dg;rw [e,if_pos aC]
theorem tb0(h:¬(¬(0<=bag/\bag<=9)\/¬(0<=kinds/\kinds<=3))):Gc bag kinds=0:=if_neg h
theorem rc2(h0:¬(¬(0<=bag/\bag<=9)\/¬(0<=kinds/\kinds<=3)))(h:¬BO ps=0):Dg bag kinds ps ws js ns=BO ps:=by unfold Dg;rw [tb0 h0,if_neg aD,if_pos h]
theorem rc3(h0:¬(¬(0<=bag/\bag<=9)\/¬(0<=kinds/\kinds<=3)))(h1:¬¬BO ps=0)(h:¬FM ps.length ws=0):Dg bag kinds ps ws js ns=FM ps.length ws:=by unfold Dg;rw [tb0 h0,if_neg aD,if_neg h1,if_pos h]
theorem rc4(h0:¬(¬(0<=bag/\bag<=9)\/¬(0<=kinds/\kinds<=3)))(h1:¬¬BO ps=0)(h2:¬¬FM ps.length ws=0)(h:¬B8 ps.length kinds js=0):Dg bag kinds ps ws js ns=B8 ps.length kinds js:=by unfold Dg;rw [tb0 h0,if_neg aD,if_neg h1,if_neg h2,if_pos h]
theorem rc5(h0:¬(¬(0<=bag/\bag<=9)\/¬(0<=kinds/\kinds<=3)))(h1:¬¬BO ps=0)(h2:¬¬FM ps.length ws=0)(h:¬¬B8 ps.length kinds js=0):Dg bag kinds ps ws js ns=Cd ws.length ns:=by unfold Dg;rw [tb0 h0,if_neg aD,if_neg h1,if_neg h2,if_neg h]
theorem gr_len(h:(((20:Int)<ps.length\/(20:Int)<ws.length)\/(20:Int)<js.length)\/(20:Int)<ns.length):D9 ps ws js ns=true:=by unfold D9;rw [decide_eq_true h];rfl
theorem gr_p(h:ps.any (λs=>decide ((100:Int)<s.size))=true):D9 ps ws js ns=true:=by unfold D9;rw [h];simp
theorem gr_j(h:js.any (λj=>decide ((20:Int)<j.parts.length))=true):D9 ps ws js ns=true:=by unfold D9;rw [h];simp
theorem gr_n(h:ns.any (λn=>decide ((20:Int)<n.ways.length))=true):D9 ps ws js ns=true:=by unfold D9;rw [h];simp
theorem gr_0(h:¬((((20:Int)<ps.length\/(20:Int)<ws.length)\/(20:Int)<js.length)\/(20:Int)<ns.length))(h1:ps.any (λs=>decide ((100:Int)<s.size))=false)(h2:js.any (λj=>decide ((20:Int)<j.parts.length))=false)(h3:ns.any (λn=>decide ((20:Int)<n.ways.length))=false):D9 ps ws js ns=false:=by
 unfold D9;rw [decide_eq_false h,h1,h2,h3];rfl
end
end Go.Ns
namespace Go.Ns
def CR:List ByteArray:=[⟨#[119,111,114,107,115]⟩,⟨#[97,121,114]⟩,⟨#[98,117,116,101]⟩]
theorem C6:∀k,(CR.getD k (⟨#[]⟩:ByteArray)).size<=1000
 | 0=>aC
 | 1=>aC
 | 2=>aC
 | k+3=>by rw [CE (by simp [CR])];decide
def CN:List AF:=[⟨0,1,2,3⟩,⟨1,2,4,4⟩,⟨0,2,5,5⟩]
def B2(a b c:Value):List AN:=[⟨1,1,1,5,a,[2]⟩,⟨2,1,2,12,b,[1]⟩,⟨0,1,1,20,c,[1]⟩]
theorem C1.ex{h:GH}{t:TypeId}{a b c:Value}(x:D0 h t a [2])(y:D0 h t b [1])(z:D0 h t c [1]):C1 h t (B2 a b c):=λk=>by
 match k with
 | 0=>exact x
 | 1=>exact y
 | 2=>exact z
 | k+3=>rw [CE (by show 3<=_;omega)];exact D0.nil _ _
theorem AC.isSl{V:Type}{h:GH}{v:Value}{n:Nat}{enc:V->Array Value}{xs:List V}(x:AC h v n enc xs):∀k i,v≠.int k i:=by
 obtain ⟨a,cap,rfl,_⟩:=x;intro k i e;cases e
theorem AC.across9{h h':GH}{v:Value}{xs:List Int}{r:Nat}{a b c d:Value}{T:TypeId}(x:AC h v 1 eI xs)(hb:h r=some (true,.cells #[.int .i64 3,.int .i64 1,a,b,c,d] T (0,0)))(ho:∀y,y≠r->h' y=h y)
  (ha:∀k i,a≠.int k i) (hb':∀k i,b≠.int k i) (hc:∀k i,c≠.int k i) (hd:∀k i,d≠.int k i) (hx:∀o,o<6->∃i:Fin xs.length,(o+i.val=0->xs[i.val]≠3)/\(o+i.val=1->xs[i.val]≠1)):AC h' v 1 eI xs:=by
 obtain ⟨ad,cap,hv,hcap,hm,he⟩:=x;refine ⟨ad,cap,hv,hcap,hm,λi hi=>?_⟩;obtain ⟨y,off,h1,h2⟩:=he i hi;refine ⟨y,off,h1,h2.same (ho y ?_)⟩;rintro rfl;have key:∀j (hj:j<xs.length),off+j<6/\(#[Value.int .i64 3,.int .i64 1,a,b,c,d]:Array Value).extract (off+j) (off+j+1)=eI xs[j]:=λj hj=>by
  obtain ⟨y2,off2,h3,h4⟩:=he j hj;rw [h1] at h3;simp only [Option.some.injEq,Addr.mk.injEq,and_true] at h3;obtain ⟨rfl,rfl⟩:=h3;obtain ⟨p,cc,t,f,q1,q2,q3⟩:=h4;rw [hb] at q1;simp only [Option.some.injEq,Prod.mk.injEq,Obj.cells.injEq] at q1;obtain ⟨_,rfl,_⟩:=q1;rw [Nat.mul_one] at q2 q3;exact ⟨by simp at q2;omega,q3⟩
 obtain ⟨⟨j,hj⟩,e0,e1⟩:=hx off (by have:=(key i hi).1;omega);obtain ⟨k1,k2⟩:=key j hj;simp only at e0 e1;generalize off+j=o at k1 k2 e0 e1;generalize xs[j]=z at k2 e0 e1
 have:o=0\/o=1\/o=2\/o=3\/o=4\/o=5:=aA
 rcases this with rfl | rfl | rfl | rfl | rfl | rfl
 ·have k3:(#[.int .i64 3]:Array Value)=#[.int .i64 z]:=k2;simp at k3;exact e0 rfl k3.symm
 ·have k3:(#[.int .i64 1]:Array Value)=#[.int .i64 z]:=k2;simp at k3;exact e1 rfl k3.symm
 ·have k3:(#[a]:Array Value)=#[.int .i64 z]:=k2;simp at k3;exact ha _ _ k3
 ·have k3:(#[b]:Array Value)=#[.int .i64 z]:=k2;simp at k3;exact hb' _ _ k3
 ·have k3:(#[c]:Array Value)=#[.int .i64 z]:=k2;simp at k3;exact hc _ _ k3
 ·have k3:(#[d]:Array Value)=#[.int .i64 z]:=k2;simp at k3;exact hd _ _ k3
end Go.Ns
namespace Go.Ns
section
variable {m:FE} {b np i k n:Nat}
end
section
variable {p:AG} {ws:List AF} {np:Nat}
end
end Go.Ns
namespace Go.Ns
section
variable {ws:List AF} {c:Hh} {x:AF} {i n k np:Nat}
theorem Jo(h:c i=true):Hi c x i=true:=by
 unfold Hi Hh.set;by_cases e:i=x.b.toNat
 ·rw [if_pos e];by_cases e2:x.b.toNat=x.a.toNat
  ·rw [if_pos e2];rw [e,e2] at h;rw [h];simp
  ·rw [if_neg e2,<-e,h];simp
 ·rw [if_neg e];by_cases e2:i=x.a.toNat
  ·rw [if_pos e2,<-e2,h];simp
  ·rw [if_neg e2];exact h
theorem UC(h:c x.a.toNat=true\/c x.b.toNat=true):Hi c x x.a.toNat=true/\Hi c x x.b.toNat=true:=by
 unfold Hi Hh.set;rcases h with h | h
 ·constructor
  ·by_cases e:x.a.toNat=x.b.toNat
   ·rw [if_pos e];simp [h]
   ·rw [if_neg e];simp [h]
  ·rw [if_pos rfl];simp [h]
 ·constructor
  ·by_cases e:x.a.toNat=x.b.toNat
   ·rw [if_pos e];simp [h]
   ·rw [if_neg e];simp [h]
  ·rw [if_pos rfl];simp [h]
theorem HM:∀(l:List AF)(c:Hh),c i=true->l.foldl Hi c i=true
 | [],_,h=>h
 | x ::l,c,h=>HM l _ (Jo h)
theorem I9:∀(l:List AF)(c:Hh),x ∈ l->(c x.a.toNat=true\/c x.b.toNat=true)->l.foldl Hi c x.a.toNat=true/\l.foldl Hi c x.b.toNat=true
 | y ::l,c,hx,h=>by
  rcases List.mem_cons.1 hx with e | hx
  ·subst e;have b:=UC h;exact ⟨HM l _ b.1,HM l _ b.2⟩
  ·exact I9 l _ hx (h.imp Jo Jo)
theorem Jp:∀n (c:Hh),Ei ws (n+1) c=Gn ws (Ei ws n c)
 | 0,_=>rfl
 | n+1,c=>Jp n (Gn ws c)
theorem MW{m:Nat}(h:Ei ws n c i=true):∀d,m=n+d->Ei ws m c i=true
 | 0,e=>by rw [e];exact h
 | d+1,e=>by
  rw [e,show n+(d+1)=(n+d)+1 by omega,Jp];exact HM ws _ (MW h d rfl)
def c0:Hh:=Hh.none.set 0 true
def Ia(ws:List AF)(l:List Int):Prop:=∀i,i<l.length->Ei ws i c0 (l.getD i 0).toNat=true
theorem Ia.snoc{l:List Int}{q:Int}(h:Ia ws l)(hq:Ei ws l.length c0 q.toNat=true):Ia ws (l++[q]):=λi hi=>by
 rw [List.length_append,List.length_singleton] at hi;rw [O9];by_cases e:i<l.length
 ·rw [if_pos e];exact h i e
 ·rw [if_neg e,show i=l.length by omega,Nat.sub_self];exact hq
theorem Ia.step{l:List Int}(h:Ia ws l)(hk:k<l.length)(hx:x ∈ ws):Ia ws (C5 l k x):=by
 have one:∀{l:List Int}{p q:Int},Ia ws l->k<l.length->(x.a=p/\x.b=q\/x.b=p/\x.a=q)->Ia ws (IQ l k p q):=by
  intro l p q h hk hpq;unfold IQ;split
  ·rename_i e
   have f:=h k hk;rw [<-e.1] at f;have g:Ei ws (k+1) c0 q.toNat=true:=by
    rw [Jp];rcases hpq with ⟨rfl,rfl⟩ | ⟨rfl,rfl⟩
    ·exact (I9 ws _ hx (.inl f)).2
    ·exact (I9 ws _ hx (.inr f)).1
   exact h.snoc (MW g (l.length-(k+1)) aA)
  ·exact h
 have h1:=one h hk (.inl ⟨rfl,rfl⟩);have hl:=(Kq l k x.a x.b).length_le;exact one h1 aA (.inr ⟨rfl,rfl⟩)
theorem Ia.ways{l:List Int}(h:Ia ws l)(hk:k<l.length):∀j,j<=ws.length->Ia ws (Ag ws l k j)
 | 0,_=>h
 | j+1,hj=>(Ia.ways h hk j aA).step (Nat.lt_of_lt_of_le hk (IR j).length_le) (B7 aA)
theorem MX:∀k,Ia ws (Aw ws k)
 | 0=>λi hi=>by
  have:i=0:=by
   have:i<1:=hi
   omega
  subst this;rfl
 | k+1=>by
  unfold Aw;split
  ·rename_i e;exact (MX k).ways e _ (Nat.le_refl _)
  ·exact MX k
theorem Sm(hn:0<np)(hw:PQ np ws)(h:¬(G5 ws).length<np):Ge np ws=0:=by
 have ok:Hn np (G5 ws):=KA hn hw 4;have hl:=ok.len;have all:∀y,y<np->Ei ws np c0 y=true:=λy hy=>by
  have mem:(y:Int) ∈ G5 ws:=Decidable.byContradiction λe=>by
   have:=(ok.snoc (x:=(y:Int)) ⟨aA,aA⟩ e).len
   rw [List.length_append,List.length_singleton] at this;omega
  obtain ⟨i,hi,e⟩:=List.mem_iff_getElem.1 mem;have f:Ei ws i c0 ((G5 ws).getD i 0).toNat=true:=MX (ws:=ws) 4 i hi;have e2:(G5 ws).getD i 0=(y:Int):=by
   rw [List.getD_eq_getElem?_getD,List.getElem?_eq_getElem hi];exact e
  rw [e2] at f;exact MW f (np-i) (by have hi':i<(G5 ws).length:=hi;omega)
 unfold Ge;rw [if_neg];intro e;obtain ⟨b,hb,hf⟩:=List.any_eq_true.1 e;unfold On at hb;obtain ⟨y,hy,rfl⟩:=List.mem_map.1 hb
 have:Ei ws np (Hh.none.set 0 true) y=true:=all y (List.mem_range.1 hy)
 rw [this] at hf;cases hf
end
section
variable {bag kinds:Int} {ps:List ByteArray} {ws:List AF} {js:List AN} {ns:List AI}
theorem Vh(hn:0<ps.length)(h:FM ps.length ws=0):Ej ps.length ws=0:=by
 unfold FM at h;split at h
 ·cases h
 ·rename_i a
  split at h
  ·rename_i b;exact absurd h b
  ·rename_i b
   split at h
   ·cases h
   ·rename_i c
    unfold Ej;rw [if_neg a,if_neg b];have z:=DH (Decidable.not_not.1 b);exact Sm hn (waysOK λk hk=>z k (Nat.zero_le _) aA) c
theorem UD(h:Dg bag kinds ps ws js ns=0):BQ bag kinds ps ws js ns=0:=by
 unfold Dg at h;split at h
 ·rename_i a;exact absurd h a
 ·rename_i a
  split at h
  ·rename_i b;exact absurd h b
  ·rename_i b
   split at h
   ·rename_i c;exact absurd h c
   ·rename_i c
    split at h
    ·rename_i d;exact absurd h d
    ·rename_i d
     have h1:=Decidable.not_not.1 a;have h2:=Decidable.not_not.1 b;have h3:=Vh (Jn h2).1 (Decidable.not_not.1 c);have h4:=Decidable.not_not.1 d;unfold BQ;refine Bu (k:=5) (λj hj=>?_) (Nat.le_refl _)
     match j with
     | 0=>exact h1
     | 1=>exact h2
     | 2=>exact h3
     | 3=>exact h4
     | 4=>exact h
     | j+5=>omega
theorem fit9_ok(h:fit9 bag kinds ps ws js ns=true):BQ bag kinds ps ws js ns=0/\∀k,(ps.getD k (⟨#[]⟩:ByteArray)).size<=1000:=by
 unfold fit9 at h;rw [Bool.and_eq_true] at h;exact ⟨UD (of_decide_eq_true h.2),Lp (by simpa using h.1)⟩
end
end Go.Ns
namespace Go.Ns
open Go.Conc
section
variable {P:Program} {E:GF P} {O:Nat->Value} {ds:List Deferred} {h:GH} {T:(Nat->Value)->List Deferred->GH->Prop} {dst:Option Nat} {ty:TypeId} {pos:String} {af:Array Edge} {gd:Option (Nat×Bool)}
theorem ok_neqB{xt yt:TypeId}{x y:Operand}{a b:Bool}(hx:AO O x=.bool a)(hy:AO O y=.bool b)(he:Nu P 1 xt (.bool a) (.bool b)=some (a==b))(k:T (putS O dst (.bool (a !=b))) ds h):BS E ⟨dst,.binOp .neq xt x y yt,ty,pos,af,gd⟩ O ds h T:=by
 unfold BS execOp;simp only [hx,hy];refine FW (AE _ _ ?_);have hg:∀(Q:Unit->GH->Prop),Q () h->(eqGuard .neq xt x y (.bool a) (.bool b)).gh P h Q:=λQ q=>q;refine hg _ ?_;show Sem.gh P (do pure (Value.bool (!(<-Op.equal xt (.bool a) (.bool b)))):Sem Value) h _;refine AE _ _ ?_;exact HZ 1 _ _ _ _ (a==b) h _ aC he k
end
section
variable {F G:AG->Int} {l:List AG} {x:AG}
end
section
variable {bag kinds:Int} {ps:List ByteArray} {ws:List AF} {js:List AN} {ns:List AI} {a b c:Int}
end
section
variable {bag kinds:Int} {ps:List ByteArray} {ws:List AF} {js:List AN} {ns:List AI} {a b c s:Int}
end
end Go.Ns
namespace Go.Ns
open Go.Conc
section
variable {P:Program} {Post:Value->World->Prop}
def XZ(P:Program)(Post:Value->World->Prop):Wk P:=⟨true,Do P Post,KM⟩
theorem Sn:Ki (XZ P Post):=⟨Post,rfl⟩
theorem Yh{f:FuncId}{fn:Func}{c:Code}{args:Array Value}{h:GH}{R:Value->GH->Prop}(hf:P.funcs[f]? =some fn)(hb:fn.body=some c)(hsz:args.size<=fn.ntmps)(hin:P.inits.idxOf? f=none)(hpost:∀v h',R v h'->∀w,Dw w h'->Post v w)
  (x:Tr ⟨XZ P Post,f,none,fn.ntmps⟩ c (λi=>args.getD i undef) [] h (λe O ds h'=>(e=.normal\/e=.ret)/\GI P fn O R ds h')):Do P Post (G (Frame.enter P f args .normal) []) h:=by
 have e0:Frame.enter P f args .normal=Ce (Frame.enter P f args .normal) (args++Array.replicate (fn.ntmps-args.size) undef) [] [.code c]:=by
  simp [Frame.enter,Ce,hf,hb]
 rw [e0];let L:Lv:=λj t ds h'=>(j=none\/j=some .ret)/\∃O,BZ t fn.ntmps O/\GI P fn O R ds h';have fin:∀O ds h' t k,BZ t fn.ntmps O->GI P fn O R ds h'->(XZ P Post).K (G (EU (Frame.enter P f args .normal) t ds k) []) h':=by
  intro O ds h' t k hs ho;refine Ms (W:=XZ P Post) (R:=R) hf (b:=Frame.enter P f args .normal) rfl (λt k v h h' hr hrun=>?_) ds h' t k hs ho;refine Un rfl λw fw=>?_;obtain ⟨w',es,r1,r2⟩:=hrun w fw;refine ⟨v,w',seen P f es++ #[],h',?_,r2.sub (es':=seen P f es++ #[]) λe he=>?_,hpost v h' hr w' r2.fits⟩
  ·rw [Ka];unfold unwind;have hfn:(EU (Frame.enter P f args .normal) t [] k).fn=f:=rfl;have hk:(EU (Frame.enter P f args .normal) t [] k).kind=.normal:=rfl;have hm:(EU (Frame.enter P f args .normal) t [] k).mode=.returning:=rfl;have hd:(EU (Frame.enter P f args .normal) t [] k).defers=[]:=rfl;have ht:(EU (Frame.enter P f args .normal) t [] k).tmps=t:=rfl;simp only [hd,hm,hfn,hf,ht,r1,GStep.after,doReturn,hk,hin];rfl
  ·rw [Array.append_empty] at he;exact mem_seen he
 refine x (Frame.enter P f args .normal) [] [] L _ rfl rfl ⟨?_,?_,?_⟩ ⟨by simp;omega,λi=>?_⟩ ?_
 ·rintro t ds h' ⟨_,O,hs,ho⟩;exact Wk.go (EU (Frame.enter P f args .normal) t ds []) (λw=>by rw [A5];simp [stepG.exec,Ce,EU,G,Frame.enter]) (fin O ds h' t [] hs ho)
 ·rintro t ds h' k ⟨_,O,hs,ho⟩;exact Wk.go (EU (Frame.enter P f args .normal) t ds (.code .ret ::k)) (λw=>by rw [A5];simp [stepG.exec,Ce,EU,G,Frame.enter]) (fin O ds h' t _ hs ho)
 ·rintro id t ds h' k _ ⟨h1 | h1,_⟩ <;> cases h1
 ·by_cases hi:i<args.size
  ·simp [Array.getD_eq_getD_getElem?,Array.getElem?_append_left hi]
  ·simp only [Array.getD_eq_getD_getElem?];rw [Array.getElem?_append_right aA,Array.getElem?_eq_none (show args.size<=i by omega),Array.getElem?_replicate];split <;> rfl
 ·rintro e O ds h' ⟨he,ho⟩ t' ht';rcases he with rfl | rfl
  ·exact Wk.go (EU (Frame.enter P f args .normal) t' ds []) (λw=>by rw [A5];simp [stepG.exec,Ce,EU,G,Frame.enter]) (fin O ds h' t' [] ht' ho)
  ·exact ⟨.inr rfl,O,ht',ho⟩
def GH.of(W:World):GH:=λb=>(W.heap[b]?).map λo=>(false,o)
theorem GH.of_some{W:World}{b:Nat}{o:Obj}(h:W.heap[b]? =some o):GH.of W b=some (false,o):=by unfold GH.of;rw [h];rfl
theorem fits_of(W:World):Dw W (GH.of W):=λb p o h=>by
 unfold GH.of at h;cases e:W.heap[b]? with
 | none=>rw [e] at h;cases h
 | some x=>rw [e] at h;cases h;rfl
theorem kept_of{W w:World}{h:GH}(l:(GH.of W).Le h)(f:Dw w h){b:Nat}{o:Obj}(hb:W.heap[b]? =some o):w.heap[b]? =some o:=f b _ _ (l.keep (GH.of_some hb) rfl)
theorem Vi{g:Goroutine}{W:World}(hg:Do P Post g (GH.of W)):Bq P (In Post W.os W.output) (solo g W) #[]:=by
 have hno:∀k a,touchAt (#[]:Trace) k=some a->False:=λk a h=>by
  obtain ⟨op,h1,_⟩:=touch_of h;simp at h1
 refine hg #[g] W none (λ_=>0) #[] ⟨rfl,?_,fits_of W,?_,?_,λk a b hk=>(hno k a hk).elim,?_,λk a hk=>(hno k a hk).elim,λb p o k a _ _ hk=>(hno k a hk).elim⟩
 ·intro j x hj hx;rw [Array.getElem?_eq_none (by simp;omega)] at hx;cases hx
 ·intro op hop;simp at hop
 ·rintro said ⟨i,j,hij,⟨a,b,ha,_⟩,_⟩;exact hno i a ha
 ·intro op hop;simp at hop
end
end Go.Ns
namespace Go.Ns
open Go.Conc Go.ChangeShapes Go.WideShapes Go.ChangeAt Go.RowKit
section
variable {P:Program} {W:World}
theorem Vj{b off n:Nat}{cs:List Value}(h:W.cells? 0 ⟨b,off,none⟩ n=some cs)(hn:0<n):AY (GH.of W) b off n cs.toArray:=by
 obtain ⟨_,hl,hc⟩:=World.cells?_some h;have hcell:∀i,i<n->W.cell? ⟨b,off+i,none⟩=cs[i]? :=λi hi=>by
  have:=hc i hi
  unfold Addr.add at this;split at this
  ·rename_i e;subst e;exact this
  ·exact this
 have h0:=hcell 0 hn;unfold World.cell? at h0;cases hb:W.heap[b]? with
 | none=>simp [hb,List.getElem?_eq_getElem (show 0<cs.length by omega)] at h0
 | some o=>
  cases o with
  | cells c t f=>
   have hall:∀i,i<n->c[off+i]? =cs[i]? :=λi hi=>by
    have:=hcell i hi
    unfold World.cell? at this;simpa [hb] using this
   have hlast:=hall (n-1) aA;rw [List.getElem?_eq_getElem (show n-1<cs.length by omega)] at hlast;have hsz:=(Array.getElem?_eq_some_iff.1 hlast).1;refine ⟨false,c,t,f,GH.of_some hb,aA,?_⟩;apply Array.ext
   ·simp;omega
   ·intro i h1 h2;have hi:i<n:=by simp at h2;omega
    have:=hall i hi
    rw [Array.getElem?_eq_getElem aA,List.getElem?_eq_getElem aA] at this;simpa using this
  | _=>simp [hb,List.getElem?_eq_getElem (show 0<cs.length by omega)] at h0
def MY(P:Program)(W:World)(e:TypeId){V:Type}(enc:V->Array Value)(good:V->Prop):Prop:=
 ∀{H:Type}(en:TypeId×Value->H)(sp:Nat->Bool)(held:Bool)(fuel:Nat)(cs:List Value)(x:DataW H×List MemPlace),DataW.trod en P W 0 sp held fuel e cs=some x->(∀y ∈ x.1.weights P e,y<=reachBytes)->∃a:V,cs=(enc a).toList/\good a
theorem Jq{H:Type}{e:TypeId}{d:DataW H}{y:Nat}:∀{l:List (DataW H)},d ∈ l->y ∈ d.weights P e->y ∈ DataW.weightsAll P e l
 | c ::l,hd,hy=>by
  unfold DataW.weightsAll;rcases List.mem_cons.1 hd with rfl | hd
  ·exact List.mem_append_left _ hy
  ·exact List.mem_append_right _ (Jq hd hy)
theorem Ib{H:Type}{en:TypeId×Value->H}{sp:Nat->Bool}{held:Bool}{fuel:Nat}{t e:TypeId}{n:Nat}{V:Type}{enc:V->Array Value}{good:V->Prop}{v:Value}{d:DataW H}{ps:List MemPlace}(ht:P.underlying t=some (.slice e))(hc:P.cellsOf e=n)(hn:0<n)
  (hb:1<=P.bytesOf e) (ho:MY P W e enc good) (h:DataW.trod en P W 0 sp held fuel t [v]=some (d,ps)) (hw:∀y ∈ d.weights P t,y<=reachBytes):∃xs:List V,AC (GH.of W) v n enc xs/\∀x ∈ xs,good x:=by
 rcases DataW.trod_slice ht h with ⟨h1,_⟩ | ⟨a,len,cap,elems,rest,m,rfl,h1,h2,_,hl,_,hlen,hel,_,_⟩
 ·simp at h1;subst h1;exact ⟨[],AC.nil _ _ _,λx hx=>by cases hx⟩
 ·simp only [List.cons.injEq,and_true] at h1;subst h1;simp only [Prod.mk.injEq] at h2;have hd:d=.slice (elems.map (·.1)) (rest.map (·.1)):=h2.1;have hlim:len<=140737488355328:=by
   have:=hw ((elems.map (·.1)).length+(rest.map (·.1)).length |>.mul (P.bytesOf e)) (by rw [hd];unfold DataW.weights;rw [ht];exact List.mem_cons_self ..)
   have h3:(elems.map (·.1)).length+(rest.map (·.1)).length<=((elems.map (·.1)).length+(rest.map (·.1)).length)*P.bytesOf e:=Nat.le_mul_of_pos_right _ hb;have h4:((elems.map (·.1)).length+(rest.map (·.1)).length)*P.bytesOf e<=reachBytes:=this;rw [List.length_map] at h3 h4;unfold reachBytes at h4;omega
  have each:∀i,i<len->∃x:V,∃b off,a=⟨b,off,none⟩/\AY (GH.of W) b (off+i*n) n (enc x)/\good x:=λi hi=>by
   have:=hel i hi
   rw [List.getElem?_eq_getElem aA,hc] at this;simp only [Option.bind_eq_some_iff] at this;obtain ⟨cs,hcs,hx⟩:=this;obtain ⟨x,e1,e2⟩:=ho _ _ _ _ _ _ hx λy hy=>hw y (by rw [hd];unfold DataW.weights;rw [ht];exact List.mem_cons_of_mem _ (List.mem_append_left _ (Jq (List.mem_map.2 ⟨_,List.getElem_mem (show i<elems.length by omega),rfl⟩) hy)));have hc0:=(World.cells?_some hcs).2.2 0 hn;have hlen2:=(World.cells?_some hcs).2.1;rw [List.getElem?_eq_getElem (show 0<cs.length by omega)] at hc0;have hsp:=World.cell?_spot hc0;obtain ⟨b,off,spot⟩:=a;have hspot:spot=none\/i≠0:=by
    by_cases e0:i=0
    ·subst e0;left;simpa [Addr.add] using hsp
    ·exact .inr e0
   have hfirst:spot=none:=by
    rcases hspot with e | e
    ·exact e
    ·have h00:=hel 0 aA;rw [List.getElem?_eq_getElem aA,hc] at h00;simp only [Option.bind_eq_some_iff] at h00;obtain ⟨c0,hc00,_⟩:=h00;have z:=(World.cells?_some hc00).2.2 0 hn;have zl:=(World.cells?_some hc00).2.1;rw [List.getElem?_eq_getElem (show 0<c0.length by omega)] at z
     have:=World.cell?_spot z
     simpa [Addr.add] using this
   subst hfirst;refine ⟨x,b,off,rfl,?_,e2⟩;have ea:(Addr.add ⟨b,off,none⟩ (i*n))=⟨b,off+i*n,none⟩:=by
    unfold Addr.add;split
    ·rename_i e;rw [e];rfl
    ·rfl
   rw [ea] at hcs
   have:=Vj hcs hn
   rw [e1] at this;simpa using this
  by_cases hz:len=0
  ·subst hz;exact ⟨[],⟨some a,cap,rfl,Nat.zero_le _,Nat.zero_le _,λi hi=>by simp at hi⟩,λx hx=>by cases hx⟩
  ·have hch:∀i:Fin len,∃x:V,∃b off,a=⟨b,off,none⟩/\AY (GH.of W) b (off+i.val*n) n (enc x)/\good x:=λi=>each i.val i.isLt;refine ⟨List.ofFn λi=>Classical.choose (hch i),⟨some a,cap,by rw [List.length_ofFn],by rw [List.length_ofFn];exact hl,by rw [List.length_ofFn];exact hlim,λi hi=>?_⟩,λx hx=>?_⟩
   ·rw [List.length_ofFn] at hi;obtain ⟨b,off,e1,e2,_⟩:=Classical.choose_spec (hch ⟨i,hi⟩);refine ⟨b,off,by rw [e1],?_⟩;rw [List.getElem_ofFn];exact e2
   ·obtain ⟨i,rfl⟩:=List.mem_ofFn.1 hx;obtain ⟨_,_,_,_,e3⟩:=Classical.choose_spec (hch i);exact e3
theorem RO{H:Type}{en:TypeId×Value->H}{t:TypeId}(hl:laidOutB P=true)(hr:P.readableRec t=true)(hrow:t<P.types.size){W':World}{v:Value}{d:DataW H}{ps:List MemPlace}(h:DataW.Trod en P W 0 (λ_=>true) true t v d ps)
  (hk:∀(b:Nat)(o:Obj),W.heap[b]? =some o->W'.heap[b]? =some o) (hlt:∀x ∈ ps,x.block<W.heap.size):DataW.Trod en P W' 0 (λb=>decide (b<W.heap.size)) true t v d ps:=by
 let W2:World:={ W' with os:=W.os,tape:=W.tape,output:=W.output };have hsz:W.heap.size<=W'.heap.size:=by
  rcases Nat.lt_or_ge W'.heap.size W.heap.size with x | x
  ·have:=hk W'.heap.size _ (Array.getElem?_eq_getElem x)
   rw [Array.getElem?_eq_none (Nat.le_refl _)] at this;cases this
  ·exact x
 have hb:Below W.heap.size W W2:=⟨rfl,rfl,rfl,hsz,λk hk'=>by
  show W'.heap[k]? =_;rw [Array.getElem?_eq_getElem hk'];exact hk k _ (Array.getElem?_eq_getElem hk')⟩
 exact DataW.Trod.of_heap (w:=W2) (w':=W') rfl (Below.trod hl hr hrow h hb hlt)
theorem kept_but{W':World}(hk:∀(b:Nat)(o:Obj),W.heap[b]? =some o->W'.heap[b]? =some o)(ho:W'.os=W.os)(hp:W'.output=W.output)(may:MemPlace->Prop):W.keptBut W' may:=by
 refine ⟨ho,hp,λi hi=>?_⟩;rw [hk i _ (Array.getElem?_eq_getElem hi),Array.getElem?_eq_getElem hi];split <;> simp_all
end
end Go.Ns
namespace Go.Ns
open Go.Conc
theorem Vk{P:Program}{E:GF P}{O:Nat->Value}{ds:List Deferred}{h:GH}{T:(Nat->Value)->List Deferred->GH->Prop}{dst:Option Nat}{ty:TypeId}{pos:String}{af:Array Edge}{gd:Option (Nat×Bool)}{V:Type}
  {s x:TypeId} {o1 o2:Operand} {h0:GH} {w:Value} {r e n bytes:Nat} {enc:V->Array Value} {ys:List V} (ht:IU P s x=some (e,n,bytes)) (h1:AO O o1=.slice (some ⟨r,0,none⟩) 0 0) (h2:AO O o2=w)
  (hv:AS h0 h (.slice (some ⟨r,0,none⟩) 0 0) e n enc ([]:List V)) (hw:AC h w n enc ys) (l0:∀q,h q=none->h0 q=none) (hb:(2*(([]:List V).length+ys.length)+512)*bytes<=2 ^ 48) (hfine:∀y ∈ ys,(enc y).toList.all (·.oneCell')=true)
  (k:∀v' h',AS h0 h' v' e n enc ys->G8 h h' (.slice (some ⟨r,0,none⟩) 0 0) v'->h.Le h'->T (putS O dst v') ds h'):BS E ⟨dst,.call ⟨.builtin .append,#[o1,o2],#[s,x]⟩,ty,pos,af,gd⟩ O ds h T:=
 OH ht h1 h2 hv hw l0 hb hfine λv' h' o g1 g2 g3=>k v' h' o ⟨g1,g2⟩ (.of λb y hb=>by
  by_cases e:b=r
  ·subst e;rcases hv with ⟨q,_⟩ | ⟨b1,cap,c,q,_,q2,q3,_⟩
   ·cases q
   ·simp only [Value.slice.injEq,Option.some.injEq,Addr.mk.injEq,and_true] at q;obtain ⟨rfl,_,rfl⟩:=q;obtain ⟨c',q5,q6⟩:=g3 b c rfl q2;rw [q2] at hb;cases hb;rw [q5,Array.eq_empty_of_size_eq_zero (show c.size=0 by omega),Array.eq_empty_of_size_eq_zero (show c'.size=0 by omega)]
  ·exact g1 b y hb λq=>e (by simpa [CW] using q.symm))
section
variable {n i:Nat} {l kn rest:List Int}
end
section
variable {n:Nat} {a b:List Sl}
end
section
variable {l:List Int} {i q:Nat}
end
section
variable {bag kinds:Int} {ps:List ByteArray} {ws:List AF} {js:List AN} {ns:List AI} {l:List Int} {p:AG} {i:Nat}
end
section
variable {F G:AG->Int} {l:List AG}
end
section
variable {bag kinds:Int} {ps:List ByteArray} {ws:List AF} {js:List AN} {ns:List AI} {l:List Int} {i k:Nat}
end
end Go.Ns
namespace Go.Ns
section
variable {bag kinds:Int} {ps:List ByteArray} {ws:List AF} {js:List AN} {ns:List AI} {r l:List Int} {i k:Nat} {s:Int}
end
end Go.Ns
namespace Go.Ns
theorem Vl{a b:List Int}{k:Nat}(hk:k<=a.length)(hkb:k<=b.length)(h:¬((k:Int)<a.length/\(k:Int)<b.length)):(Fw a b (a.length-k) k<0)↔(a.length:Int)<b.length:=by
 by_cases hA:(k:Int)<a.length
 ·rw [GP aA,if_pos aA];omega
 ·rw [JZ (k:=k) hA];split <;> omega
theorem Yi{a b:List Int}{k:Nat}(hk:k<a.length)(hkb:k<b.length)(h:¬a.getD k 0=b.getD k 0):(Fw a b (a.length-k) k<0)↔a.getD k 0<b.getD k 0:=by
 rw [GP hk,if_neg aA];unfold Ob;split
 ·simp_all
 ·split <;> simp_all <;> omega
theorem Yj{a b:List Int}{k:Nat}(hk:k<a.length)(hkb:k<b.length)(h:¬¬a.getD k 0=b.getD k 0):Fw a b (a.length-k) k=Fw a b (a.length-(k+1)) (k+1):=by
 have e:=Decidable.not_not.1 h;rw [GP hk,if_neg aA,if_neg (by unfold Ob;rw [e];simp)]
section
variable {a b c:List Int} {x y:Int}
end
section
variable {jobs l r:List Int} {f n:Nat}
end
section
variable {g pre:List (List Int)} {x:List Int}
end
section
variable {G:List Int->Int} {l:List (List Int)}
end
end Go.Ns
namespace Go.Ns
open Go.Conc Go Go.RowKit
section
variable {P:Program} {E:GF P} {O:Nat->Value} {ds:List Deferred} {h:GH} {T:(Nat->Value)->List Deferred->GH->Prop} {dst:Option Nat} {ty:TypeId} {pos:String} {af:Array Edge} {gd:Option (Nat×Bool)}
theorem shr_u8{a:Int}{k:Nat}(h:k<=8):a.fdiv (2 ^ (min ((k:Int)).toNat IntKind.u8.bits))=a.fdiv (2 ^ k):=by
 have:min ((k:Int)).toNat IntKind.u8.bits=k:=by
  show min ((k:Int)).toNat 8=k;omega
 rw [this]
theorem ok_and1b{xt yt:TypeId}{x y:Operand}{a:Int}(hx:AO O x=.int .u8 a)(hy:AO O y=.int .u8 1)(h0:0<=a)(h1:a<=255)(k:T (putS O dst (.int .u8 (a%2))) ds h) :
  BS E ⟨dst,.binOp .and xt x y yt,ty,pos,af,gd⟩ O ds h T:=FX hx hy (by
 show (pure (Value.int .u8 (IntKind.u8.wrap ((BitVec.ofInt 8 a &&& BitVec.ofInt 8 1).toNat))):Sem Value)=_;obtain ⟨n,rfl⟩:=Int.eq_ofNat_of_zero_le h0
 have:(BitVec.ofInt 8 (n:Int) &&& BitVec.ofInt 8 1).toNat=n%2:=by
  rw [BitVec.toNat_and];have e1:(BitVec.ofInt 8 (n:Int)).toNat=n:=by
   rw [BitVec.toNat_ofInt];omega
  have e2:(BitVec.ofInt 8 1).toNat=1:=aC
  rw [e1,e2,Nat.and_one_is_mod]
 rw [this,IntWalk.u8_in _ aA];congr 2) k
theorem Yk{a:Int}(h:0<=a/\a<=255)(k:Nat):0<=a.fdiv (2 ^ k)/\a.fdiv (2 ^ k)<=255:=by
 have hp:(0:Int)<2 ^ k:=by
  have:=Nat.pow_pos (n:=k) (show 0<2 by decide)
  exact_mod_cast this
 rw [Int.fdiv_eq_ediv_of_nonneg _ (Int.le_of_lt hp)];refine ⟨Int.ediv_nonneg h.1 (Int.le_of_lt hp),Int.le_trans (Int.ediv_le_self _ h.1) h.2⟩
end
def Lq(l:List Int):Nat:=l.length*100000+(l.foldl (λn x=>10*n+x.toNat) 0)
def chk1:Bool:=(List.range 5).all λn=>(List.range (2 ^ n)).all λ(x:Nat)=>(List.range (2 ^ n)).all λ(y:Nat)=>FC (Aq (x:Int) n) (Aq (y:Int) n)==decide (Lq (Aq (x:Int) n)<Lq (Aq (y:Int) n))
def chk2:Bool:=(List.range 5).all λn=>(List.range (2 ^ n)).all λ(x:Nat)=>(List.range (Aq (x:Int) n).length).all λk=>(List.range (2 ^ n)).any λ(y:Nat)=>Aq (y:Int) n==(Aq (x:Int) n).eraseIdx k && FC (Aq (y:Int) n) (Aq (x:Int) n)
def chk3:Bool:=(List.range 5).all λn=>(List.range 256).all λ(b:Nat)=>(List.range (2 ^ n)).any λ(y:Nat)=>Aq (y:Int) n==Aq (b:Int) n
def chk4:Bool:=(List.range 5).all λn=>(List.range (2 ^ n)).all λ(x:Nat)=>(List.range (Aq (x:Int) n).length).all λi=>decide (0<=(Aq (x:Int) n).getD i 0) && decide ((Aq (x:Int) n).getD i 0<(n:Int)) && (i==0 || decide ((Aq (x:Int) n).getD (i-1) 0<(Aq (x:Int) n).getD i 0))
def chk5:Bool:=(List.range 5).all λn=>(List.range (2 ^ n)).all λ(x:Nat)=>(List.range (2 ^ n)).all λ(y:Nat)=>EF (true,Aq (y:Int) n) (Aq (x:Int) n)==decide (Lq (Aq (y:Int) n)<Lq (Aq (x:Int) n))
theorem Yl:chk5=true:=aB
theorem Ym:chk1=true:=aB
theorem Yn:chk2=true:=aB
theorem Yo:chk3=true:=aB
theorem Yp:chk4=true:=aB
theorem UE{n x y:Nat}(hn:n<=4)(hx:x<2 ^ n)(hy:y<2 ^ n):FC (Aq (x:Int) n) (Aq (y:Int) n)=decide (Lq (Aq (x:Int) n)<Lq (Aq (y:Int) n)):=by
 have h:=Ym;unfold chk1 at h;rw [List.all_eq_true] at h;have h2:=List.all_eq_true.1 (List.all_eq_true.1 (h n (List.mem_range.2 aA)) x (List.mem_range.2 hx)) y (List.mem_range.2 hy);exact eq_of_beq h2
theorem Vm{n x k:Nat}(hn:n<=4)(hx:x<2 ^ n)(hk:k<(Aq (x:Int) n).length):∃y:Nat,y<2 ^ n/\Aq (y:Int) n=(Aq (x:Int) n).eraseIdx k/\FC (Aq (y:Int) n) (Aq (x:Int) n)=true:=by
 have h:=Yn;unfold chk2 at h;rw [List.all_eq_true] at h;have h2:=List.all_eq_true.1 (List.all_eq_true.1 (h n (List.mem_range.2 aA)) x (List.mem_range.2 hx)) k (List.mem_range.2 hk);obtain ⟨y,hy,e⟩:=List.any_eq_true.1 h2;rw [Bool.and_eq_true] at e;exact ⟨y,List.mem_range.1 hy,eq_of_beq e.1,e.2⟩
theorem RP{n:Nat}{b:Int}(hn:n<=4)(hb:0<=b/\b<=255):∃y:Nat,y<2 ^ n/\Aq (y:Int) n=Aq b n:=by
 obtain ⟨b,rfl⟩:=Int.eq_ofNat_of_zero_le hb.1;have h:=Yo;unfold chk3 at h;rw [List.all_eq_true] at h;have h2:=List.all_eq_true.1 (h n (List.mem_range.2 aA)) b (List.mem_range.2 aA);obtain ⟨y,hy,e⟩:=List.any_eq_true.1 h2;exact ⟨y,List.mem_range.1 hy,eq_of_beq e⟩
theorem Ls{n x i:Nat}(hn:n<=4)(hx:x<2 ^ n)(hi:i<(Aq (x:Int) n).length):0<=(Aq (x:Int) n).getD i 0/\(Aq (x:Int) n).getD i 0<(n:Int)/\(0<i->(Aq (x:Int) n).getD (i-1) 0<(Aq (x:Int) n).getD i 0):=by
 have h:=Yp;unfold chk4 at h;rw [List.all_eq_true] at h;have h2:=List.all_eq_true.1 (List.all_eq_true.1 (h n (List.mem_range.2 aA)) x (List.mem_range.2 hx)) i (List.mem_range.2 hi);simp only [Bool.and_eq_true,decide_eq_true_eq,Bool.or_eq_true,beq_iff_eq] at h2;exact ⟨h2.1.1,h2.1.2,λq=>h2.2.resolve_left aA⟩
theorem Vn{n x y:Nat}(hn:n<=4)(hx:x<2 ^ n)(hy:y<2 ^ n):EF (true,Aq (y:Int) n) (Aq (x:Int) n)=decide (Lq (Aq (y:Int) n)<Lq (Aq (x:Int) n)):=by
 have h:=Yl;unfold chk5 at h;rw [List.all_eq_true] at h;have h2:=List.all_eq_true.1 (List.all_eq_true.1 (h n (List.mem_range.2 aA)) x (List.mem_range.2 hx)) y (List.mem_range.2 hy);exact eq_of_beq h2
theorem Yq:∀n,n<=4->Aq (((2 ^ n-1:Nat)):Int) n=DS n
 | 0,_=>aC
 | 1,_=>aC
 | 2,_=>aC
 | 3,_=>aC
 | 4,_=>aC
 | n+5,h=>aA
def Bp(ns:List AI)(l:List Int):List AI:=l.map λi=>ns.getD i.toNat AI.z
section
variable {ns:List AI} {l:List Int} {k:Nat} {h:GH}
theorem Ho(ns:List AI)(l:List Int):(Bp ns l).length=l.length:=List.length_map _
theorem UF(hk:k<l.length):Bp ns (l.take (k+1))=Bp ns (l.take k)++[ns.getD (l.getD k 0).toNat AI.z]:=by
 unfold Bp;rw [D4 0 hk,List.map_append];rfl
theorem Vo(h:¬(k:Int)<l.length):Bp ns (l.take k)=Bp ns l:=by rw [List.take_of_length_le aA]
theorem Kr(hk:k<l.length):(Bp ns l).getD k AI.z=ns.getD (l.getD k 0).toNat AI.z:=by
 unfold Bp;rw [Dz AI.z (by simpa using hk),List.getElem_map,Dz 0 hk]
theorem AU.alone(x:AU h ns)(l:List Int):AU h (Bp ns l):=λq=>by
 by_cases hq:q<l.length
 ·rw [Kr hq];exact x _
 ·rw [CE (by rw [Ho];omega)];exact AU.nil h 0
theorem Gu(mask:Int)(n:Nat):Bp ns (Aq mask n)=DO ns mask n:=by
 unfold Bp Aq DO;rw [List.map_map];exact List.map_congr_left λi _=>rfl
theorem Vp(ns:List AI):Bp ns (DS ns.length)=ns:=by
 apply List.ext_getElem
 ·rw [Ho,DT]
 ·intro i h1 h2
  have:=Kr (ns:=ns) (l:=DS ns.length) (k:=i) (by rw [DT];exact h2)
  rw [Kp _ _ h2,Dz AI.z h1,Int.toNat_natCast,Dz AI.z h2] at this;exact this
end
section
variable {bag kinds:Int} {ps:List ByteArray} {ws:List AF} {js:List AN} {ns:List AI}
theorem BV.alone(b:BV bag kinds ps ws js ns){l:List Int}(h:∀i,i<l.length->0<=l.getD i 0/\l.getD i 0<ns.length)(hl:l.length<=4):BV bag kinds ps ws js (Bp ns l):=
 { b with
  nlen:=by rw [Ho];exact hl
  note:=λk hk=>by
   rw [Ho] at hk
   have:=b.note (l.getD k 0).toNat (by have:=h k hk;omega)
   rw [Lf (Kr hk)];exact this }
theorem bell_of(b:BV bag kinds ps ws js ns):BQ bag kinds ps ws js ns=0:=by
 refine Bu (k:=5) (λj hj=>?_) (Nat.le_refl _)
 match j with
 | 0=>exact if_neg (by have:=b.hbag;have:=b.hkin;omega)
 | 1=>exact (if_neg (by have:=b.plen;omega)).trans (Bu b.place (Nat.le_refl _))
 | 2=>exact (LV (by have:=b.wlen;omega) b.way (Nat.le_refl _)).trans b.led
 | 3=>exact (if_neg (by have:=b.jlen;omega)).trans (Bu b.job (Nat.le_refl _))
 | 4=>exact (if_neg (by have:=b.nlen;omega)).trans (Bu b.note (Nat.le_refl _))
 | j+5=>omega
theorem GV(hz:BQ bag kinds ps ws js ns=0){l:List Int}(h:∀i,i<l.length->0<=l.getD i 0/\l.getD i 0<ns.length)(hl:l.length<=4):BQ bag kinds ps ws js (Bp ns l)=0:=bell_of ((Cl hz).alone h hl)
variable (ws js ns) in
def JP(q:Nat):Prop:=(AD ws js (DO ns (q:Int) ns.length)).length=0
theorem RQ(hn:ns.length<=4):∀q,q<=2 ^ ns.length->((BU ws js ns q).1=false->∀m,m<q->¬JP ws js ns m)/\((BU ws js ns q).1=true->∃m,m<q/\(BU ws js ns q).2=Aq (m:Int) ns.length/\JP ws js ns m/\∀m',m'<q->JP ws js ns m'->Lq (Aq (m:Int) ns.length)<=Lq (Aq (m':Int) ns.length))
 | 0,_=>⟨λ_ m hm=>absurd hm (Nat.not_lt_zero _),λh=>(by cases h)⟩
 | q+1,hq=>by
  obtain ⟨i1,i2⟩:=RQ hn q aA;cases hb:(BU ws js ns q).1 with
  | false=>
   have hw:EF (BU ws js ns q) (Aq (q:Int) ns.length)=false:=Q9 hb;by_cases e:JP ws js ns q
   ·rw [Hz hw (by unfold JP at e;omega)];exact ⟨λh=>(by cases h),λ_=>⟨q,Nat.lt_succ_self _,rfl,e,λm' hm' e'=>by
     rcases Nat.lt_or_ge m' q with z | z
     ·exact absurd e' (i1 hb m' z)
     ·rw [show m'=q by omega];exact Nat.le_refl _⟩⟩
   ·rw [H0 hw (by unfold JP at e;omega),hb];exact ⟨λ_ m hm=>by
     rcases Nat.lt_or_ge m q with z | z
     ·exact i1 hb m z
     ·rw [show m=q by omega];exact e,λh=>(by cases h)⟩
  | true=>
   obtain ⟨m,h1,h2,h3,h4⟩:=i2 hb;have hx:BU ws js ns q=(true,Aq (m:Int) ns.length):=Prod.ext hb h2;have hw:EF (BU ws js ns q) (Aq (q:Int) ns.length)=decide (Lq (Aq (m:Int) ns.length)<Lq (Aq (q:Int) ns.length)):=by rw [hx];exact Vn hn aA aA
   by_cases c:Lq (Aq (m:Int) ns.length)<Lq (Aq (q:Int) ns.length)
   ·rw [decide_eq_true c] at hw;rw [Gr hw,hb];exact ⟨λh=>(by cases h),λ_=>⟨m,aA,h2,h3,λm' hm' e'=>by
     rcases Nat.lt_or_ge m' q with z | z
     ·exact h4 m' z e'
     ·rw [show m'=q by omega];omega⟩⟩
   ·rw [decide_eq_false c] at hw;by_cases e:JP ws js ns q
    ·rw [Hz hw (by unfold JP at e;omega)];exact ⟨λh=>(by cases h),λ_=>⟨q,Nat.lt_succ_self _,rfl,e,λm' hm' e'=>by
      rcases Nat.lt_or_ge m' q with z | z
      ·have:=h4 m' z e';omega
      ·rw [show m'=q by omega];exact Nat.le_refl _⟩⟩
    ·rw [H0 hw (by unfold JP at e;omega),hb];exact ⟨λh=>(by cases h),λ_=>⟨m,aA,h2,h3,λm' hm' e'=>by
      rcases Nat.lt_or_ge m' q with z | z
      ·exact h4 m' z e'
      ·rw [show m'=q by omega] at e';exact absurd e' e⟩⟩
theorem KX{ag:AG->Bool}(ha:∀p,ag p=true)(hs:∀i,CJ ws js i<=FL ws js i):∀(f i:Nat)(p:AG),CX ag ws js f i p≠[]
 | 0,i,p=>by show [p]≠[];simp
 | f+1,i,p=>λh=>by
  unfold CX at h;have hm:CJ ws js i ∈ Hv (CJ ws js i) (FL ws js i):=QU.2 ⟨Int.le_refl _,hs i⟩
  have:=List.flatMap_eq_nil_iff.1 h _ hm
  split at this
  ·rename_i c;simp [ha] at c
  ·exact KX ha hs f (i+1) _ this
theorem span_up(b:BV bag kinds ps ws js ns)(i:Nat):CJ ws js i<=FL ws js i:=by
 unfold CJ FL;by_cases h:i<ws.length
 ·rw [if_pos h,if_pos h];exact (Oo b.way i h).time.2.1
 ·rw [if_neg h,if_neg h];by_cases h2:i-ws.length<js.length
  ·exact (LW (b.job _ h2)).time.2.1
  ·rw [CE aA];exact Int.le_refl _
theorem Yr(b:BV bag kinds ps ws js ns):0<(AD ws js []).length:=by
 unfold AD;rw [if_pos (.inr rfl)];exact List.length_pos_iff.2 (KX (λ_=>rfl) (span_up b) _ _ _)
theorem Lt(hz:BQ bag kinds ps ws js ns=0):Kk bag kinds ps ws js ns=((AD ws js ns).length:Int):=if_pos hz
theorem Vq{bits:Int}(hz:BQ bag kinds ps ws js ns=0)(h:¬(0:Int)<(AD ws js ns).length)(hb:0<=bits/\bits<=255) :
  0<(Au bag kinds ps ws js ns).length/\(Au bag kinds ps ws js ns).length<=4/\(∀i,i<(Au bag kinds ps ws js ns).length->0<=(Au bag kinds ps ws js ns).getD i 0/\(Au bag kinds ps ws js ns).getD i 0<ns.length)/\
  (∀i,i<(Au bag kinds ps ws js ns).length->(0<=(Au bag kinds ps ws js ns).getD i 0/\(Au bag kinds ps ws js ns).getD i 0<=(ns.length:Int)-1)/\(0<i->(Au bag kinds ps ws js ns).getD ((i:Int)-1).toNat 0<(Au bag kinds ps ws js ns).getD i 0))/\
  (AD ws js (Bp ns (Au bag kinds ps ws js ns))).length=0/\
  (∀k,k<(Au bag kinds ps ws js ns).length->((Au bag kinds ps ws js ns).eraseIdx k).length<=4/\(∀i,i<((Au bag kinds ps ws js ns).eraseIdx k).length->0<=((Au bag kinds ps ws js ns).eraseIdx k).getD i 0/\((Au bag kinds ps ws js ns).eraseIdx k).getD i 0<ns.length)/\0<(AD ws js (Bp ns ((Au bag kinds ps ws js ns).eraseIdx k))).length)/\
  (Aq bits ns.length).length<=4/\(∀i,i<(Aq bits ns.length).length->0<=(Aq bits ns.length).getD i 0/\(Aq bits ns.length).getD i 0<ns.length)/\
  (¬0<(AD ws js (Bp ns (Aq bits ns.length))).length->FC (Aq bits ns.length) (Au bag kinds ps ws js ns)=false):=by
 have bk:=Cl hz;have hn:=bk.nlen;have p2:0<2 ^ ns.length:=Nat.two_pow_pos _;have inv:=RQ (ws:=ws) (js:=js) hn (2 ^ ns.length) (Nat.le_refl _);have htop:(BU ws js ns (2 ^ ns.length)).1=true:=by
  cases e:(BU ws js ns (2 ^ ns.length)).1 with
  | true=>rfl
  | false=>
   refine absurd ?_ (inv.1 e (2 ^ ns.length-1) aA);unfold JP;rw [<-Gu,Yq _ hn,Vp];omega
 obtain ⟨m,h1,h2,h3,h4⟩:=inv.2 htop;have eL:Au bag kinds ps ws js ns=Aq (m:Int) ns.length:=by
  unfold Au;rw [if_neg (λe=>e hz),if_neg h];exact h2
 rw [eL];have rng:=λi hi=>Ls (n:=ns.length) (x:=m) (i:=i) hn h1 hi;refine ⟨?_,Nat.le_trans (HR _ _) hn,λi hi=>⟨(rng i hi).1,(rng i hi).2.1⟩,λi hi=>⟨⟨(rng i hi).1,by have:=(rng i hi).2.1;omega⟩,λq=>?_⟩,?_,λk hk=>?_,Nat.le_trans (HR _ _) hn,?_,λq=>?_⟩
 ·rcases Nat.eq_zero_or_pos (Aq (m:Int) ns.length).length with e | e
  ·unfold JP at h3;rw [<-Gu,List.eq_nil_of_length_eq_zero e] at h3
   have:=Yr bk
   have h3':(AD ws js []).length=0:=h3;omega
  ·exact e
 ·have:=(rng i hi).2.2 q
  rw [show ((i:Int)-1).toNat=i-1 by omega];exact this
 ·rw [Gu];exact h3
 ·obtain ⟨y,y1,y2,y3⟩:=Vm hn h1 hk;rw [<-y2];have rn:=λi hi=>Ls (n:=ns.length) (x:=y) (i:=i) hn y1 hi;refine ⟨Nat.le_trans (HR _ _) hn,λi hi=>⟨(rn i hi).1,(rn i hi).2.1⟩,?_⟩;rw [Gu];rcases Nat.eq_zero_or_pos (AD ws js (DO ns (y:Int) ns.length)).length with e | e
  ·have a:=h4 y y1 e;rw [UE hn y1 h1] at y3
   have:=of_decide_eq_true y3
   omega
  ·exact e
 ·obtain ⟨y,y1,y2⟩:=RP (n:=ns.length) hn hb;rw [<-y2];exact λi hi=>⟨(Ls hn y1 hi).1,(Ls hn y1 hi).2.1⟩
 ·obtain ⟨y,y1,y2⟩:=RP (n:=ns.length) hn hb;rw [<-y2] at q ⊢;rw [UE hn y1 h1];rw [Gu] at q;have a:=h4 y y1 (by unfold JP;omega);exact decide_eq_false aA
theorem Ys(hz:BQ bag kinds ps ws js ns=0)(i:Nat)(hi:i<(Au bag kinds ps ws js ns).length):(0<=(Au bag kinds ps ws js ns).getD i 0/\(Au bag kinds ps ws js ns).getD i 0<=(ns.length:Int)-1)/\(0<i->(Au bag kinds ps ws js ns).getD ((i:Int)-1).toNat 0<(Au bag kinds ps ws js ns).getD i 0):=by
 by_cases h:(0:Int)<(AD ws js ns).length
 ·rw [I2 h] at hi;cases hi
 ·exact (Vq (bits:=0) hz h aA).2.2.2.1 i hi
theorem clash_q(hz:BQ bag kinds ps ws js ns=0):((decide (((AD ws js ns).length:Int)=0)) !=(decide (0<((Au bag kinds ps ws js ns).length:Int))))=false:=by
 by_cases h:(0:Int)<(AD ws js ns).length
 ·rw [I2 h,decide_eq_false aA];rfl
 ·have:=(Vq (bits:=0) hz h aA).1
  rw [decide_eq_true aA,decide_eq_true aA];rfl
end
end Go.Ns
namespace Go.Ns
open Go.Conc
universe u
theorem Z{V:Sort u}{a:V}:a=a:=rfl
theorem Lr{h:GH}:GH.Le h h:=GH.Le.refl h
theorem Ln{h h':GH}(l:h.Le h'){r:Nat}(hr:h' r=none):h r=none:=l.nothing hr
theorem Ci{h:GH}{b r:Nat}{p:Bool}{o:Obj}(hb:h b=some (p,o))(hr:h r=none):b≠r:=GH.ne_of hb hr
theorem Nb{a b:Nat}(h:Nat.ble a b=true):a<=b:=Nat.le_of_ble_eq_true h
theorem Dn{p:Prop}[Decidable p](h:¬¬p):p:=Decidable.not_not.1 h
theorem Et{V:Sort u}{a b c:V}(x:a=b)(y:b=c):a=c:=x.trans y
theorem Kl{h0 h:GH}(k:KeepD (λb=>h0 b=none) h0 h):h0.Le h:=k.leOf
theorem Bx{h:GH}{b:Nat}{p:Bool}{c:Array Value}{t:TypeId}{f:Nat×Nat}(hb:h b=some (p,.cells c t f)){n:Nat}(hn:c.size=n):AY h b 0 n c:=AY.box hb hn
abbrev lE(v:Value):Law2:=λ_ u _=>u=v
abbrev lF(v:Value):QN:=λu _=>u=v
abbrev zP:Array Value:=#[.int .i64 0,.int .i64 0,.slice none 0 0,.slice none 0 0,.slice none 0 0,.slice none 0 0,.map none]
section
variable {P:Program} {E:GF P} {O:Nat->Value} {ds:List Deferred} {h:GH} {Q:Post} {T:(Nat->Value)->List Deferred->GH->Prop}
variable {dst:Option Nat} {ty:TypeId} {pos:String} {af:Array Edge} {ops:Array Oper} {o:Oper} {l:List Oper}
theorem Sq{x y:Code}(a:Tr E x O ds h (λe σ' ds' h'=>match e with | .normal=>Tr E y σ' ds' h' Q | e=>Q e σ' ds' h')):Tr E (.seq x y) O ds h Q:=tr_seq a
theorem Rg{id:Nat}{l:List Oper}(a:DD E l.toArray l O ds h Q):Tr E (.region id l.toArray false) O ds h Q:=Xi a
theorem Nl(q:Q .normal O ds h):DD E ops [] O ds h Q:=trL_nil q
abbrev Rt:=@tr_ret
abbrev Bk:=@tr_block
abbrev Sk:=@tr_skip
abbrev Xt:=@tr_exit
def plainB(N:Nat)(o:Oper):Bool:=o.guard.isNone && !Cy o.op && Cw o.dst N
theorem Pl(hp:plainB E.N o=true)(x:BS E o O ds h λσ' ds' h'=>DD E ops l σ' ds' h' Q):DD E ops (o ::l) O ds h Q:=by
 simp only [plainB,Bool.and_eq_true,Option.isNone_iff_eq_none,Bool.not_eq_true'] at hp;exact GJ hp.1.1 hp.1.2 hp.2 x
theorem Mv{x:Operand}(v:Value)(hp:Cw dst E.N=true)(hx:AO O x=v)(k:DD E ops l (putS O dst v) ds h Q):DD E ops (⟨dst,.move x,ty,pos,af,none⟩ ::l) O ds h Q:=GJ rfl rfl hp (Ew hx k)
theorem As{x:Operand}(v:Value)(hp:Cw dst E.N=true)(hx:AO O x=v)(k:DD E ops l (putS O dst v) ds h Q):DD E ops (⟨dst,.assign x,ty,pos,af,none⟩ ::l) O ds h Q:=GJ rfl rfl hp (J4 hx k)
theorem Ld{t:TypeId}{x:Operand}{b off:Nat}(v:Value)(hp:Cw dst E.N=true)(hx:AO O x=.pointer (some ⟨b,off,none⟩))(hr:Rd P h t b off v)(k:DD E ops l (putS O dst v) ds h Q):DD E ops (⟨dst,.load t x,ty,pos,af,none⟩ ::l) O ds h Q:=
 GJ rfl rfl hp (Ck hx hr k)
theorem Fa{s:TypeId}{x:Operand}{f o b off:Nat}(hf:Dj P s f=some o)(hp:Cw dst E.N=true)(hx:AO O x=.pointer (some ⟨b,off,none⟩))(k:DD E ops l (putS O dst (.pointer (some ⟨b,off+o,none⟩))) ds h Q) :
  DD E ops (⟨dst,.fieldAddr s x f,ty,pos,af,none⟩ ::l) O ds h Q:=GJ rfl rfl hp (AM hf hx k)
theorem Pk{c a b:Operand}(t:Bool)(v:Value)(hp:Cw dst E.N=true)(hc:AO O c=.bool t)(hv:(if t then AO O a else AO O b)=v)(k:DD E ops l (putS O dst v) ds h Q):DD E ops (⟨dst,.pick c a b,ty,pos,af,none⟩ ::l) O ds h Q:=
 GJ rfl rfl hp (At hc hv k)
theorem Ad{xt yt:TypeId}{x y:Operand}(a b:Int)(hp:Cw dst E.N=true)(hx:AO O x=.int .i64 a)(hy:AO O y=.int .i64 b)(hr: -9223372036854775808<=a+b/\a+b<=9223372036854775807)(k:DD E ops l (putS O dst (.int .i64 (a+b))) ds h Q) :
  DD E ops (⟨dst,.binOp .add xt x y yt,ty,pos,af,none⟩ ::l) O ds h Q:=GJ rfl rfl hp (DP hx hy hr k)
def skipB(N:Nat)(ops:Array Oper)(o:Oper)(j d:Nat)(is:Bool):Bool:=(match o.guard with
 | some (i,w)=>i==j && w !=is
 | none=>false) && (match ops[j]? with
 | some oj=>(match oj.dst with
  | some e=>e==d
  | none=>false)
 | none=>false) && Nat.blt d N && Cw o.dst N
theorem Gs(j d:Nat){is:Bool}(hv:O d=.bool is)(hs:skipB E.N ops o j d is=true)(x:DD E ops l (putS O o.dst undef) ds h Q):DD E ops (o ::l) O ds h Q:=by
 simp only [skipB,Bool.and_eq_true] at hs;obtain ⟨⟨⟨h1,h2⟩,h3⟩,h4⟩:=hs;cases hg:o.guard with
 | none=>rw [hg] at h1;cases h1
 | some q=>
  obtain ⟨i,w⟩:=q;rw [hg] at h1;simp only [Bool.and_eq_true,beq_iff_eq,bne_iff_ne,ne_eq] at h1;obtain ⟨rfl,hne⟩:=h1;cases hj:ops[i]? with
  | none=>rw [hj] at h2;cases h2
  | some oj=>
   cases hd:oj.dst with
   | none=>simp [hj,hd] at h2
   | some e=>
    obtain rfl:e=d:=by simpa [hj,hd] using h2
    exact N8 hg hj hd hv h3 hne h4 x
def goB(N:Nat)(ops:Array Oper)(o:Oper)(j d:Nat)(is:Bool):Bool:=(match o.guard with
 | some (i,w)=>i==j && w==is
 | none=>false) && (match ops[j]? with
 | some oj=>(match oj.dst with
  | some e=>e==d
  | none=>false)
 | none=>false) && Nat.blt d N && !Cy o.op && Cw o.dst N
theorem Gg(j d:Nat){is:Bool}(hv:O d=.bool is)(hs:goB E.N ops o j d is=true)(x:BS E o O ds h λσ' ds' h'=>DD E ops l σ' ds' h' Q):DD E ops (o ::l) O ds h Q:=by
 simp only [goB,Bool.and_eq_true,Bool.not_eq_true'] at hs;obtain ⟨⟨⟨⟨h1,h2⟩,h3⟩,h5⟩,h4⟩:=hs;cases hg:o.guard with
 | none=>rw [hg] at h1;cases h1
 | some q=>
  obtain ⟨i,w⟩:=q;rw [hg] at h1;simp only [Bool.and_eq_true,beq_iff_eq] at h1;obtain ⟨rfl,rfl⟩:=h1;cases hj:ops[i]? with
  | none=>rw [hj] at h2;cases h2
  | some oj=>
   cases hd:oj.dst with
   | none=>simp [hj,hd] at h2
   | some e=>
    obtain rfl:e=d:=by simpa [hj,hd] using h2
    exact trL_opg hg hj hd hv h3 (.inr h5) h4 x
end
section
variable {S:Nat->Prop} {Pre:Nat->GH->Prop} {Φ:List Law2} {cl:List Nat} {k d:Nat} {h h':GH} {O:Nat->Value} {ds:List Deferred} {v:Value}
theorem fL{Φ:List QN}(p:LI Φ k v h):ds=ds/\GH.Le h h/\∃w,putS O (some d) v=putS O (some d) w/\LI Φ k w h:=⟨rfl,GH.Le.refl _,_,rfl,p⟩
theorem K1{R:GH->GH->Prop}{Φ:List QN}{a:Value}(x:Fs R Φ):Fs R (lF a ::Φ):=⟨λ_ _ _ _ y=>y,x⟩
theorem K2{R:GH->GH->Prop}{Φ:List QN}{a b:Value}(x:Fs R Φ):Fs R (lF a ::lF b ::Φ):=K1 (K1 x)
theorem K4{R:GH->GH->Prop}{Φ:List QN}{a b c d:Value}(x:Fs R Φ):Fs R (lF a ::lF b ::lF c ::lF d ::Φ):=K2 (K2 x)
theorem K8{R:GH->GH->Prop}{Φ:List QN}{a b c d a' b' c' d':Value}(x:Fs R Φ):Fs R (lF a ::lF b ::lF c ::lF d ::lF a' ::lF b' ::lF c' ::lF d' ::Φ):=K4 (K4 x)
end
end Go.Ns
namespace Go.Ns
open Go.Conc
section
variable {P:Program} {E:GF P} {O:Nat->Value} {ds:List Deferred} {h:GH} {Q:Post} {T:(Nat->Value)->List Deferred->GH->Prop}
variable {dst:Option Nat} {ty:TypeId} {pos:String} {af:Array Edge} {ops:Array Oper} {o:Oper} {l:List Oper} {gd:Option (Nat×Bool)}
theorem Mz{x:Operand}(v:Value)(e:(Cw dst E.N,AO O x)=(true,v))(k:DD E ops l (putS O dst v) ds h Q):DD E ops (⟨dst,.move x,ty,pos,af,none⟩ ::l) O ds h Q:=Mv v (congrArg Prod.fst e) (congrArg Prod.snd e) k
theorem Az{x:Operand}(v:Value)(e:(Cw dst E.N,AO O x)=(true,v))(k:DD E ops l (putS O dst v) ds h Q):DD E ops (⟨dst,.assign x,ty,pos,af,none⟩ ::l) O ds h Q:=As v (congrArg Prod.fst e) (congrArg Prod.snd e) k
theorem Lz{t:TypeId}{x:Operand}{b off:Nat}(v:Value)(e:(Cw dst E.N,AO O x)=(true,.pointer (some ⟨b,off,none⟩)))(hr:Rd P h t b off v)(k:DD E ops l (putS O dst v) ds h Q):DD E ops (⟨dst,.load t x,ty,pos,af,none⟩ ::l) O ds h Q:=
 Ld v (congrArg Prod.fst e) (congrArg Prod.snd e) hr k
theorem Fz{s:TypeId}{x:Operand}{f o b off:Nat}(hf:Dj P s f=some o)(e:(Cw dst E.N,AO O x)=(true,.pointer (some ⟨b,off,none⟩)))(k:DD E ops l (putS O dst (.pointer (some ⟨b,off+o,none⟩))) ds h Q) :
  DD E ops (⟨dst,.fieldAddr s x f,ty,pos,af,none⟩ ::l) O ds h Q:=Fa hf (congrArg Prod.fst e) (congrArg Prod.snd e) k
theorem Pz{c a b:Operand}(t:Bool)(v:Value)(e:(Cw dst E.N,AO O c,(if t then AO O a else AO O b))=(true,.bool t,v))(k:DD E ops l (putS O dst v) ds h Q):DD E ops (⟨dst,.pick c a b,ty,pos,af,none⟩ ::l) O ds h Q:=
 Pk t v (congrArg Prod.fst e) (congrArg (λq=>q.2.1) e) (congrArg (λq=>q.2.2) e) k
theorem Yd{xt yt:TypeId}{x y:Operand}{a b:Int}(e:(Cw dst E.N,AO O x,AO O y)=(true,.int .i64 a,.int .i64 b))(hr: -9223372036854775808<=a+b/\a+b<=9223372036854775807)(k:DD E ops l (putS O dst (.int .i64 (a+b))) ds h Q) :
  DD E ops (⟨dst,.binOp .add xt x y yt,ty,pos,af,none⟩ ::l) O ds h Q:=Ad a b (congrArg Prod.fst e) (congrArg (λq=>q.2.1) e) (congrArg (λq=>q.2.2) e) hr k
theorem Mo{x:Operand}(v:Value)(hx:AO O x=v)(k:T (putS O dst v) ds h):BS E ⟨dst,.move x,ty,pos,af,gd⟩ O ds h T:=Ew hx k
theorem Lo{t:TypeId}{x:Operand}{b off:Nat}(v:Value)(hx:AO O x=.pointer (some ⟨b,off,none⟩))(hr:Rd P h t b off v)(k:T (putS O dst v) ds h):BS E ⟨dst,.load t x,ty,pos,af,gd⟩ O ds h T:=Ck hx hr k
theorem Ex{x:Operand}{n:Nat}{vs:Array Value}(v:Value)(e:(AO O x,vs[n]?)=(.tuple vs,some v))(k:T (putS O dst v) ds h):BS E ⟨dst,.extract x n,ty,pos,af,gd⟩ O ds h T:=Us (congrArg Prod.fst e) (congrArg Prod.snd e) k
theorem Bo{t:TypeId}{x:Operand}{v:Value}(c:Array Value)(hx:AO O x=v)(hc:v.cells=c)
  (k:∀r h',h r=none->h.Le h'->h' r=some (true,.cells c t (0,0))->(∀b,b≠r->h' b=h b)->T (putS O dst (.pointer (some ⟨r,0,none⟩))) ds h'):BS E ⟨dst,.box t x,ty,pos,af,gd⟩ O ds h T:=R5 hx hc k
theorem So{t:TypeId}{a x:Operand}{b off n:Nat}{g:Bool}{c:Array Value}{et:TypeId}(v:Value)(c':Array Value)(ht:Cb P t=some (g,n))(e:(AO O a,AO O x)=(.pointer (some ⟨b,off,none⟩),v))(hb:h b=some (true,.cells c et (0,0)))
  (e2:(v.cells.size,Value.fine v)=(n,true)) (hn:off+n<=c.size) (hc:By c off v.cells.toList=c') (k:∀h',h' b=some (true,.cells c' et (0,0))->(∀x,x≠b->h' x=h x)->T (putS O dst undef) ds h') :
  BS E ⟨dst,.store t a x,ty,pos,af,gd⟩ O ds h T:=Af ht (congrArg Prod.fst e) (congrArg Prod.snd e) hb (congrArg Prod.fst e2) (congrArg Prod.snd e2) hn hc k
theorem Ot{fn:Func}{R:Value->GH->Prop}{t:Tmp}(v:Value)(e:(fn.results,O t)=(#[.tmp t],v))(x:R v h):GI P fn O R [] h:=Hs (congrArg Prod.fst e) (congrArg Prod.snd e) x
theorem Ou{fn:Func}{R:Value->GH->Prop}{t u:Tmp}(v v':Value)(e:(fn.results,O t,O u)=(#[.tmp t,.tmp u],v,v'))(x:R (.tuple #[v,v']) h):GI P fn O R [] h:=outs2 (congrArg Prod.fst e) (congrArg (λq=>q.2.1) e) (congrArg (λq=>q.2.2) e) x
theorem Sr{id:Nat}{y:Code}(a:DD E l.toArray l O ds h (λe σ' ds' h'=>match e with | .normal=>Tr E y σ' ds' h' Q | e=>Q e σ' ds' h')):Tr E (.seq (.region id l.toArray false) y) O ds h Q:=Sq (Rg a)
theorem S2{id:Nat}{y z:Code}(a:DD E l.toArray l O ds h (λe σ' ds' h'=>match e with | .normal=>Tr E y σ' ds' h' (λe σ' ds' h'=>match e with | .normal=>Tr E z σ' ds' h' Q | e=>Q e σ' ds' h') | e=>(λe σ' ds' h'=>match e with | .normal=>Tr E z σ' ds' h' Q | e=>Q e σ' ds' h') e σ' ds' h')) :
  Tr E (.seq (.seq (.region id l.toArray false) y) z) O ds h Q:=Sq (Sq (Rg a))
theorem Zr{V:Type}{a b:V}:a=b\/a=a:=.inr rfl
theorem M2{x x':Operand}{dst':Option Nat}{ty':TypeId}{pos':String}{af':Array Edge}(v v':Value)(e:(Cw dst E.N,AO O x,Cw dst' E.N,AO (putS O dst v) x')=(true,v,true,v'))(k:DD E ops l (putS (putS O dst v) dst' v') ds h Q):DD E ops (⟨dst,.move x,ty,pos,af,none⟩ ::⟨dst',.move x',ty',pos',af',none⟩ ::l) O ds h Q:=
 Mv v (congrArg Prod.fst e) (congrArg (λq=>q.2.1) e) (Mv v' (congrArg (λq=>q.2.2.1) e) (congrArg (λq=>q.2.2.2) e) k)
theorem A2{x x':Operand}{dst':Option Nat}{ty':TypeId}{pos':String}{af':Array Edge}(v v':Value)(e:(Cw dst E.N,AO O x,Cw dst' E.N,AO (putS O dst v) x')=(true,v,true,v'))(k:DD E ops l (putS (putS O dst v) dst' v') ds h Q):DD E ops (⟨dst,.assign x,ty,pos,af,none⟩ ::⟨dst',.assign x',ty',pos',af',none⟩ ::l) O ds h Q:=
 As v (congrArg Prod.fst e) (congrArg (λq=>q.2.1) e) (As v' (congrArg (λq=>q.2.2.1) e) (congrArg (λq=>q.2.2.2) e) k)
theorem Ct{W:Wk P}{f:FuncId}{fn:Func}{c:Code}{args:Array Value}{R:Value->GH->Prop}(hf:P.funcs[f]? =some fn)(e:(fn.body,Nat.ble args.size fn.ntmps)=(some c,true))
  (x:Tr ⟨W,f,none,fn.ntmps⟩ c (λi=>args.getD i undef) [] h (λe O ds h'=>(e=.normal\/e=.ret)/\GI P fn O R ds h')):AW W f args h R:=Ur hf (congrArg Prod.fst e) (Nat.le_of_ble_eq_true (congrArg Prod.snd e)) x
end
section
variable {P:Program} {E:GF P} {l:List Oper} {n:Nat} {fl:Bool} {hs:GH} {ds:List Deferred} {Lw:Nat->Value->GH->Prop} {F:(Nat->Value)->GH->Prop} {π:List Nat} {O:Nat->Value} {h:GH} {m k g d:Nat} {dst:Option Nat} {op:Op} {ty:TypeId} {pos:String} {af:Array Edge} {v:Value} {w is:Bool} {og:Oper}
theorem Rz(e:(KP m,l[k]?)=((.r,k),some ⟨dst,op,ty,pos,af,none⟩))(x:SA E ⟨dst,op,ty,pos,af,none⟩ O ds h v)(y:TD E l n fl hs ds Lw F (dK π) (putS O dst v) h):TD E l n fl hs ds Lw F (dK (m ::π)) O h:=tR (congrArg Prod.fst e) (congrArg Prod.snd e) x y
theorem Rm{x:Operand}(v:Value)(e:(KP m,l[k]?,AO O x)=((.r,k),some ⟨dst,.move x,ty,pos,af,none⟩,v))(y:TD E l n fl hs ds Lw F (dK π) (putS O dst v) h):TD E l n fl hs ds Lw F (dK (m ::π)) O h:=
 tR (congrArg Prod.fst e) (congrArg (λq=>q.2.1) e) (Ew (congrArg (λq=>q.2.2) e) vz) y
theorem Rl{t:TypeId}{x:Operand}{b off:Nat}(v:Value)(e:(KP m,l[k]?,AO O x)=((.r,k),some ⟨dst,.load t x,ty,pos,af,none⟩,.pointer (some ⟨b,off,none⟩)))(hr:Rd P h t b off v)(y:TD E l n fl hs ds Lw F (dK π) (putS O dst v) h):TD E l n fl hs ds Lw F (dK (m ::π)) O h:=
 tR (congrArg Prod.fst e) (congrArg (λq=>q.2.1) e) (Ck (congrArg (λq=>q.2.2) e) hr vz) y
theorem Py(e:(KP m,l[k]?)=((.p,k),some ⟨dst,op,ty,pos,af,none⟩))(x:∀hx,SA E ⟨dst,op,ty,pos,af,none⟩ O ds hx v)(y:TD E l n fl hs ds Lw F (dK π) (putS O dst v) h):TD E l n fl hs ds Lw F (dK (m ::π)) O h:=tP (congrArg Prod.fst e) (congrArg Prod.snd e) x y
theorem Ry(e:(KP m,l[k]?,l[g]?,og.dst)=((.r,k),some ⟨dst,op,ty,pos,af,some (g,w)⟩,some og,some d))(h3:O d=.bool w)(x:SA E ⟨dst,op,ty,pos,af,some (g,w)⟩ O ds h v)
  (y:TD E l n fl hs ds Lw F (dK π) (putS O dst v) h):TD E l n fl hs ds Lw F (dK (m ::π)) O h:=tRg (congrArg Prod.fst e) (congrArg (λq=>q.2.1) e) (congrArg (λq=>q.2.2.1) e) (congrArg (λq=>q.2.2.2) e) h3 x y
theorem Sz{kd:Kd}(e:(KP m,l[k]?,l[g]?,og.dst)=((kd,k),some ⟨dst,op,ty,pos,af,some (g,w)⟩,some og,some d))(h3:O d=.bool is)(hne:(is==w)=false)
  (y:TD E l n fl hs ds Lw F (dK π) (putS O dst undef) h) (hl:(kd !=Kd.l)=true:=by rfl):TD E l n fl hs ds Lw F (dK (m ::π)) O h:=tS (congrArg Prod.fst e) (congrArg (λq=>q.2.1) e) (congrArg (λq=>q.2.2.1) e) (congrArg (λq=>q.2.2.2) e) h3 hne y hl
end
end Go.Ns
namespace Go.Ns
open Go.Conc
abbrev J(x:Int):Value:=.int .i64 x
abbrev Pt(b:Nat):Value:=.pointer (some ⟨b,0,none⟩)
abbrev Sc(b:Nat)(n c:Nat):Value:=.slice (some ⟨b,0,none⟩) n c
abbrev Qc:Array Value:=#[J 0,J 0,.slice none 0 0,.slice none 0 0,.slice none 0 0,.slice none 0 0,.slice none 0 0,.map none]
abbrev Qd(a:List AF)(b:List AN)(c:List AI)(d:Nat):Array Value:=#[J (((AD a b c).getD (((d:Int)-1).toNat) AG.zero).ways 0),J (((AD a b c).getD (((d:Int)-1).toNat) AG.zero).ways 1),J (((AD a b c).getD (((d:Int)-1).toNat) AG.zero).ways 2),J (((AD a b c).getD (((d:Int)-1).toNat) AG.zero).ways 3),J (((AD a b c).getD (((d:Int)-1).toNat) AG.zero).ways 4)]
abbrev Qe(a:List AF)(b:List AN)(c:List AI)(d:Nat):Array Value:=#[J (((AD a b c).getD d AG.zero).ways 0),J (((AD a b c).getD d AG.zero).ways 1),J (((AD a b c).getD d AG.zero).ways 2),J (((AD a b c).getD d AG.zero).ways 3),J (((AD a b c).getD d AG.zero).ways 4)]
abbrev Qf(a:List AF)(b:Nat):Array Value:=#[J ((a.getD b AF.z).a),J ((a.getD b AF.z).b),J ((a.getD b AF.z).low),J ((a.getD b AF.z).high)]
abbrev Qg(a:ByteArray)(b:Nat):=decide (¬(((97<=((bytesOf a).getD b 0))/\(((bytesOf a).getD b 0)<=122))\/(((0<(b:Int))/\(48<=((bytesOf a).getD b 0)))/\(((bytesOf a).getD b 0)<=57))))
abbrev Qh(a:Int):=KH (KH a (FD a 13)) ((KH a (FD a 13)) / 128)
abbrev Qi:Value:=.slice none 0 0
abbrev Qj(a:List AI)(b:Nat):Array Value:=#[(a.getD b AI.z).wv,J ((a.getD b AI.z).low),J ((a.getD b AI.z).high)]
abbrev Qk(a:ByteArray)(b:Nat):=(bytesOf a).getD b 0
abbrev Ql(a:List AN)(b:Nat):=decide ((¬(((0<=((a.getD b AN.z).low)/\((a.getD b AN.z).low)<=((a.getD b AN.z).high))/\((a.getD b AN.z).high)<=30)/\((a.getD b AN.z).high)-((a.getD b AN.z).low)<2))\/(¬(0<=((a.getD b AN.z).due)/\((a.getD b AN.z).due)<=200)))
abbrev Qm(a:List AF)(b:Nat):=(a.getD b AF.z).b
abbrev Qn(a:List AN)(b:Nat):Array Value:=#[J ((a.getD b AN.z).place),J ((a.getD b AN.z).low),J ((a.getD b AN.z).high),J ((a.getD b AN.z).due),(a.getD b AN.z).pv]
abbrev Qo(a:List AG)(b:Nat):=(a.drop (1)).getD b AG.zero
abbrev Qp(a:List Value)(b:Array Int)(c:Nat)(d:Nat):=Bm a ((b.setIfInBounds c (b[d]!)).setIfInBounds d (b[c]!))
abbrev Qq(a:Nat)(b:Array Int)(c:Nat):=Sc a b.size c
abbrev Qr(a:List AF)(b:Nat):=(a.getD b AF.z).a
abbrev Qs(a:List Int)(b:List Int):=decide (((a.length:Int)<(b.length:Int))\/(((a.length:Int)=(b.length:Int))/\(JY a b<0)))
abbrev Qt(a:List ByteArray)(b:List AF)(c:List AN)(d:List AI):=decide ((((20<(a.length:Int))\/(20<(b.length:Int)))\/(20<(c.length:Int)))\/(20<(d.length:Int)))
abbrev Qu(a:Int)(b:Int):=decide ((¬(0<=a/\a<=9))\/(¬(0<=b/\b<=3)))
abbrev Qv(a:Int)(b:Int):Value:=.bool (decide (a<=b))
abbrev Qw(a:List AF)(b:List AN)(c:List AI)(d:Nat):Value:=.agg (Ac ((AD a b c).getD d AG.zero))
abbrev Qx(a:Int)(b:Int)(c:Int)(d:Int):=decide ((((0<=a)/\(a<=b))/\(b<=c))/\((b-a)<d))
abbrev Qy(a:List ByteArray)(b:List AF)(c:Nat):=J (B1 a.length [(b.getD c AF.z).a,(b.getD c AF.z).b])
abbrev Qz(a:Nat)(b:Nat)(c:Array Int)(d:Nat):=decide (((a:Int)<=(b:Int))/\(¬((c[b]!)<(c[d]!))))
abbrev Xa(a:List AG):=a.getD 0 AG.zero
abbrev Ul(a:List AN)(b:List Int):=Ai a.length b
abbrev Q12(a:List AN)(b:List Int)(c:Int):=(a.getD ((b.getD (c.toNat) 0).toNat) AN.z).due
abbrev NT(a:List Int)(b:Nat):=J (a.getD b 0)
abbrev Xb(a:List ByteArray)(b:Int)(c:Int):=B1 a.length [b,c]
abbrev Q15(a:List AI)(b:Nat):Array Value:=#[J ((a.getD b AI.z).low),J ((a.getD b AI.z).high)]
abbrev Xc(a:List AN)(b:Int):=F2 a.length b
abbrev Q17(a:List AF)(b:Nat):Array Value:=#[J ((a.getD b AF.z).low),J ((a.getD b AF.z).high)]
abbrev Q18(a:List AN)(b:Nat):Array Value:=#[J ((a.getD b AN.z).low),J ((a.getD b AN.z).high)]
abbrev Q19(a:List AI)(b:Nat)(c:Nat):=((a.getD b AI.z).ways).getD c 0
abbrev Q1a(a:Int)(b:Int):=decide (((0<=a/\a<=b)/\b<=30)/\((b-a)<2))
abbrev Q1b(a:List Value)(b:Array Int)(c:Nat)(d:Nat):=Bm a (b.setIfInBounds c (b[d]!))
abbrev Q1c(a:Nat):=J ((2*(a:Int))+1)
abbrev Q1d(a:Nat)(b:Int)(c:Array Int)(d:Nat):=decide (((((2*(a:Int))+1)+1)<b)/\((c[(d+((2*a)+1))]!)<(c[((d+((2*a)+1))+1)]!)))
abbrev Q1e(a:List AN)(b:List Int)(c:Int):=En a.length b c
abbrev Q1f(a:Int)(b:Int)(c:Int):=decide ((a<=b)/\(b<=c))
abbrev Q1g(a:Nat)(b:Nat):Value:=.bool (decide ((a:Int)<=(b:Int)))
abbrev Q1h(a:Nat)(b:Nat):=J ((a:Int)-(b:Int))
abbrev Q1i(a:Int)(b:Int)(c:Int)(d:Int):=decide (((a<=b)/\(b<=c))/\(c<=d))
abbrev Q1j(a:Nat)(b:Nat)(c:Array Int):=decide (((a:Int)<(b:Int))/\((c[b]!)<(c[((b:Int)-1).toNat]!)))
abbrev Q1k(a:List AN)(b:Nat):=(a.getD b AN.z).due
abbrev Q1l(a:List AI)(b:Nat):=(a.getD b AI.z).wv
abbrev Q1m:Array Value:=#[J 0,J 0,.slice none 0 0,.slice none 0 0,.slice none 0 0,.slice none 0 0]
abbrev Q1n(a:Nat):=J (((2*(a:Int))+1)+1)
abbrev Q1o(a:Nat)(b:Array Int)(c:Nat):=decide ((0<(a:Int))/\(¬((b[((a:Int)-1).toNat]!)<(b[c]!))))
abbrev Q1p(a:ByteArray):=decide (((a.size:Int)<1)\/(10<(a.size:Int)))
abbrev Q1q(a:List Int)(b:Nat):=(a.getD b 0).toNat
abbrev Q1r(a:List AN)(b:Nat):=(a.getD b AN.z).high
abbrev Q1s(a:Int):=decide ((97<=a)/\(a<=122))
abbrev UG(a:Int)(b:Int)(c:Value)(d:Value)(e:Value)(f:Value):Array Value:=#[.agg #[J a,J b,c,d,e,f]]
abbrev Q1u(a:Array Int)(b:Nat)(c:Nat):=decide (¬((a[b]!)<(a[c]!)))
abbrev Q1v(a:Nat)(b:List Int)(c:List Int):=decide (((a:Int)<(b.length:Int))/\((a:Int)<(c.length:Int)))
abbrev Q1w(a:Int):=decide (¬(0<=a/\a<=3))
abbrev Q1x(a:List Int)(b:Nat)(c:List Int):=J (Ob (a.getD b 0) (c.getD b 0))
abbrev Q1y(a:List Sl)(b:Nat):=((a.drop (1)).getD b Sl.z).1
abbrev Q1z(a:Int):=decide ((48<=a)/\(a<=57))
abbrev Q20(a:Nat):Value:=.func (.func 90) #[] #[Pt a]
abbrev Q21(a:Nat):Value:=.func (.func 77) #[] #[Pt a]
abbrev Q22(a:List AN)(b:Nat):=(a.getD b AN.z).low
abbrev Q23:=Ac AG.zero
abbrev Q24(a:Nat)(b:Nat):Value:=.func (.func 46) #[] #[Pt a,Pt b]
abbrev Q25(a:Nat)(b:Nat):Value:=.func (.func 82) #[] #[Pt a,Pt b]
abbrev Q26(a:List AN)(b:List Int)(c:Nat):=J (F2 a.length (b.getD c 0))
end Go.Ns
namespace Go.Ns
open Go.Conc Go.Proofs Go.Proofs.Tryz
theorem FN:IU prog 106 106=some (42,1,24):=aB
theorem UH:IU prog 22 22=some (9,1,16):=aB
theorem UI:IU prog 23 23=some (39,4,32):=aB
theorem UJ:IU prog 24 24=some (54,5,56):=aB
theorem H2:IU prog 25 25=some (83,3,40):=aB
theorem Cu:IU prog 42 42=some (3,1,8):=aB
theorem UK:IU prog 45 45=some (31,2,16):=aB
theorem UL:IU prog 89 89=some (101,9,72):=aB
theorem Yt:arrOf prog 136=some (5,false,1):=aB
theorem ES:Mu prog 118=some (4,1):=aB
theorem E5:Mu prog 157=some (4,4):=aB
theorem Ic:Mu prog 98=some (5,1):=aB
theorem EO:Mu prog 99=some (4,1):=aB
theorem fx_bt3:La prog 3=some 8:=aB
theorem fx_bt4:La prog 4=some 1:=aB
theorem KC:AK Tryz.f10=true:=aB
theorem Vr:AK Tryz.f100=true:=aB
theorem Vs:AK Tryz.f101=true:=aB
theorem Ks:AK Tryz.f102=true:=aB
theorem PS:AK Tryz.f103=true:=aB
theorem Vt:AK Tryz.f104=true:=aB
theorem Vu:AK Tryz.f105=true:=aB
theorem PT:AK Tryz.f106=true:=aB
theorem JA:AK Tryz.f107=true:=aB
theorem Kt:AK Tryz.f108=true:=aB
theorem PU:AK Tryz.f109=true:=aB
theorem RR:AK Tryz.f11=true:=aB
theorem PW:AK Tryz.f110=true:=aB
theorem PX:AK Tryz.f111=true:=aB
theorem JB:AK Tryz.f112=true:=aB
theorem PY:AK Tryz.f113=true:=aB
theorem Ku:AK Tryz.f114=true:=aB
theorem Vv:AK Tryz.f115=true:=aB
theorem Vw:AK Tryz.f116=true:=aB
theorem Vx:AK Tryz.f117=true:=aB
theorem Vy:AK Tryz.f118=true:=aB
theorem PZ:AK Tryz.f119=true:=aB
theorem Id:AK Tryz.f12=true:=aB
theorem Vz:AK Tryz.f120=true:=aB
theorem V0:AK Tryz.f121=true:=aB
theorem V1:AK Tryz.f122=true:=aB
theorem V2:AK Tryz.f123=true:=aB
theorem V3:AK Tryz.f124=true:=aB
theorem Cs:AK Tryz.f125=true:=aB
theorem V4:AK Tryz.f126=true:=aB
theorem V5:AK Tryz.f127=true:=aB
theorem V6:AK Tryz.f129=true:=aB
theorem E6:AK Tryz.f13=true:=aB
theorem V7:AK Tryz.f130=true:=aB
theorem Pa:AK Tryz.f131=true:=aB
theorem V8:AK Tryz.f132=true:=aB
theorem V9:AK Tryz.f133=true:=aB
theorem Kv:AK Tryz.f134=true:=aB
theorem Pb:AK Tryz.f135=true:=aB
theorem Kw:AK Tryz.f136=true:=aB
theorem fx_call14:AK Tryz.f14=true:=aB
theorem Yu:AK Tryz.f15=true:=aB
theorem WA:AK Tryz.f153=true:=aB
theorem WB:AK Tryz.f154=true:=aB
theorem WC:AK Tryz.f155=true:=aB
theorem WD:AK Tryz.f156=true:=aB
theorem WE:AK Tryz.f157=true:=aB
theorem WF:AK Tryz.f158=true:=aB
theorem WG:AK Tryz.f159=true:=aB
theorem Yv:AK Tryz.f16=true:=aB
theorem WH:AK Tryz.f160=true:=aB
theorem WI:AK Tryz.f161=true:=aB
theorem WJ:AK Tryz.f162=true:=aB
theorem Pc:AK Tryz.f163=true:=aB
theorem WK:AK Tryz.f164=true:=aB
theorem WL:AK Tryz.f165=true:=aB
theorem WM:AK Tryz.f166=true:=aB
theorem WN:AK Tryz.f167=true:=aB
theorem WO:AK Tryz.f168=true:=aB
theorem WP:AK Tryz.f169=true:=aB
theorem Yw:AK Tryz.f17=true:=aB
theorem WQ:AK Tryz.f170=true:=aB
theorem Yx:AK Tryz.f18=true:=aB
theorem Yy:AK Tryz.f19=true:=aB
theorem Yz:AK Tryz.f20=true:=aB
theorem Y1:AK Tryz.f21=true:=aB
theorem Y3:AK Tryz.f22=true:=aB
theorem MZ:AK Tryz.f23=true:=aB
theorem Y4:AK Tryz.f24=true:=aB
theorem RS:AK Tryz.f25=true:=aB
theorem Ma:AK Tryz.f26=true:=aB
theorem Y5:AK Tryz.f27=true:=aB
theorem Y6:AK Tryz.f28=true:=aB
theorem Fi:AK Tryz.f29=true:=aB
theorem Y7:AK Tryz.f34=true:=aB
theorem Y8:AK Tryz.f35=true:=aB
theorem Y9:AK Tryz.f36=true:=aB
theorem ZA:AK Tryz.f37=true:=aB
theorem ZB:AK Tryz.f38=true:=aB
theorem ZC:AK Tryz.f39=true:=aB
theorem ZD:AK Tryz.f40=true:=aB
theorem ZE:AK Tryz.f41=true:=aB
theorem Ie:AK Tryz.f42=true:=aB
theorem ZF:AK Tryz.f43=true:=aB
theorem Fj:AK Tryz.f44=true:=aB
theorem DB:AK Tryz.f45=true:=aB
theorem RT:AK Tryz.f46=true:=aB
theorem Mb:AK Tryz.f47=true:=aB
theorem Mc:AK Tryz.f48=true:=aB
theorem ZG:AK Tryz.f49=true:=aB
theorem HU:AK Tryz.f50=true:=aB
theorem If:AK Tryz.f51=true:=aB
theorem fx_call52:AK Tryz.f52=true:=aB
theorem fx_call53:AK Tryz.f53=true:=aB
theorem Fk:AK Tryz.f54=true:=aB
theorem Md:AK Tryz.f55=true:=aB
theorem KD:AK Tryz.f56=true:=aB
theorem RU:AK Tryz.f57=true:=aB
theorem RV:AK Tryz.f58=true:=aB
theorem RW:AK Tryz.f59=true:=aB
theorem GW:AK Tryz.f60=true:=aB
theorem RX:AK Tryz.f61=true:=aB
theorem RY:AK Tryz.f62=true:=aB
theorem RZ:AK Tryz.f63=true:=aB
theorem ZH:AK Tryz.f64=true:=aB
theorem ZI:AK Tryz.f65=true:=aB
theorem EA:AK Tryz.f66=true:=aB
theorem Me:AK Tryz.f67=true:=aB
theorem ZJ:AK Tryz.f68=true:=aB
theorem ZK:AK Tryz.f69=true:=aB
theorem ZL:AK Tryz.f73=true:=aB
theorem ZM:AK Tryz.f74=true:=aB
theorem ZN:AK Tryz.f75=true:=aB
theorem ZO:AK Tryz.f76=true:=aB
theorem Ra:AK Tryz.f77=true:=aB
theorem Rb:AK Tryz.f78=true:=aB
theorem Rc:AK Tryz.f79=true:=aB
theorem ZP:AK Tryz.f80=true:=aB
theorem Re:AK Tryz.f81=true:=aB
theorem Rf:AK Tryz.f82=true:=aB
theorem Mf:AK Tryz.f83=true:=aB
theorem Ig:AK Tryz.f84=true:=aB
theorem Rh:AK Tryz.f85=true:=aB
theorem Ri:AK Tryz.f86=true:=aB
theorem ZQ:AK Tryz.f87=true:=aB
theorem KE:AK Tryz.f88=true:=aB
theorem ZR:AK Tryz.f89=true:=aB
theorem fx_call9:AK Tryz.f9=true:=aB
theorem Rj:AK Tryz.f90=true:=aB
theorem ZS:AK Tryz.f91=true:=aB
theorem Rk:AK Tryz.f92=true:=aB
theorem ZT:AK Tryz.f93=true:=aB
theorem ZU:AK Tryz.f94=true:=aB
theorem ZV:AK Tryz.f95=true:=aB
theorem ZW:AK Tryz.f96=true:=aB
theorem ZX:AK Tryz.f97=true:=aB
theorem ZY:AK Tryz.f98=true:=aB
theorem ZZ:AK Tryz.f99=true:=aB
theorem Ih:prog.eqGuardType prog.depth 31=false:=aB
theorem UM:prog.eqGuardType prog.depth 98=false:=aB
theorem ET:Eb prog 106=some 1:=aB
theorem Mg:Eb prog 146=some 1:=aB
theorem Za:Eb prog 206=some 1:=aB
theorem Gv:Eb prog 22=some 1:=aB
theorem FO:Eb prog 23=some 4:=aB
theorem FP:Eb prog 24=some 5:=aB
theorem Gx:Eb prog 25=some 3:=aB
theorem AP:Eb prog 42=some 1:=aB
theorem UN:Eb prog 45=some 2:=aB
theorem F4:Eb prog 89=some 9:=aB
theorem Lu:∀a:E3,ckP prog 4 103 (Ek a)=true:=by intros;kernel_rfl
theorem Lx:∀a b:E3,Nu prog 4 103 (Ek a) (Ek b)=some ((a.1.1==b.1.1 && (a.1.2.1==b.1.2.1 && (a.1.2.2.1==b.1.2.2.1 && (a.1.2.2.2.1==b.1.2.2.2.1 && (a.1.2.2.2.2==b.1.2.2.2.2 && true))))) && (a.2.1==b.2.1 && (a.2.2==b.2.2 && true))):=by intros;kernel_rfl
theorem Cm:Dj prog 101 0=some 0:=aB
theorem Jr:Dj prog 101 1=some 5:=aB
theorem UO:Dj prog 145 0=some 0:=aB
theorem UP:Dj prog 145 1=some 1:=aB
theorem Kx:Dj prog 27 0=some 0:=aB
theorem Hp:Dj prog 27 1=some 1:=aB
theorem CI:Dj prog 27 2=some 2:=aB
theorem Bz:Dj prog 27 3=some 3:=aB
theorem B4:Dj prog 27 4=some 4:=aB
theorem Bg:Dj prog 27 5=some 5:=aB
theorem Dt:Dj prog 31 0=some 0:=aB
theorem Du:Dj prog 31 1=some 1:=aB
theorem CP:Dj prog 39 0=some 0:=aB
theorem CY:Dj prog 39 1=some 1:=aB
theorem Ky:Dj prog 39 2=some 2:=aB
theorem JC:Dj prog 54 0=some 0:=aB
theorem Kz:Dj prog 54 1=some 1:=aB
theorem JD:Dj prog 54 2=some 3:=aB
theorem EG:Dj prog 54 3=some 4:=aB
theorem EH:Dj prog 83 0=some 0:=aB
theorem JE:Dj prog 83 1=some 1:=aB
theorem A1:Dj prog 88 0=some 0:=aB
theorem Dv:Dj prog 92 0=some 0:=aB
theorem Hq:Dj prog 92 1=some 6:=aB
theorem JF:Dj prog 92 2=some 7:=aB
theorem WR:(prog.info? 145).isSome=true:=aB
theorem fx_infs3:(prog.info? 3).isSome=true:=aB
theorem fx_infs4:(prog.info? 4).isSome=true:=aB
theorem WT:(prog.info? 145).map (·.zero)=some (some (.agg #[.int .i64 0,.bool false])):=aB
theorem fx_infz3:(prog.info? 3).map (·.zero)=some (some (.int .i64 0)):=aB
theorem fx_infz4:(prog.info? 4).map (·.zero)=some (some (.bool false)):=aB
theorem K0:MD prog 156=some .u64:=aB
theorem WU:MD prog 177=some .u64:=aB
theorem F5:MD prog 3=some .i64:=aB
theorem Gy:MD prog 5=some .u8:=aB
theorem Mh:LJ prog 121=some (3,3):=aB
theorem Ly:LJ prog 90=some (103,3):=aB
theorem Mi:∀a:Int,ckP prog 3 3 (Df a)=true:=by intros;kernel_rfl
theorem Mj:∀a b:Int,Nu prog 3 3 (Df a) (Df b)=some (a==b):=by intros;kernel_rfl
theorem Ab:prog.follows .mixedOrders=true:=aB
theorem UQ:(prog.info? 3).bind (·.zero)=some (.int .i64 0):=aB
theorem Ss:(prog.info? 3).bind (·.zero)=some (.int .i64 0):=aB
theorem L0:Ec prog 103=some [(0,5),(5,1),(6,1)]:=aB
theorem fx_pl145:Ec prog 145=some [(0,1),(1,1)]:=aB
theorem fx_pl27:Ec prog 27=some [(0,1),(1,1),(2,1),(3,1),(4,1),(5,1)]:=aB
theorem JG:Ec prog 31=some [(0,1),(1,1)]:=aB
theorem St:Ec prog 39=some [(0,1),(1,1),(2,2)]:=aB
theorem Su:Ec prog 54=some [(0,1),(1,2),(3,1),(4,1)]:=aB
theorem Sv:Ec prog 83=some [(0,1),(1,2)]:=aB
theorem H3:Ec prog 88=some [(0,6)]:=aB
theorem H4:Ec prog 92=some [(0,6),(6,1),(7,1)]:=aB
theorem UR:s2bOf prog 9 206=some 5:=aB
theorem Ii:DL prog 106=some (1,#[.slice none 0 0],42):=aB
theorem Zb:DL prog 146=some (1,#[.bool false],4):=aB
theorem US:DL prog 22=some (1,#[.string ⟨#[]⟩],9):=aB
theorem UT:DL prog 23=some (4,#[.int .i64 0,.int .i64 0,.int .i64 0,.int .i64 0],39):=aB
theorem UU:DL prog 24=some (5,#[.int .i64 0,.int .i64 0,.int .i64 0,.int .i64 0,.slice none 0 0],54):=aB
theorem Js:DL prog 25=some (3,#[.slice none 0 0,.int .i64 0,.int .i64 0],83):=aB
theorem Ba:DL prog 42=some (1,#[.int .i64 0],3):=aB
theorem UV:DL prog 45=some (2,#[.int .i64 0,.int .i64 0],31):=aB
theorem fx_sel89:DL prog 89=some (9,#[.int .i64 0,.int .i64 0,.int .i64 0,.int .i64 0,.int .i64 0,.int .i64 0,.int .i64 0,.int .i64 0,.int .i64 0],101):=aB
theorem F6:KG prog 106=true:=aB
theorem fx_sl146:KG prog 146=true:=aB
theorem fx_sl206:KG prog 206=true:=aB
theorem DZ:KG prog 22=true:=aB
theorem D1:KG prog 23=true:=aB
theorem FV:KG prog 24=true:=aB
theorem EZ:KG prog 25=true:=aB
theorem A6:KG prog 42=true:=aB
theorem Sw:KG prog 45=true:=aB
theorem F7:KG prog 89=true:=aB
theorem EI:OE prog 9=true:=aB
theorem CZ:Cb prog 101=some (true,9):=aB
theorem F8:Cb prog 106=some (false,1):=aB
theorem L1:Cb prog 112=some (false,1):=aB
theorem fx_ty136:Cb prog 136=some (true,5):=aB
theorem L2:Cb prog 141=some (false,1):=aB
theorem L3:Cb prog 142=some (false,1):=aB
theorem Pd:Cb prog 143=some (false,1):=aB
theorem fx_ty145:Cb prog 145=some (true,2):=aB
theorem fx_ty158:Cb prog 158=some (false,1):=aB
theorem Jt:Cb prog 159=some (false,1):=aB
theorem Ep:Cb prog 177=some (false,1):=aB
theorem Da:Cb prog 22=some (false,1):=aB
theorem C7:Cb prog 23=some (false,1):=aB
theorem DG:Cb prog 24=some (false,1):=aB
theorem Cn:Cb prog 25=some (false,1):=aB
theorem An:Cb prog 27=some (true,6):=aB
theorem AJ:Cb prog 3=some (false,1):=aB
theorem BH:Cb prog 31=some (true,2):=aB
theorem F9:Cb prog 39=some (true,4):=aB
theorem GX:Cb prog 4=some (false,1):=aB
theorem Bs:Cb prog 42=some (false,1):=aB
theorem fx_ty5:Cb prog 5=some (false,1):=aB
theorem H5:Cb prog 54=some (true,5):=aB
theorem E7:Cb prog 83=some (true,3):=aB
theorem CV:Cb prog 88=some (true,6):=aB
theorem H6:Cb prog 89=some (false,1):=aB
theorem Ml:Cb prog 9=some (false,1):=aB
theorem N4:Cb prog 90=some (false,1):=aB
theorem A4:Cb prog 92=some (true,8):=aB
theorem H7:Cb prog 98=some (true,5):=aB
theorem Zc:(prog.underlying 156).isSome=true:=aB
theorem Fl:(prog.underlying 175).isSome=true:=aB
theorem N5:(prog.underlying 3).isSome=true:=aB
theorem fx_und41:(prog.underlying 41).isSome=true:=aB
theorem H8:(prog.underlying 5).isSome=true:=aB
theorem Ju:prog.underlying 141=some (.chan .both 145):=aB
theorem Jv:prog.underlying 142=some (.chan .both 3):=aB
theorem Jw:prog.underlying 143=some (.chan .both 4):=aB
theorem Fb:Bw prog 101=some #[.int .i64 0,.int .i64 0,.int .i64 0,.int .i64 0,.int .i64 0,.int .i64 0,.int .i64 0,.int .i64 0,.int .i64 0]:=aB
theorem JH:Bw prog 103=some #[.int .i64 0,.int .i64 0,.int .i64 0,.int .i64 0,.int .i64 0,.int .i64 0,.int .i64 0]:=aB
theorem Pe:Bw prog 106=some #[.slice none 0 0]:=aB
theorem WV:Bw prog 112=some #[.nilFunc]:=aB
theorem Pf:Bw prog 118=some #[.bool false,.bool false,.bool false,.bool false]:=aB
theorem WW:Bw prog 141=some #[.chan none]:=aB
theorem WX:Bw prog 142=some #[.chan none]:=aB
theorem WY:Bw prog 143=some #[.chan none]:=aB
theorem Pg:Bw prog 145=some #[.int .i64 0,.bool false]:=aB
theorem WZ:Bw prog 157=some #[.int .i64 0,.int .i64 0,.int .i64 0,.int .i64 0,.int .i64 0,.int .i64 0,.int .i64 0,.int .i64 0,.int .i64 0,.int .i64 0,.int .i64 0,.int .i64 0,.int .i64 0,.int .i64 0,.int .i64 0,.int .i64 0]:=aB
theorem Wa:Bw prog 159=some #[.nilFunc]:=aB
theorem Wb:Bw prog 177=some #[.int .u64 0]:=aB
theorem E8:Bw prog 27=some #[.int .i64 0,.int .i64 0,.slice none 0 0,.slice none 0 0,.slice none 0 0,.slice none 0 0]:=aB
theorem fx_zero3:Bw prog 3=some #[.int .i64 0]:=aB
theorem B6:Bw prog 31=some #[.int .i64 0,.int .i64 0]:=aB
theorem Fm:Bw prog 39=some #[.int .i64 0,.int .i64 0,.int .i64 0,.int .i64 0]:=aB
theorem fx_zero4:Bw prog 4=some #[.bool false]:=aB
theorem fx_zero42:Bw prog 42=some #[.slice none 0 0]:=aB
theorem GY:Bw prog 54=some #[.int .i64 0,.int .i64 0,.int .i64 0,.int .i64 0,.slice none 0 0]:=aB
theorem Fo:Bw prog 83=some #[.slice none 0 0,.int .i64 0,.int .i64 0]:=aB
theorem Dh:Bw prog 88=some #[.int .i64 0,.int .i64 0,.slice none 0 0,.slice none 0 0,.slice none 0 0,.slice none 0 0]:=aB
theorem Zd:Bw prog 89=some #[.slice none 0 0]:=aB
theorem fx_zero9:Bw prog 9=some #[.string ⟨#[]⟩]:=aB
theorem BM:Bw prog 92=some #[.int .i64 0,.int .i64 0,.slice none 0 0,.slice none 0 0,.slice none 0 0,.slice none 0 0,.slice none 0 0,.map none]:=aB
end Go.Ns
namespace Go.Ns
open Go.Conc Go.Proofs Go.Proofs.Tryz
attribute [local irreducible] BS DD Tr AW Bt BX
variable {W:Wk prog} {h:GH} (d m:Int) (gs:List Good) (gsv:Value) (ms:List Cq) (msv:Value) (cs:List CD) (csv:Value)
theorem QB(a:List Int)(av:Value)(b:List Int)(bv:Value)(ha:AC h av 1 eI a)(hb:AC h bv 1 eI b):AW W 87 #[av,bv] h (λv h'=>v=(.bool (decide (a=b)):Value)/\h.Le h'):=by
 have ad:=ha.len;have ae:=hb.len;refine Ct func87 Z (Sr (Az (.bool false) Z (Nl (S2 (Mz av Z (Pl Z (AQ A6 ha Z (Mz bv Z (Pl Z (AQ A6 hb Z (Pl Z (A8 Z Z (Nl (AT Z (λar=>?_) (λar=>?_)))))))))))))))
 ·exact Sr (Az (.bool false) Z (Nl (Rt (⟨Zr,Ot (.bool false) Z (⟨(by (rw [decide_eq_false (ne_len aA)];done)),Lr⟩)⟩))))
 ·refine Sk (S2 (Az (J 0) Z (Nl (Bk (AZ (λnn σ' ds' h'=>∃(k:Nat),nn=a.length-k/\(k<=a.length)/\(a.take k=b.take k)/\ds'=[]/\GH.Le h h'/\σ' 0=av/\σ' 1=bv/\σ' 5=J k) ⟨0,Z,aA,(by rfl),Z,Lr,Z,Z,Z⟩ (λnn _ _ _ au=>?_))))));obtain ⟨k,rfl,hk,hs,x8,x9,af,aq,ac⟩:=au;subst x8;refine S2 (Mv (J k) Z ac (Mv av Z af (Pl Z (AQ A6 (ha.le x9) Z (Pl Z (Ak Z Z (Nl (AT Z (λag=>?_) (λag=>?_)))))))))
  ·refine Sk (Sq (Bk (Sq (Bf 8 false [1,6,10,16,21,26,30,36] Ab aB (Rz Z (Mo av af vz) (Rz Z (Mo (J k) ac vz) ?_))))));have ah:(0:Int)<=(k:Int):=aA
   have ai:(k:Int)<((a.length:Nat):Int):=aA
   refine tI Z Z AP ha Z Z ah ai λaw aa aj=>have ak:AY _ aw aa 1 (eI (a.getD k 0)):=AY.getD 0 aj;Rl (NT a k) Z (BG AJ (ak.le x9) Z) (Rz Z (Mo bv aq vz) (Rz Z (Mo (J k) ac vz) ?_));have al:(0:Int)<=(k:Int):=aA
   have am:(k:Int)<((b.length:Nat):Int):=aA
   refine tI Z Z AP hb Z Z al am λax ab an=>have ao:AY _ ax ab 1 (eI (b.getD k 0)):=AY.getD 0 an;Rl (NT b k) Z (BG AJ (ao.le x9) Z) (tN (Pl Z (A8 Z Z (Nl (AT Z (λap=>?_) (λap=>?_))))))
   ·exact Sr (Az (.bool false) Z (Nl (Rt (⟨Zr,Ot (.bool false) Z (⟨(by (rw [decide_eq_false (ne_getD (k:=k) (d:=0) ‹_›)])),x9⟩)⟩))))
   ·exact Sk (Rg (Mv (J k) Z ac (Yd Z aA (Az (J ((k:Int)+1)) Z (Nl (⟨_,aA,k+1,Z,aA,(by exact OU 0 hs aA aA aF),Z,x9,af,aq,Z⟩))))))
  ·exact Xt (Sr (Az (.bool true) Z (Nl (Rt (⟨Zr,Ot (.bool true) Z (⟨(by (rw [decide_eq_true (SG hs hk ‹_› aA)];done)),x9⟩)⟩)))))
theorem Ph(a:List Int)(av:Value)(n:Int)(ha:AC h av 1 eI a):AW W 23 #[av,J n] h (λv h'=>v=(.bool (decide (n ∈ a)):Value)/\h.Le h'):=by
 have ab:=ha.len;refine Ct func23 Z (Sr (Az (.bool false) Z (Nl (S2 (Az (J 0) Z (Nl (Bk (AZ (λnn σ' ds' h'=>∃(k:Nat),nn=a.length-k/\(k<=a.length)/\(¬n ∈ a.take k)/\ds'=[]/\GH.Le h h'/\σ' 0=av/\σ' 1=J n/\σ' 5=J k) ⟨0,Z,aA,aD,Z,Lr,Z,Z,Z⟩ (λnn _ _ _ aj=>?_)))))))));obtain ⟨k,rfl,hk,hs,x6,x7,x8,x9,ac⟩:=aj;subst x6;refine S2 (Mv (J k) Z ac (Mv av Z x8 (Pl Z (AQ A6 (ha.le x7) Z (Pl Z (Ak Z Z (Nl (AT Z (λad=>?_) (λad=>?_)))))))))
 ·refine Sk (Sq (Bk (Sr (Mv av Z x8 (Mv (J k) Z ac ?_)))));have ae:(0:Int)<=(k:Int):=aA
  have af:(k:Int)<((a.length:Nat):Int):=aA
  refine Pl Z (Aa AP ha Z Z ae af λak aa ag=>have ah:AY _ ak aa 1 (eI (a.getD k 0)):=AY.getD 0 ag;Lz (NT a k) Z (BG AJ (ah.le x7) Z) (Mv (J n) Z x9 (Pl Z (CC Z Z (Nl (AT Z (λai=>?_) (λai=>?_)))))))
  ·exact Sr (Az (.bool true) Z (Nl (Rt (⟨Zr,Ot (.bool true) Z (⟨(by (rw [decide_eq_true (has_hit (k:=k) ‹_› ‹_›)];done)),x7⟩)⟩))))
  ·exact Sk (Rg (Mv (J k) Z ac (Yd Z aA (Az (J ((k:Int)+1)) Z (Nl (⟨_,aA,k+1,Z,aA,(by exact has_next ‹_› hs ‹_›),Z,x7,x8,x9,Z⟩))))))
 ·exact Xt (Sr (Az (.bool false) Z (Nl (Rt (⟨Zr,Ot (.bool false) Z (⟨(by (rw [decide_eq_false (has_end (k:=k) ‹_› hs)])),x7⟩)⟩)))))
theorem H9(n:Int)(lo:Int)(hi:Int):AW W 29 #[J n,J lo,J hi] h (λv h'=>v=(.bool (decide (lo<=n/\n<=hi)):Value)/\h=h'):=by
 refine Ct func29 Z (Sr (Az (.bool false) Z (Nl (BI (λσ' ds' h'=>ds'=[]/\h=h'/\σ' 6=.bool (Q1f lo n hi)) ?_ ?_))))
 ·refine Rg (Mz (J n) Z (Mz (J lo) Z (Pl Z (CO Z Z (Mz (Qv lo n) Z (A7 (p:=lo<=n) ?_ ?_))))))
  ·intro aa;exact Gg 3 10 (AB Z aa) Z (Mo (J n) Z (Gg 3 10 (AB Z aa) Z (Mo (J hi) Z (Gg 3 10 (AB Z aa) Z (DW Z Z (Pk true (Qv n hi) Z (AB Z aa) Z (Az (Qv n hi) Z (Nl (⟨Z,Z,Et (b:=(.bool (decide (n<=hi)):Value)) Z (congrArg Value.bool (by (simp [aa];done):decide (n<=hi)=(Q1f lo n hi)))⟩)))))))))
  ·intro aa;exact Gs 3 10 (AA Z aa) Z (Gs 3 10 (AA Z aa) Z (Gs 3 10 (AA Z aa) Z (Pk false (.bool false) Z (AA Z aa) Z (Az (.bool false) Z (Nl (⟨Z,Z,Et (b:=(.bool false:Value)) Z (congrArg Value.bool (by (simp [aa];done):false=(Q1f lo n hi)))⟩))))))
 ·rintro _ _ _ ⟨ac,ab,ad⟩;subst ac;subst ab;exact Rt (⟨Zr,Hs Z (v:=.bool (Q1f lo n hi)) ad (⟨(by rfl),Z⟩)⟩)
theorem NU(xl:Int)(xh:Int)(lo:Int)(hi:Int):AW W 106 #[.agg #[J xl,J xh],J lo,J hi] h (λv h'=>v=(.bool (decide ((lo<=xl/\xl<=xh)/\xh<=hi)):Value)/\h.Le h'):=by
 refine Ct func106 Z (Sr (Pl Z (Bo #[J xl,J xh] Z Z λ_ h2 _ ae ad _=>Az (.bool false) Z (Nl (BI (λσ' ds' h'=>ds'=[]/\h2=h'/\σ' 6=.bool (Q1i lo xl xh hi)) ?_ ?_)))))
 ·refine Rg (Fz Dt Z (Lz (J xl) Z (Rd.one AJ ad Z) (Mz (J lo) Z (Pl Z (CO Z Z (Mz (Qv lo xl) Z (A7 (p:=lo<=xl) ?_ ?_)))))))
  ·intro aa;refine Gg 4 11 (AB Z aa) Z (AM Du Z (Gg 4 11 (AB Z aa) Z (Lo (J xh) Z (Rd.one AJ ad Z) (Gg 4 11 (AB Z aa) Z (AM Dt Z (Gg 4 11 (AB Z aa) Z (Lo (J xl) Z (Rd.one AJ ad Z) (Gg 4 11 (AB Z aa) Z (CO Z Z (Pk true (Qv xl xh) Z (AB Z aa) Z (Mz (Qv xl xh) Z (A7 (p:=xl<=xh) ?_ ?_))))))))))))
   ·intro ab;exact Gg 11 18 (AB Z ab) Z (AM Du Z (Gg 11 18 (AB Z ab) Z (Lo (J xh) Z (Rd.one AJ ad Z) (Gg 11 18 (AB Z ab) Z (Mo (J hi) Z (Gg 11 18 (AB Z ab) Z (DW Z Z (Pk true (Qv xh hi) Z (AB Z ab) Z (Az (Qv xh hi) Z (Nl (⟨Z,Z,Et (b:=(.bool (decide (xh<=hi)):Value)) Z (congrArg Value.bool (by (simp [aa,ab];done):decide (xh<=hi)=(Q1i lo xl xh hi)))⟩)))))))))))
   ·intro ab;exact Gs 11 18 (AA Z ab) Z (Gs 11 18 (AA Z ab) Z (Gs 11 18 (AA Z ab) Z (Gs 11 18 (AA Z ab) Z (Pk false (.bool false) Z (AA Z ab) Z (Az (.bool false) Z (Nl (⟨Z,Z,Et (b:=(.bool false:Value)) Z (congrArg Value.bool (by (simp [aa,ab];done):false=(Q1i lo xl xh hi)))⟩)))))))
  ·intro aa;exact Gs 4 11 (AA Z aa) Z (Gs 4 11 (AA Z aa) Z (Gs 4 11 (AA Z aa) Z (Gs 4 11 (AA Z aa) Z (Gs 4 11 (AA Z aa) Z (Pk false (.bool false) Z (AA Z aa) Z (Mz (.bool false) Z (Gs 11 18 Z Z (Gs 11 18 Z Z (Gs 11 18 Z Z (Gs 11 18 Z Z (Pz false (.bool false) Z (Az (.bool false) Z (Nl (⟨Z,Z,Et (b:=(.bool false:Value)) Z (congrArg Value.bool (by (simp [aa];done):false=(Q1i lo xl xh hi)))⟩))))))))))))))
 ·rintro _ _ _ ⟨af,ac,ag⟩;subst af;subst ac;exact Rt (⟨Zr,Hs Z (v:=.bool (Q1i lo xl xh hi)) ag (⟨(by rfl),ae⟩)⟩)
theorem UW(c:Int):AW W 117 #[.int .u8 c] h (λv h'=>v=(.bool (decide (Eg c)):Value)/\h=h'):=by
 refine Ct func117 Z (Sr (Az (.bool false) Z (Nl (BI (λσ' ds' h'=>ds'=[]/\h=h'/\σ' 2=.bool (Q1s c)) ?_ ?_))))
 ·refine Rg (Mz (.int .u8 c) Z (Pl Z (CO Z Z (Mz (.bool (decide (97<=c))) Z (A7 (p:=97<=c) ?_ ?_)))))
  ·intro aa;exact Gg 2 5 (AB Z aa) Z (Mo (.int .u8 c) Z (Gg 2 5 (AB Z aa) Z (DW Z Z (Pk true (.bool (decide (c<=122))) Z (AB Z aa) Z (Az (.bool (decide (c<=122))) Z (Nl (⟨Z,Z,Et (b:=(.bool (decide (c<=122)):Value)) Z (congrArg Value.bool (by (simp [aa];done):decide (c<=122)=(Q1s c)))⟩)))))))
  ·intro aa;exact Gs 2 5 (AA Z aa) Z (Gs 2 5 (AA Z aa) Z (Pk false (.bool false) Z (AA Z aa) Z (Az (.bool false) Z (Nl (⟨Z,Z,Et (b:=(.bool false:Value)) Z (congrArg Value.bool (by (simp [aa];done):false=(Q1s c)))⟩)))))
 ·rintro _ _ _ ⟨ac,ab,ad⟩;subst ac;subst ab;exact Rt (⟨Zr,Hs Z (v:=.bool (Q1s c)) ad (⟨(by rfl),Z⟩)⟩)
theorem Wc(c:Int):AW W 118 #[.int .u8 c] h (λv h'=>v=(.bool (decide (Ez c)):Value)/\h=h'):=by
 refine Ct func118 Z (Sr (Az (.bool false) Z (Nl (BI (λσ' ds' h'=>ds'=[]/\h=h'/\σ' 2=.bool (Q1z c)) ?_ ?_))))
 ·refine Rg (Mz (.int .u8 c) Z (Pl Z (CO Z Z (Mz (.bool (decide (48<=c))) Z (A7 (p:=48<=c) ?_ ?_)))))
  ·intro aa;exact Gg 2 5 (AB Z aa) Z (Mo (.int .u8 c) Z (Gg 2 5 (AB Z aa) Z (DW Z Z (Pk true (.bool (decide (c<=57))) Z (AB Z aa) Z (Az (.bool (decide (c<=57))) Z (Nl (⟨Z,Z,Et (b:=(.bool (decide (c<=57)):Value)) Z (congrArg Value.bool (by (simp [aa];done):decide (c<=57)=(Q1z c)))⟩)))))))
  ·intro aa;exact Gs 2 5 (AA Z aa) Z (Gs 2 5 (AA Z aa) Z (Pk false (.bool false) Z (AA Z aa) Z (Az (.bool false) Z (Nl (⟨Z,Z,Et (b:=(.bool false:Value)) Z (congrArg Value.bool (by (simp [aa];done):false=(Q1z c)))⟩)))))
 ·rintro _ _ _ ⟨ac,ab,ad⟩;subst ac;subst ab;exact Rt (⟨Zr,Hs Z (v:=.bool (Q1z c)) ad (⟨(by rfl),Z⟩)⟩)
theorem QC(xs:List Int)(xsv:Value)(fv:Value)(p:Int->Bool)(hxs:AC h xsv 1 eI xs)(hf:∀x ∈ xs,∀h1,h.Le h1->Bt W fv #[J x] h1 λv h2=>v=.bool (p x)/\h1.Le h2):AW W 169 #[xsv,fv] h (λv h'=>v=(J (idxOf p xs):Value)/\h.Le h'):=by
 have ac:=hxs.len;refine Ct func169 Z (Sr (Az (J 0) Z (Nl (S2 (Mz xsv Z (Pl Z (AQ A6 hxs Z (Mz (J 0) Z (Nl (Bk (AZ (λnn σ' ds' h'=>∃(k:Nat),nn=xs.length-k/\(k<=xs.length)/\((xs.take k).any p=false)/\ds'=[]/\GH.Le h h'/\σ' 0=xsv/\σ' 1=fv/\σ' 7=J (xs.length:Int)/\σ' 8=J k) ⟨0,Z,aA,aD,Z,Lr,Z,Z,Z,Z⟩ (λnn _ _ _ am=>?_))))))))))));obtain ⟨k,rfl,hk,hs,x6,x7,x8,x9,al,ad⟩:=am;subst x6;refine Sr (Pl Z (Ak ad al (Nl (Sq (AT Z (λae=>?_) (λae=>?_))))))
 ·refine Sk (Sq (Bk (Sr (Mv (J k) Z ad (Az (J k) Z (Nl (Sr (Mv fv Z x9 (Mv xsv Z x8 (Mz (J k) Z ?_))))))))));have af:(0:Int)<=(k:Int):=aA
  have ag:(k:Int)<((xs.length:Nat):Int):=aA
  refine Pl Z (Aa AP hxs Z Z af ag λan ab ah=>have ai:AY _ an ab 1 (eI (xs.getD k 0)):=AY.getD 0 ah;Lz (NT xs k) Z (BG AJ (ai.le x7) Z) (Pl Z (Kg Z (vs:=#[J (xs.getD k 0)]) (by simp only [List.map_toArray,List.map_cons,List.map_nil,AO] <;> rfl) ((hf (xs.getD k 0) (B7 aA) _ x7).mono λ_ _ aj=>?_))));obtain ⟨rfl,aa⟩:=aj;refine Nl (Ca Z (λak=>?_) (λak=>?_))
  ·exact Sr (Mz (J k) Z (Az (J k) Z (Nl (Rt (⟨Zr,Ot (J k) Z (⟨(by (rw [HQ (k:=k) aA hs ‹_›];done)),(x7.trans aa)⟩)⟩)))))
  ·exact Sk (Rg (Ad _ _ Z ad Z aA (Mz (J ((k:Int)+1)) Z (Nl (⟨_,aA,k+1,Z,aA,(by exact EL (d:=0) aA hs ‹_›),Z,(x7.trans aa),x8,x9,al,Z⟩)))))
 ·exact Xt (Sr (Az (J (-1)) Z (Nl (Rt (⟨Zr,Ot (J (-1)) Z (⟨(by (rw [GO (k:=k) aA hs])),x7⟩)⟩)))))
theorem Ij(xs:List Int)(xsv:Value)(fv:Value)(p:Int->Bool)(hxs:AC h xsv 1 eI xs)(hf:∀x ∈ xs,∀h1,h.Le h1->Bt W fv #[J x] h1 λv h2=>v=.bool (p x)/\h1.Le h2):AW W 163 #[xsv,fv] h (λv h'=>v=(.bool (xs.any p):Value)/\h.Le h'):=by
 have aa:=hxs.len;refine Ct func163 Z (Sr (Az (.bool false) Z (Nl (Sr (Mz xsv Z (Mz fv Z (Pl Z (AR func169 WP Z Z ((QC xs xsv fv p hxs (λx hx h1 l1=>hf x hx h1 (GH.Le.trans Lr l1))).mono λ_ _ ac=>?_)))))))));obtain ⟨rfl,ab⟩:=ac;exact Pl Z (CO Z Z (Az (.bool (decide (0<=(idxOf p xs)))) Z (Nl (Rt (⟨Zr,Ot (.bool (decide (0<=(idxOf p xs)))) Z (⟨(by rw [show decide (0<=idxOf p xs)=xs.any p from by rw [Bool.eq_iff_iff];simp [E0]]),ab⟩)⟩)))))
end Go.Ns
