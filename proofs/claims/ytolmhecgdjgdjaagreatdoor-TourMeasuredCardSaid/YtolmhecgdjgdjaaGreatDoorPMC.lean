/- Rules and walks, part 3 of 6. No conditions. -/
import Derived.Carry
import Derived.Conc.LeavingOf
import Derived.LaidMore
import Derived.OpenShut
import Derived.ProofKit
import Derived.Test.YtolmhecgdjgdjaaGreatDoorPMB
import Derived.Test.YtolmhecgdjgdjaaGreatDoorProg
set_option linter.unusedVariables false
set_option linter.unusedSimpArgs false
set_option linter.unnecessarySimpa false
set_option linter.unusedSectionVars false
namespace Go.Ns
open Go.Conc
section
variable {P:Program} {E:GN P} {O:Nat->Value} {ds:List Deferred} {h:GH} {T:(Nat->Value)->List Deferred->GH->Prop} {dst:Option Nat} {ty:TypeId} {pos:String} {af:Array Edge} {gd:Option (Nat×Bool)}
theorem ok_eqlB{xt yt:TypeId}{x y:Operand}{a b:Bool}(hx:AO O x=.bool a)(hy:AO O y=.bool b)(he:OL P 1 xt (.bool a) (.bool b)=some (a==b))(k:T (putS O dst (.bool (a==b))) ds h):BR E ⟨dst,.binOp .eql xt x y yt,ty,pos,af,gd⟩ O ds h T:=by
 unfold BR execOp;simp only [hx,hy];refine F0 (AG _ _ ?_);have hg:∀(Q:Unit->GH->Prop),Q () h->(eqGuard .eql xt x y (.bool a) (.bool b)).gh P h Q:=λQ q=>q;refine hg _ ?_;show Sem.gh P (do pure (Value.bool (<-Op.equal xt (.bool a) (.bool b))):Sem Value) h _;refine AG _ _ ?_;exact It 1 _ _ _ _ (a==b) h _ aC he k
theorem P8{t:TypeId}{x o:Operand}{m n b off hi:Nat}(ht:Mq P t=some (m,n))(hx:AO O x=.pointer (some ⟨b,off,none⟩))(ho:∃kd,AO O o=.int kd hi)(h2:hi<=m)(k:T (putS O dst (.slice (some ⟨b,off,none⟩) hi m)) ds h) :
  BR E ⟨dst,.slice t x none (some o) none,ty,pos,af,gd⟩ O ds h T:=by
 obtain ⟨kd,e⟩:=ho;unfold BR execOp;simp only [hx];refine F0 ?_;unfold Mq at ht;unfold Instr.sliceAt;cases hu:P.underlying t with
 | none=>rw [hu] at ht;cases ht
 | some d=>
  rw [hu] at ht;cases d <;> first | (cases ht;done) | skip
  rename_i el
  simp only [Option.map_eq_some_iff,Prod.mk.injEq] at ht;obtain ⟨x0,hx0,rfl,rfl⟩:=ht;refine AG _ _ (An hu ?_);dsimp only;refine AG _ _ (Au ?_);unfold Instr.sliceBounds;simp only [Option.map_some,Option.map_none,e,Bool.false_eq_true,↓reduceIte];refine AG _ _ (AG _ _ (Au (AG _ _ (DO aA aA (AG _ _ (Au (Au ?_)))))));refine AG _ _ (EC hx0 (Au ?_));simp only [Nat.sub_zero,Nat.zero_mul,Ip,Nat.add_zero,ite_self,Int.toNat_natCast];exact k
end
def eBo(b:Bool):Array Value:=#[.bool b]
theorem can_sl{h:GH}{r n:Nat}{p:Bool}{c:Hc}{t:TypeId}{f:Nat×Nat}(hb:h r=some (p,.cells (F9 c) t f))(hn:n<=4):AD h (.slice (some ⟨r,0,none⟩) n 4) 1 eBo (Oo c n):=by
 refine ⟨some ⟨r,0,none⟩,4,by simp [Oo],by simpa [Oo] using hn,by simp [Oo];omega,λi hi=>⟨r,0,rfl,p,_,t,f,hb,?_,?_⟩⟩
 ·have:i<n:=by simpa [Oo] using hi
  show 0+i*1+1<=4;omega
 ·have hi':i<n:=by simpa [Oo] using hi
  have h4:i<4:=aA
  have e:(Oo c n)[i]=c i:=by simp [Oo]
  rw [e]
  match i,h4 with
  | 0,_=>rfl
  | 1,_=>rfl
  | 2,_=>rfl
  | 3,_=>rfl
theorem Ov{ws:List AB}{c c':Hc}{np k:Nat}(h:D4 ws (np-k) c=c')(hk:np<=k):c=c':=by
 rw [Nat.sub_eq_zero_of_le hk] at h;exact h
theorem T1{ws:List AB}{c c':Hc}{np k:Nat}(h:D4 ws (np-k) c=c')(hk:k<np):D4 ws (np-(k+1)) (Gz ws c)=c':=by
 rw [show np-k=(np-(k+1))+1 by omega] at h;exact h
def BG(ws:List AB)(c:Hc)(k:Nat):Hc:=(ws.take k).foldl Eg c
theorem Vf{ws:List AB}{c:Hc}{k:Nat}(hk:k<ws.length):BG ws c (k+1)=Eg (BG ws c k) (ws.getD k AB.z):=by
 unfold BG;rw [EY AB.z hk,List.foldl_append];rfl
theorem YS{ws:List AB}{c:Hc}{k:Nat}(hk:ws.length<=k):BG ws c k=Gz ws c:=by
 unfold BG Gz;rw [List.take_of_length_le hk]
structure AH where
 ways:Nat->Int
 works:Nat->Int
def AH.zero:AH:=⟨λ_=>0,λ_=>0⟩
def Ai(p:AH):Array Value:=#[.int .i64 (p.ways 0),.int .i64 (p.ways 1),.int .i64 (p.ways 2),.int .i64 (p.ways 3),.int .i64 (p.ways 4),
 .int .i64 (p.works 0),.int .i64 (p.works 1),.int .i64 (p.works 2),.int .i64 (p.works 3)]
theorem Fm(p:AH):(Value.agg (Ai p)).cells.size=9:=rfl
theorem Fo(p:AH):Value.fine (.agg (Ai p))=true:=rfl
theorem GW(p:AH):0+9<=(Ai p).size:=Nat.le_refl 9
theorem GX(p q:AH):Bp (Ai p) 0 (Value.agg (Ai q)).cells.toList=Ai q:=by
 simp [Value.cells,Ai,Bp]
def AH.setWay(p:AH)(i:Nat)(n:Int):AH:={ p with ways:=λk=>if k=i then n else p.ways k }
def AH.setWork(p:AH)(i:Nat)(n:Int):AH:={ p with works:=λk=>if k=i then n else p.works k }
theorem GY{p:AH}{i:Nat}(h:i<5):(Ai p)[0+i*1]? =some (.int .i64 (p.ways i)):=by
 match i,h with
 | 0,_=>rfl
 | 1,_=>rfl
 | 2,_=>rfl
 | 3,_=>rfl
 | 4,_=>rfl
theorem JZ{p:AH}{i:Nat}(h:i<4):(Ai p)[5+i*1]? =some (.int .i64 (p.works i)):=by
 match i,h with
 | 0,_=>rfl
 | 1,_=>rfl
 | 2,_=>rfl
 | 3,_=>rfl
theorem P9{p:AH}{i:Nat}{n:Int}(h:i<5):Bp (Ai p) (0+i*1) [.int .i64 n]=Ai (p.setWay i n):=by
 match i,h with
 | 0,_=>rfl
 | 1,_=>rfl
 | 2,_=>rfl
 | 3,_=>rfl
 | 4,_=>rfl
theorem Ow{p:AH}{i:Nat}{n:Int}(h:i<4):Bp (Ai p) (5+i*1) [.int .i64 n]=Ai (p.setWork i n):=by
 match i,h with
 | 0,_=>rfl
 | 1,_=>rfl
 | 2,_=>rfl
 | 3,_=>rfl
def AH.put(p:AH)(nw i:Nat)(n:Int):AH:=if i<nw then p.setWay i n else p.setWork (i-nw) n
theorem AH.put_put(p:AH)(nw i:Nat)(n m:Int):(p.put nw i n).put nw i m=p.put nw i m:=by
 unfold AH.put;split
 ·unfold AH.setWay;congr 1;funext k;simp only [];split <;> rfl
 ·unfold AH.setWork;congr 1;funext k;simp only [];split <;> rfl
def Ek(p:AH)(l:List Int):Int:=(l.map λk=>p.ways k.toNat).sum
def CR(ns:List AK)(p:AH):Bool:=ns.all λx=>decide (x.low<=Ek p x.ways/\Ek p x.ways<=x.high)
structure CI(p:AH):Prop where
 ways:∀k,0<=p.ways k/\p.ways k<=30
 works:∀k,0<=p.works k/\p.works k<=30
def Nz(ns:List AK)(p:AH)(k:Nat):Bool:=decide ((ns.getD k AK.z).low<=Ek p (ns.getD k AK.z).ways/\Ek p (ns.getD k AK.z).ways<=(ns.getD k AK.z).high)
theorem Sm{p:AH}{l:List Int}{q:Nat}(h:q<l.length):Ek p (l.take (q+1))=Ek p (l.take q)+p.ways (l.getD q 0).toNat:=by
 unfold Ek;rw [EY 0 h];simp
theorem NA{p:AH}{l:List Int}{q:Nat}(h:l.length<=q):Ek p (l.take q)=Ek p l:=by rw [List.take_of_length_le h]
theorem T3{p:AH}{ns:List AK}{k q:Nat}{s:Int}(hs:s=Ek p ((ns.getD k AK.z).ways.take q))(hq:(ns.getD k AK.z).ways.length<=q)(h:(ns.getD k AK.z).low<=s/\s<=(ns.getD k AK.z).high):Nz ns p k=true:=by
 rw [NA hq] at hs;subst hs;exact decide_eq_true h
theorem Vg{p:AH}{ns:List AK}{k:Nat}(h:∀j,j<k->Nz ns p j=true)(hk:ns.length<=k):CR ns p=true:=by
 unfold CR;rw [List.all_eq_true];intro x hx;obtain ⟨i,hi,rfl⟩:=List.mem_iff_getElem.1 hx
 have:=h i aA
 unfold Nz at this;rw [DP AK.z hi] at this;exact this
theorem YT{p:AH}{ns:List AK}{k q:Nat}{s:Int}(hk:k<ns.length)(hs:s=Ek p ((ns.getD k AK.z).ways.take q))(hq:(ns.getD k AK.z).ways.length<=q)(h:¬((ns.getD k AK.z).low<=s/\s<=(ns.getD k AK.z).high)):CR ns p=false:=by
 rw [NA hq] at hs;subst hs;rw [DP AK.z hk] at h;unfold CR;rw [List.all_eq_false];exact ⟨ns[k],List.getElem_mem hk,by simpa using h⟩
theorem Ox{f:Nat->Bool}{k:Nat}(h:∀j,j<k->f j=true)(e:f k=true):∀j,j<k+1->f j=true:=λj hj=>by
 rcases Nat.lt_succ_iff_lt_or_eq.1 hj with q | rfl
 ·exact h j q
 ·exact e
theorem Oy{nw:Nat}{ns:List AK}(h:∀k,k<ns.length->Dr nw ns k=0)(k:Nat):(ns.getD k AK.z).ways.length<=5/\(∀q,0<=(ns.getD k AK.z).ways.getD q 0/\((ns.getD k AK.z).ways.getD q 0=0\/(ns.getD k AK.z).ways.getD q 0<=(nw:Int)-1)):=by
 rcases Nat.lt_or_ge k ns.length with hk | hk
 ·have e:=h k hk;unfold Dr at e;split at e
  ·cases e
  ·split at e
   ·cases e
   ·rename_i h5 h6
    refine ⟨aA,λq=>?_⟩;rcases Nat.lt_or_ge q (ns.getD k AK.z).ways.length with hq | hq
    ·have h7:¬∃x ∈ (ns.getD k AK.z).ways,¬(0<=x/\x<=(nw:Int)-1):=by simpa [List.any_eq_true] using h6
     have h8:0<=(ns.getD k AK.z).ways.getD q 0/\(ns.getD k AK.z).ways.getD q 0<=(nw:Int)-1:=Classical.byContradiction λz=>h7 ⟨_,CB hq,z⟩;exact ⟨h8.1,.inr h8.2⟩
    ·rw [B2 hq];exact ⟨Int.le_refl _,.inl rfl⟩
 ·rw [B2 hk];refine ⟨by simp [AK.z],λq=>?_⟩;simp [AK.z]
def CH(ws:List AB)(js:List AM)(i:Nat):Int:=if i<ws.length then (ws.getD i AB.z).low else (js.getD (i-ws.length) AM.z).low
def EF(ws:List AB)(js:List AM)(i:Nat):Int:=if i<ws.length then (ws.getD i AB.z).high else (js.getD (i-ws.length) AM.z).high
def B6(ag:AH->Bool)(ws:List AB)(js:List AM):Nat->Nat->AH->List AH
 | 0,_,p=>[p]
 | f+1,i,p=>(Gx (CH ws js i) (EF ws js i)).flatMap λn=>if i+1=ws.length/\ag (p.put ws.length i n)=false then [] else B6 ag ws js f (i+1) (p.put ws.length i n)
def Bv(ag:AH->Bool)(ws:List AB)(js:List AM)(f i:Nat)(p:AH)(n:Int):List AH:=
 if i+1=ws.length/\ag (p.put ws.length i n)=false then [] else B6 ag ws js f (i+1) (p.put ws.length i n)
theorem C2(ag:AH->Bool)(ws:List AB)(js:List AM)(f i:Nat)(p:AH) :
  B6 ag ws js (f+1) i p=(Gx (CH ws js i) (EF ws js i)).flatMap (Bv ag ws js f i p):=rfl
def AE(ws:List AB)(js:List AM)(ns:List AK):List AH:=
 if 0<ws.length\/CR ns AH.zero=true then B6 (CR ns) ws js (ws.length+js.length) 0 AH.zero else []
def HH(nw i:Nat):Nat:=if i<nw then 0+i*1 else 5+(i-nw)*1
theorem YU{nw i:Nat}(h:i<nw):HH nw i=0+i*1:=if_pos h
theorem Vh{nw i:Nat}(h:¬i<nw):HH nw i=5+(i-nw)*1:=if_neg h
theorem J2{p:AH}{nw nj i:Nat}{v:Int}(hw:nw<=5)(hj:nj<=4)(hi:i<nw+nj):(Ai (p.put nw i v))[HH nw i]? =some (.int .i64 v):=by
 unfold AH.put HH;split
 ·rw [GY aA];simp [AH.setWay]
 ·rw [JZ aA];simp [AH.setWork]
theorem GA{p:AH}{nw nj i:Nat}{v:Int}(hw:nw<=5)(hj:nj<=4)(hi:i<nw+nj):Bp (Ai p) (HH nw i) [.int .i64 v]=Ai (p.put nw i v):=by
 unfold AH.put HH;split
 ·exact P9 aA
 ·exact Ow aA
theorem Ja{nw nj i:Nat}(hw:nw<=5)(hj:nj<=4)(hi:i<nw+nj):HH nw i+1<=9:=by unfold HH;split <;> omega
def AH.zeros(p:AH)(nw i:Nat):Prop:=(∀k,i<=k->k<nw->p.ways k=0)/\∀k,i<=nw+k->p.works k=0
theorem AH.zeros_put{p:AH}{nw i:Nat}(h:p.zeros nw i):p.put nw i 0=p:=by
 obtain ⟨wy,wo⟩:=p;unfold AH.put AH.setWay AH.setWork;split
 ·rename_i hi
  congr 1;funext k;split
  ·rename_i e;subst e;exact (h.1 k (Nat.le_refl _) hi).symm
  ·rfl
 ·rename_i hi
  congr 1;funext k;split
  ·rename_i e;subst e;exact (h.2 (i-nw) aA).symm
  ·rfl
theorem AH.zeros_next{p:AH}{nw i:Nat}{v:Int}(h:p.zeros nw i):(p.put nw i v).zeros nw (i+1):=by
 unfold AH.put;split
 ·refine ⟨λk h1 h2=>?_,λk h1=>h.2 k aA⟩;show (if k=i then v else p.ways k)=0;rw [if_neg aA];exact h.1 k aA h2
 ·refine ⟨λk h1 h2=>h.1 k aA h2,λk h1=>?_⟩;show (if k=i-nw then v else p.works k)=0;rw [if_neg aA];exact h.2 k aA
theorem AH.zeros_zero(nw i:Nat):AH.zero.zeros nw i:=⟨λ_ _ _=>rfl,λ_ _=>rfl⟩
theorem CI.zero:CI AH.zero:=⟨λ_=>(aC:(0:Int)<=0/\(0:Int)<=30),λ_=>(aC:(0:Int)<=0/\(0:Int)<=30)⟩
theorem CI.put{p:AH}(h:CI p){nw i:Nat}{v:Int}(hv:0<=v/\v<=30):CI (p.put nw i v):=by
 unfold AH.put;split
 ·refine ⟨λk=>?_,h.works⟩;show 0<=(if k=i then v else p.ways k)/\(if k=i then v else p.ways k)<=30;split
  ·exact hv
  ·exact h.ways k
 ·refine ⟨h.ways,λk=>?_⟩;show 0<=(if k=i-nw then v else p.works k)/\(if k=i-nw then v else p.works k)<=30;split
  ·exact hv
  ·exact h.works k
section
variable {bag kinds:Int} {ps:List ByteArray} {ws:List AB} {js:List AM} {ns:List AK} {ag:AH->Bool} {p:AH} {all pre:List AH} {f i k:Nat}
theorem BT.few(b:BT bag kinds ps ws js ns)(hi:i<ws.length+js.length):0<=CH ws js i/\CH ws js i<=EF ws js i/\EF ws js i<=30/\EF ws js i-CH ws js i<2:=by
 unfold CH EF;by_cases h:i<ws.length
 ·rw [if_pos h,if_pos h];exact (Hn b.way i h).time
 ·rw [if_neg h,if_neg h];exact (Or (b.job (i-ws.length) aA)).time
theorem YV(e:i+1=ws.length)(h:ag (p.put ws.length i (CH ws js i+(k:Int)))=false) :
  pre++(Cj (CH ws js i) (k+1)).flatMap (Bv ag ws js f i p)=pre++(Cj (CH ws js i) k).flatMap (Bv ag ws js f i p):=by
 rw [M0];unfold Bv;rw [if_pos ⟨e,h⟩,List.append_nil]
theorem Q4(h:¬(i+1=ws.length/\ag (p.put ws.length i (CH ws js i+(k:Int)))=false)) :
  pre++(Cj (CH ws js i) (k+1)).flatMap (Bv ag ws js f i p)=(pre++(Cj (CH ws js i) k).flatMap (Bv ag ws js f i p))++B6 ag ws js f (i+1) (p.put ws.length i (CH ws js i+(k:Int))):=by
 rw [M0,<-List.append_assoc];congr 1;unfold Bv;rw [if_neg h]
theorem NB(hw:CY all pre (B6 ag ws js (f+1) i p))(hk:CH ws js i+(k:Int)<=EF ws js i)(h:¬(i+1=ws.length/\ag (p.put ws.length i (CH ws js i+(k:Int)))=false)) :
  CY all (pre++(Cj (CH ws js i) k).flatMap (Bv ag ws js f i p)) (B6 ag ws js f (i+1) (p.put ws.length i (CH ws js i+(k:Int)))):=by
 rw [C2] at hw
 have:=hw.round hk
 unfold Bv at this ⊢;rw [if_neg h] at this;exact this
end
theorem Vi{lo hi:Int}(h:hi-lo<2):(Gx lo hi).length<=2:=by unfold Gx Cj;simp;omega
theorem LP{bag kinds:Int}{ps:List ByteArray}{ws:List AB}{js:List AM}{ns:List AK}(b:BT bag kinds ps ws js ns)(ag:AH->Bool):∀(f i:Nat)(p:AH),i+f=ws.length+js.length->(B6 ag ws js f i p).length<=2 ^ f
 | 0,_,_,_=>Nat.le_refl _
 | f+1,i,p,h=>by
  rw [C2];have h1:=(b.few (i:=i) aA).2.2.2;have h2:=Ti (f:=Bv ag ws js f i p) (c:=2 ^ f) (l:=Gx (CH ws js i) (EF ws js i)) λx _=>by
   unfold Bv;split
   ·exact Nat.zero_le _
   ·exact LP b ag f (i+1) _ aA
  have h3:=Nat.mul_le_mul_right (2 ^ f) (Vi h1);rw [Nat.pow_succ];omega
theorem FC{bag kinds:Int}{ps:List ByteArray}{ws:List AB}{js:List AM}{ns:List AK}(b:BT bag kinds ps ws js ns):(AE ws js ns).length<=2000000:=by
 unfold AE;split
 ·have h1:=LP b (CR ns) (ws.length+js.length) 0 AH.zero aA;have h2:2 ^ (ws.length+js.length)<=2 ^ 9:=Nat.pow_le_pow_right aA (by have:=b.wlen;have:=b.jlen;omega);omega
 ·exact Nat.zero_le _
def Ki(bag kinds:Int)(ps:List ByteArray)(ws:List AB)(js:List AM)(ns:List AK):Int:=if BH bag kinds ps ws js ns=0 then ((AE ws js ns).length:Int) else 0
section
variable {bag kinds:Int} {ps:List ByteArray} {ws:List AB} {js:List AM} {ns:List AK}
theorem YW(h:¬BH bag kinds ps ws js ns=0):(.tuple #[.int .i64 0,.int .i64 (BH bag kinds ps ws js ns)]:Value)=.tuple #[.int .i64 (Ki bag kinds ps ws js ns),.int .i64 (BH bag kinds ps ws js ns)]:=by
 unfold Ki;rw [if_neg h]
theorem tHist_ok(h:¬¬BH bag kinds ps ws js ns=0):(.tuple #[.int .i64 ((AE ws js ns).length:Int),.int .i64 0]:Value)=.tuple #[.int .i64 (Ki bag kinds ps ws js ns),.int .i64 (BH bag kinds ps ws js ns)]:=by
 have e:=Decidable.not_not.1 h;unfold Ki;rw [if_pos e,e]
end
section
variable {V:Type} {hB h hc h':GH} {I:List V->(Nat->Prop)->GH->Prop} {S:GH->Prop} {rp:Nat} {T:TypeId} {c c':Array Value} {X0 X:Nat->Prop} {pre l:List V} {v:Value}
theorem Ee.stoppedI{I':List V->(Nat->Prop)->GH->Prop}{pre':List V}(hv:v=.bool false)(r:∀l',Ee hB I S pre X0 h l' (.bool false) h'):Ee hB I' S pre' X0 h l v h':=by
 obtain ⟨ok,X',e,hs,hk,hl,_,h2⟩:=r [];cases e;exact ⟨false,X',hv,hs,hk,hl,(λx=>by cases x),h2⟩
def DV(I:List V->(Nat->Prop)->GH->Prop)(rp:Nat)(T:TypeId)(c:Array Value):List V->(Nat->Prop)->GH->Prop:=λpre X h=>
 ∃X',I pre X' h/\¬X' rp/\(∀b,X b↔X' b\/b=rp)/\h rp=some (true,.cells c T (0,0))
theorem DV.prom(P:GL hB I):GL hB (DV I rp T c):=by
 refine ⟨?_,?_⟩
 ·rintro pre X h b ⟨X',i,n,hX,hp⟩ hb;rcases (hX b).1 hb with q | rfl
  ·exact P.dom _ _ _ _ i q
  ·exact ⟨_,_,hp,rfl⟩
 ·rintro pre X h h' ⟨X',i,n,hX,hp⟩ same lB;exact ⟨X',P.stable _ _ _ _ i (λb hb=>same b ((hX b).2 (.inl hb))) lB,n,hX,by rw [same rp ((hX rp).2 (.inr rfl))];exact hp⟩
theorem DV.box(x:DV I rp T c pre X h):h rp=some (true,.cells c T (0,0)):=by obtain ⟨_,_,_,_,e⟩:=x;exact e
theorem DV.mem(x:DV I rp T c pre X h):X rp:=by obtain ⟨X',_,_,hX,_⟩:=x;exact (hX rp).2 (.inr rfl)
theorem ES.put(P:GL hB I)(y:ES hB (DV I rp T c) X0 h pre X hc)(rB:hB rp=none)(nb:h' rp=some (true,.cells c' T (0,0)))(ho:∀b,b≠rp->h' b=hc b):ES hB (DV I rp T c') X0 h pre X h':=by
 obtain ⟨⟨X',i,n,hX,hp⟩,sub,keep,base⟩:=y;exact ⟨⟨X',P.store i n ho (base.upd rB ho),n,hX,nb⟩,sub,keep.store' (sub rp ((hX rp).2 (.inr rfl))) ho,base.upd rB ho⟩
theorem DV.call{P:Program}{W:Wk P}{yv:Value}{args:Array Value}(x:DV I rp T c pre X hc)(k:∀X',I pre X' hc->Bw W yv args hc (Ee hB I S pre X' hc l)):Bw W yv args hc (Ee hB (DV I rp T c) S pre X hc l):=by
 have x':=x;obtain ⟨X',i,n,hX,hp⟩:=x;refine (k X' i).mono λv h' r=>?_;obtain ⟨ok,X1,hv,hs,hk,hl,h1,h2⟩:=r;have n1:¬X1 rp:=λq=>(hs rp q).elim n λe=>by rw [hp] at e;cases e
 refine ⟨ok,λb=>X1 b\/b=rp,hv,?_,λb p o hb hn=>hk b p o hb λq=>hn ((hX b).2 (.inl q)),hl,λe=>⟨X1,h1 e,n1,λ_=>Iff.rfl,hk.box hp n rfl⟩,h2⟩;rintro b (q | rfl)
 ·exact (hs b q).imp (λq=>(hX b).2 (.inl q)) id
 ·exact .inl ((hX _).2 (.inr rfl))
theorem DV.start(x:I pre X hc)(hp:hc rp=some (true,.cells c T (0,0)))(n:¬X rp):DV I rp T c pre (λb=>X b\/b=rp) hc:=⟨X,x,n,λ_=>Iff.rfl,hp⟩
theorem DV.final{X0:Nat->Prop}(y:ES hB I X0 h pre X hc)(hn:h rp=none)(r:Ee hB (DV I rp T c) S pre (λb=>X b\/b=rp) hc l v h'):Ee hB I S pre X0 h l v h':=by
 obtain ⟨ok,X1,hv,hs,hk,hl,h1,h2⟩:=r;cases ok with
 | true=>
  obtain ⟨X2,i2,n2,hX2,hp2⟩:=h1 rfl;refine ⟨true,X2,hv,λb q=>?_,?_,hl,λ_=>i2,λe=>by cases e⟩
  ·rcases hs b ((hX2 b).2 (.inl q)) with (q1 | rfl) | q1
   ·exact y.sub b q1
   ·exact absurd q n2
   ·exact subX y.sub y.keep (X1:=λz=>z=b) (λz e=>.inr (by rw [e];exact q1)) b rfl
  ·intro b p o hb hX;obtain ⟨o',e1,e2⟩:=y.keep b p o hb hX;obtain ⟨o2,e3,e4⟩:=hk b p o' e1 (λq=>q.elim (λq=>(y.sub b q).elim hX λe=>by rw [e] at hb;cases hb) λe=>by rw [e,hn] at hb;cases hb);refine ⟨o2,e3,?_⟩;rcases e2 with rfl | e2
   ·exact e4
   ·rcases e4 with rfl | e4
    ·exact .inr e2
    ·exact .inr ⟨e2.1,e4.2⟩
 | false=>
  refine ⟨false,λb=>X0 b\/h b=none,hv,λb q=>q,?_,hl,(λe=>by cases e),λ_=>h2 rfl⟩;intro b p o hb hX;obtain ⟨o',e1,e2⟩:=y.keep b p o hb hX;obtain ⟨o2,e3,e4⟩:=hk b p o' e1 (λq=>q.elim (λq=>(y.sub b q).elim hX λe=>by rw [e] at hb;cases hb) λe=>by rw [e,hn] at hb;cases hb);refine ⟨o2,e3,?_⟩;rcases e2 with rfl | e2
  ·exact e4
  ·rcases e4 with rfl | e4
   ·exact .inr e2
   ·exact .inr ⟨e2.1,e4.2⟩
end
end Go.Ns
namespace Go.Ns
open Go.Conc
abbrev FN:=Nat->Nat->Int
def KE(m:FN):Array Value:=#[.int .i64 (m 0 0),.int .i64 (m 0 1),.int .i64 (m 0 2),.int .i64 (m 0 3),.int .i64 (m 1 0),.int .i64 (m 1 1),.int .i64 (m 1 2),.int .i64 (m 1 3),
 .int .i64 (m 2 0),.int .i64 (m 2 1),.int .i64 (m 2 2),.int .i64 (m 2 3),.int .i64 (m 3 0),.int .i64 (m 3 1),.int .i64 (m 3 2),.int .i64 (m 3 3)]
def FN.zero:FN:=λ_ _=>0
def FN.set(m:FN)(i k:Nat)(v:Int):FN:=λa b=>if a=i/\b=k then v else m a b
theorem Jb{m:FN}{i k:Nat}(hi:i<4)(hk:k<4):(KE m)[0+i*4+k*1]? =some (.int .i64 (m i k)):=by
 match i,hi with
 | 0,_=>match k,hk with
  | 0,_=>rfl
  | 1,_=>rfl
  | 2,_=>rfl
  | 3,_=>rfl
 | 1,_=>match k,hk with
  | 0,_=>rfl
  | 1,_=>rfl
  | 2,_=>rfl
  | 3,_=>rfl
 | 2,_=>match k,hk with
  | 0,_=>rfl
  | 1,_=>rfl
  | 2,_=>rfl
  | 3,_=>rfl
 | 3,_=>match k,hk with
  | 0,_=>rfl
  | 1,_=>rfl
  | 2,_=>rfl
  | 3,_=>rfl
theorem LQ{m:FN}{i k:Nat}{v:Int}(hi:i<4)(hk:k<4):Bp (KE m) (0+i*4+k*1) [.int .i64 v]=KE (m.set i k v):=by
 match i,hi with
 | 0,_=>match k,hk with
  | 0,_=>rfl
  | 1,_=>rfl
  | 2,_=>rfl
  | 3,_=>rfl
 | 1,_=>match k,hk with
  | 0,_=>rfl
  | 1,_=>rfl
  | 2,_=>rfl
  | 3,_=>rfl
 | 2,_=>match k,hk with
  | 0,_=>rfl
  | 1,_=>rfl
  | 2,_=>rfl
  | 3,_=>rfl
 | 3,_=>match k,hk with
  | 0,_=>rfl
  | 1,_=>rfl
  | 2,_=>rfl
  | 3,_=>rfl
def Oz(i:Nat)(m:FN)(k:Nat):FN:=if¬(i:Int)=(k:Int) then m.set i k 1048576 else m
def JM(i:Nat)(m:FN)(n:Nat):FN:=(List.range n).foldl (Oz i) m
def KF(n:Nat):FN:=(List.range n).foldl (λm i=>JM i m 4) FN.zero
def Vj(p:AH)(ws:List AB)(m:FN)(k:Nat):FN:=(m.set (ws.getD k AB.z).a.toNat (ws.getD k AB.z).b.toNat (p.ways k)).set (ws.getD k AB.z).b.toNat (ws.getD k AB.z).a.toNat (p.ways k)
def BX(p:AH)(ws:List AB)(n:Nat):FN:=(List.range n).foldl (Vj p ws) (KF 4)
def Xb(by_ i:Nat)(m:FN)(k:Nat):FN:=m.set i k (min (m i k) (m i by_+m by_ k))
def IL(by_ i:Nat)(m:FN)(n:Nat):FN:=(List.range n).foldl (Xb by_ i) m
def T4(by_ np:Nat)(m:FN)(i:Nat):FN:=if m i by_=1048576 then m else IL by_ i m np
def F1(by_ np:Nat)(m:FN)(n:Nat):FN:=(List.range n).foldl (T4 by_ np) m
def DW(np:Nat)(m:FN)(n:Nat):FN:=(List.range n).foldl (λm b=>F1 b np m np) m
def BC(np:Nat)(ws:List AB)(p:AH):FN:=DW np (BX p ws ws.length) np
theorem BS{β:Type}(f:β->Nat->β)(b:β)(n:Nat):(List.range (n+1)).foldl f b=f ((List.range n).foldl f b) n:=by rw [List.range_succ,List.foldl_append];rfl
def FN.ok(m:FN):Prop:=∀i k,0<=m i k/\m i k<=1048576
theorem FN.ok_set{m:FN}(h:m.ok){i k:Nat}{v:Int}(hv:0<=v/\v<=1048576):(m.set i k v).ok:=λa b=>by
 unfold FN.set;split
 ·exact hv
 ·exact h a b
theorem FN.ok_zero:FN.zero.ok:=λ_ _=>⟨Int.le_refl 0,(aC:(0:Int)<=1048576)⟩
theorem Ho{β:Type}{Q:β->Prop}{f:β->Nat->β}(hf:∀b k,Q b->Q (f b k)):∀{l:List Nat}{b:β},Q b->Q (l.foldl f b)
 | [],_,h=>h
 | x ::l,b,h=>Ho hf (l:=l) (hf b x h)
theorem YX{i:Nat}{m:FN}{k:Nat}(h:m.ok):(Oz i m k).ok:=by
 unfold Oz;split
 ·exact FN.ok_set h aC
 ·exact h
theorem far0K_ok{i:Nat}{m:FN}{n:Nat}(h:m.ok):(JM i m n).ok:=Ho (λ_ _=>YX) h
theorem far0_ok{n:Nat}:(KF n).ok:=Ho (λ_ _ h=>far0K_ok h) FN.ok_zero
theorem YY{p:AH}{ws:List AB}{m:FN}{k:Nat}(hp:CI p)(h:m.ok):(Vj p ws m k).ok:=by
 have:=hp.ways k
 exact FN.ok_set (FN.ok_set h aA) aA
theorem O0{p:AH}{ws:List AB}{n:Nat}(hp:CI p):(BX p ws n).ok:=Ho (λ_ _ h=>YY hp h) far0_ok
theorem Vk{b i:Nat}{m:FN}{k:Nat}(h:m.ok):(Xb b i m k).ok:=by
 have h1:=h i k;have h2:=h i b;have h3:=h b k;exact FN.ok_set h aA
theorem Xc{b i:Nat}{m:FN}{n:Nat}(h:m.ok):(IL b i m n).ok:=Ho (λ_ _ h=>Vk h) h
theorem farI1_ok{b np:Nat}{m:FN}{i:Nat}(h:m.ok):(T4 b np m i).ok:=by
 unfold T4;split
 ·exact h
 ·exact Xc h
theorem Xd{b np:Nat}{m:FN}{n:Nat}(h:m.ok):(F1 b np m n).ok:=Ho (λ_ _ h=>farI1_ok h) h
theorem T5{np:Nat}{m:FN}{n:Nat}(h:m.ok):(DW np m n).ok:=Ho (λ_ _ h=>Xd h) h
theorem CA{c c':Array Value}(h:c.size=c'.size):Bp c 0 c'.toList=c':=by
 apply Array.toList_inj.1;rw [EQ _ _ _ (by simp [h])];simp [h]
theorem Iz{b:Bool}(h:(!b)=true):b=false:=by cases b <;> simp_all
theorem IM{b:Bool}(h:(!b)=false):b=true:=by cases b <;> simp_all
abbrev FD:=(Int×Int×Int×Int×Int)×Int×Int
def Ev(a:FD):Value:=.agg #[.int .i64 a.1.1,.int .i64 a.1.2.1,.int .i64 a.1.2.2.1,.int .i64 a.1.2.2.2.1,.int .i64 a.1.2.2.2.2,.int .i64 a.2.1,.int .i64 a.2.2]
def T6:FD->Option Int:=λ_=>none
def AH.w5(p:AH):Int×Int×Int×Int×Int:=(p.ways 0,p.ways 1,p.ways 2,p.ways 3,p.ways 4)
theorem FD.eq_iff(a b:FD):((a.1.1==b.1.1 && (a.1.2.1==b.1.2.1 && (a.1.2.2.1==b.1.2.2.1 && (a.1.2.2.2.1==b.1.2.2.2.1 && (a.1.2.2.2.2==b.1.2.2.2.2 && true))))) && (a.2.1==b.2.1 && (a.2.2==b.2.2 && true)))=decide (a=b):=by
 obtain ⟨⟨a1,a2,a3,a4,a5⟩,a6,a7⟩:=a;obtain ⟨⟨b1,b2,b3,b4,b5⟩,b6,b7⟩:=b;rw [Bool.eq_iff_iff];simp [and_assoc]
theorem QA(a:FD):Instr.sameBits 10000 (Ev a) (Ev a)=true:=by
 have hi:∀(n:Nat)(x:Int),Instr.sameBits n (.int .i64 x) (.int .i64 x)=true:=λn x=>by
  cases n <;> (unfold Instr.sameBits;simp)
 unfold Ev;show Instr.sameBits (9999+1) _ _=true;unfold Instr.sameBits;simp only [List.zip_cons_cons,List.zip_nil_left,List.all_cons,List.all_nil,hi];simp
def Vl(m:FN)(w:Int×Int×Int×Int×Int)(i:Nat)(M:FD->Option Int)(k:Nat):FD->Option Int:=λb=>if b=(w,(i:Int),(k:Int)) then some (m i k) else M b
def GB(m:FN)(w:Int×Int×Int×Int×Int)(i:Nat)(M:FD->Option Int)(n:Nat):FD->Option Int:=(List.range n).foldl (Vl m w i) M
def CO(m:FN)(w:Int×Int×Int×Int×Int)(np:Nat)(M:FD->Option Int)(n:Nat):FD->Option Int:=(List.range n).foldl (λM i=>GB m w i M np) M
theorem NC{m:FN}{w:Int×Int×Int×Int×Int}{i k:Nat}{M:FD->Option Int}:∀{n:Nat},k<n->GB m w i M n (w,(i:Int),(k:Int))=some (m i k)
 | 0,h=>absurd h (Nat.not_lt_zero _)
 | n+1,h=>by
  unfold GB;rw [BS];unfold Vl;by_cases e:k=n
  ·subst e;rw [if_pos rfl]
  ·rw [if_neg (λq=>e (by have h2:(k:Int)=(n:Int):=congrArg (λz:FD=>z.2.2) q;omega))];exact NC (n:=n) aA
theorem I0{m:FN}{w:Int×Int×Int×Int×Int}{i:Nat}{M:FD->Option Int}{b:FD}(hb:b.1≠w\/b.2.1≠(i:Int)):∀{n:Nat},GB m w i M n b=M b
 | 0=>rfl
 | n+1=>by
  unfold GB;rw [BS];unfold Vl;rw [if_neg (λq=>by subst q;rcases hb with h | h <;> exact h rfl)];exact I0 hb (n:=n)
theorem ND{m:FN}{w:Int×Int×Int×Int×Int}{np i k:Nat}{M:FD->Option Int}(hk:k<np):∀{n:Nat},i<n->CO m w np M n (w,(i:Int),(k:Int))=some (m i k)
 | 0,h=>absurd h (Nat.not_lt_zero _)
 | n+1,h=>by
  unfold CO;rw [BS];by_cases e:i=n
  ·subst e;exact NC hk
  ·rw [I0 (.inr (by show (i:Int)≠(n:Int);omega))];exact ND hk (n:=n) aA
theorem LR{m:FN}{w:Int×Int×Int×Int×Int}{np:Nat}{M:FD->Option Int}{b:FD}(hb:b.1≠w):∀{n:Nat},CO m w np M n b=M b
 | 0=>rfl
 | n+1=>by
  unfold CO;rw [BS,I0 (.inl hb)];exact LR hb (n:=n)
theorem w5_at{p q:AH}(e:q.w5=p.w5){k:Nat}(h:k<5):q.ways k=p.ways k:=by
 simp only [AH.w5,Prod.mk.injEq] at e;obtain ⟨e0,e1,e2,e3,e4⟩:=e
 match k,h with
 | 0,_=>exact e0
 | 1,_=>exact e1
 | 2,_=>exact e2
 | 3,_=>exact e3
 | 4,_=>exact e4
theorem O1{p q:AH}{ws:List AB}(e:q.w5=p.w5):∀{n:Nat},n<=5->BX q ws n=BX p ws n
 | 0,_=>rfl
 | n+1,h=>by
  have h1:=O1 (ws:=ws) e (n:=n) aA;unfold BX at h1 ⊢;rw [BS,BS,h1];unfold Vj;rw [w5_at e aA]
theorem Q5{p q:AH}{ws:List AB}{np:Nat}(hw:ws.length<=5)(e:q.w5=p.w5):BC np ws q=BC np ws p:=by
 unfold BC;rw [O1 e hw]
def GO(np:Nat)(ws:List AB)(l:List AH)(M:FD->Option Int):Prop:=∀q ∈ l,∀i k:Nat,i<np->k<np->M (q.w5,(i:Int),(k:Int))=some (BC np ws q i k)
theorem GO.call{np:Nat}{ws:List AB}{pq:List AH}{k:Nat}{M:FD->Option Int}(h:GO np ws (pq.take k) M)(hk:k<pq.length)(hw:ws.length<=5) :
  GO np ws (pq.take (k+1)) (CO (BC np ws (pq.getD k AH.zero)) (pq.getD k AH.zero).w5 np M np):=by
 intro q hq i j hi hj;by_cases e:q.w5=(pq.getD k AH.zero).w5
 ·rw [e,ND hj hi,Q5 hw e]
 ·rw [LR e];rw [EY AH.zero hk] at hq;rcases List.mem_append.1 hq with h1 | h1
  ·exact h q h1 i j hi hj
  ·rw [List.mem_singleton.1 h1] at e;exact absurd rfl e
theorem GO.skip{np:Nat}{ws:List AB}{pq:List AH}{k:Nat}{M:FD->Option Int}(h:GO np ws (pq.take k) M)(hk:k<pq.length)(hw:ws.length<=5)(h0:¬(k:Int)=0)(e:(pq.getD k AH.zero).w5=(pq.getD (k-1) AH.zero).w5) :
  GO np ws (pq.take (k+1)) M:=by
 intro q hq i j hi hj;rw [EY AH.zero hk] at hq;rcases List.mem_append.1 hq with h1 | h1
 ·exact h q h1 i j hi hj
 ·rw [List.mem_singleton.1 h1,e,Q5 hw e];refine h _ ?_ i j hi hj;rw [DP AH.zero aA];exact List.mem_take_iff_getElem.2 ⟨k-1,aA,rfl⟩
def EG(h:GH)(r np:Nat)(ws:List AB)(pq:List AH):Prop:=∃pm M,MapAt h r pm Ev Do M/\GO np ws pq M
theorem EG.le{h h':GH}{r np:Nat}{ws:List AB}{pq:List AH}(x:EG h r np ws pq)(l:h.Le h'):EG h' r np ws pq:=by
 obtain ⟨pm,M,⟨es,clk,hb,hl⟩,hM⟩:=x;exact ⟨pm,M,⟨es,clk,l.keep hb rfl,hl⟩,hM⟩
structure DZ(hB:GH)(r:Nat)(M:FD->Option Int)(h hc:GH):Prop where
 ok:Cs hc r Ev Do M
 keep:Ba (λb=>b=r) h hc
 base:hB.Le hc
def FRes(hB:GH)(r:Nat)(M:FD->Option Int)(h h':GH):Prop:=Cs h' r Ev Do M/\Ba (λb=>b=r) h h'/\hB.Le h'
section
variable {hB h hc h':GH} {r:Nat} {M M':FD->Option Int}
theorem Cs.some(x:Cs h r Ev Do M):∃o,h r=some (true,o)/\JO o=false:=by obtain ⟨es,clk,hb,_⟩:=x;exact ⟨_,hb,rfl⟩
theorem DZ.start(x:Cs h r Ev Do M)(l:hB.Le h):DZ hB r M h h:=⟨x,Ba.refl _ _,l⟩
theorem DZ.le(y:DZ hB r M h hc)(l:hc.Le h'):DZ hB r M h h':=by
 obtain ⟨o,ho,_⟩:=y.ok.some;exact ⟨y.ok.le_other ((l.keep ho rfl).trans ho.symm),y.keep.trans (λ_ q=>.inl q) (l.keepX _),y.base.trans l⟩
theorem DZ.store(y:DZ hB r M h hc){q:Nat}(hq:h q=none)(qB:hB q=none)(hn:q≠r)(ho:∀b,b≠q->h' b=hc b):DZ hB r M h h':=
 ⟨y.ok.le_other (ho r (Ne.symm hn)),y.keep.store hq ho,y.base.upd qB ho⟩
theorem DZ.put(y:DZ hB r M h hc)(rB:hB r=none)(x:Cs h' r Ev Do M')(ho:∀b,b≠r->h' b=hc b):DZ hB r M' h h':=⟨x,y.keep.store' (.inl rfl) ho,y.base.upd rB ho⟩
theorem DZ.call(y:DZ hB r M h hc)(m:FRes hB r M' hc h'):DZ hB r M' h h':=⟨m.1,y.keep.trans (λ_ q=>.inl q) m.2.1,m.2.2⟩
theorem DZ.ne(y:DZ hB r M h hc){q:Nat}(hq:hc q=none):q≠r:=λe=>by
 obtain ⟨o,ho,_⟩:=y.ok.some;rw [e,ho] at hq;cases hq
theorem DZ.nothing(y:DZ hB r M h hc){q:Nat}(hq:hc q=none):h q=none:=by
 cases hx:h q with
 | none=>rfl
 | some x=>
  obtain ⟨o',h1,_⟩:=y.keep q x.1 x.2 hx (y.ne hq);rw [h1] at hq;cases hq
theorem NE(x:h r=some (true,.map #[] 0)):Cs h r Ev Do T6:=Cs.empty x
theorem Cs.slDel{V:Type}(x:Cs h r Ev Do M){v:Value}{n:Nat}{enc:V->Array Value}{xs:List V}(y:AD h v n enc xs):AD (h.del r) v n enc xs:=by
 obtain ⟨es,clk,hb,_⟩:=x;exact AD.slDel y hb
theorem Cs.leF(x:Cs h r Ev Do M)(l:h.Le h'):Cs h' r Ev Do M:=by
 obtain ⟨o,ho,e⟩:=x.some;exact x.le_other ((l.keep ho e).trans ho.symm)
theorem DZ.res(y:DZ hB r M h hc):FRes hB r M h hc:=⟨y.ok,y.keep,y.base⟩
end
theorem NF{bag kinds:Int}{ps:List ByteArray}{ws:List AB}{js:List AM}{ns:List AK}(b:BT bag kinds ps ws js ns){ag:AH->Bool}:∀{f i:Nat}{p:AH},i+f=ws.length+js.length->CI p->∀q ∈ B6 ag ws js f i p,CI q
 | 0,_,p,_,hp,q,hq=>by rw [List.mem_singleton.1 hq];exact hp
 | f+1,i,p,h,hp,q,hq=>by
  rw [C2] at hq;obtain ⟨n,hn,hq⟩:=List.mem_flatMap.1 hq;have h1:=b.few (i:=i) aA;have h2:=L7.1 hn;unfold Bv at hq;split at hq
  ·cases hq
  ·exact NF b (f:=f) aA (hp.put aA) q hq
section
variable {bag kinds:Int} {ps:List ByteArray} {ws:List AB} {js:List AM} {ns:List AK}
theorem G0(b:BT bag kinds ps ws js ns):∀q ∈ AE ws js ns,CI q:=by
 intro q hq;unfold AE at hq;split at hq
 ·exact NF b aA CI.zero q hq
 ·cases hq
theorem O2(b:BT bag kinds ps ws js ns)(k:Nat):CI ((AE ws js ns).getD k AH.zero):=by
 rcases Nat.lt_or_ge k (AE ws js ns).length with h | h
 ·exact G0 b _ (CB h)
 ·rw [B2 h];exact CI.zero
def AZ(bag kinds:Int)(ps:List ByteArray)(ws:List AB)(js:List AM)(ns:List AK)(s:Int):Int:=
 if¬BH bag kinds ps ws js ns=0 then BH bag kinds ps ws js ns else if¬s=0 then s else if (AE ws js ns).length=0 then 9 else 0
variable {s:Int}
theorem Xe(h:¬BH bag kinds ps ws js ns=0):AZ bag kinds ps ws js ns s=BH bag kinds ps ws js ns:=if_pos h
theorem Xf(h:¬¬BH bag kinds ps ws js ns=0)(h2:¬s=0):AZ bag kinds ps ws js ns s=s:=by unfold AZ;rw [if_neg h,if_pos h2]
theorem Xg(h:¬¬BH bag kinds ps ws js ns=0)(h2:¬¬s=0)(h3:(AE ws js ns).length=0):AZ bag kinds ps ws js ns s=9:=by unfold AZ;rw [if_neg h,if_neg h2,if_pos h3]
theorem openB_4(h:¬¬BH bag kinds ps ws js ns=0)(h2:¬¬s=0)(h3:¬(AE ws js ns).length=0):AZ bag kinds ps ws js ns s=0:=by unfold AZ;rw [if_neg h,if_neg h2,if_neg h3]
theorem EU(h:AZ bag kinds ps ws js ns s=0):BT bag kinds ps ws js ns/\s=0/\0<(AE ws js ns).length:=by
 unfold AZ at h;split at h
 ·rename_i a;exact absurd h a
 ·split at h
  ·rename_i a b;exact absurd h b
  ·split at h
   ·cases h
   ·rename_i a b c
    exact ⟨CN (Decidable.not_not.1 a),Decidable.not_not.1 b,aA⟩
theorem w5_eq{p q:AH}(h:(!((p.ways 0==q.ways 0 && (p.ways 1==q.ways 1 && (p.ways 2==q.ways 2 && (p.ways 3==q.ways 3 && (p.ways 4==q.ways 4 && true)))))))=false):p.w5=q.w5:=by
 simp only [Bool.not_eq_false',Bool.and_eq_true,beq_iff_eq,and_true] at h;obtain ⟨e0,e1,e2,e3,e4⟩:=h;simp only [AH.w5,e0,e1,e2,e3,e4]
theorem GO.is{h:GH}{r np:Nat}{ws:List AB}{pq:List AH}{M:FD->Option Int}{k:Nat}(x:Cs h r Ev Do M)(hM:GO np ws (pq.take k) M)(hk:pq.length<=k):EG h r np ws pq:=by
 rw [List.take_of_length_le hk] at hM;exact ⟨true,M,x,hM⟩
theorem Q6{a b c d e f w:Value}{r:Nat}(h:w.cells=#[w]):Instr.fill (λx=>#[(0,6),(6,1),(7,1)][x]?) #[.int .i64 0,.int .i64 0,.slice none 0 0,.slice none 0 0,.slice none 0 0,.slice none 0 0,.slice none 0 0,.map none] [(0,.agg #[a,b,c,d,e,f]),(1,w),(2,.map (some r))]=some #[a,b,c,d,e,f,w,.map (some r)]:=by
 have e1:∀cs,(Value.agg cs).cells=cs:=λ_=>rfl;have e2:∀q,(Value.map q).cells=#[.map q]:=λ_=>rfl;simp [Instr.fill,h,e1,e2]
end
end Go.Ns
namespace Go.Ns
open Go.Conc
section
variable {P:Program} {E:GN P} {O:Nat->Value} {ds:List Deferred} {h:GH} {T:(Nat->Value)->List Deferred->GH->Prop}
variable {dst:Option Nat} {ty:TypeId} {pos:String} {af:Array Edge} {gd:Option (Nat×Bool)}
def LS(P:Program)(e:TypeId):Option Nat:=(P.info? e).map (·.bytes)
theorem Sn(z:Value)(n:Nat):(Array.range n).map (λi=>(#[z]:Array Value)[i%(#[z]:Array Value).size]!)=Array.replicate n z:=by
 apply Array.ext
 ·simp
 ·intro i h1 h2;simp [Nat.mod_one]
theorem LT{t:TypeId}{l c:Operand}{N by_:Nat}{z:Value}{e:TypeId}(hs:DU P t=some (1,#[z],e))(hby:LS P e=some by_)(hl:AO O l=.int .i64 N)(hc:AO O c=.int .i64 N)(hb:by_*N<=281474976710656)(hN2:N<=16777216)
  (k:∀r h',h r=none->h.Le h'->h' r=some (true,.cells (Array.replicate N z) e (0,0))->(∀b,b≠r->h' b=h b)->T (putS O dst (.slice (some ⟨r,0,none⟩) N N)) ds h'):BR E ⟨dst,.makeSlice t l c,ty,pos,af,gd⟩ O ds h T:=by
 unfold BR execOp;refine F0 ?_;unfold DU at hs;unfold Instr.makeSlice;rw [hl,hc];cases hu:P.underlying t with
 | none=>rw [hu] at hs;cases hs
 | some d=>
  rw [hu] at hs;cases d <;> first | (cases hs;done) | skip
  rename_i e'
  simp only at hs;cases ht:Ch P e' with
  | none=>rw [ht] at hs;cases hs
  | some x=>
   cases hz:B1 P e' with
   | none=>rw [ht,hz] at hs;cases hs
   | some z'=>
    rw [ht,hz] at hs;simp only [Option.some.injEq,Prod.mk.injEq] at hs;obtain ⟨hx2,rfl,rfl⟩:=hs;refine AG _ _ (An hu ?_);refine AG _ _ (Au ?_);refine AG _ _ (Au ?_);unfold LS at hby;unfold B1 at hz;cases hi:P.info? e' with
    | none=>rw [hi] at hz;cases hz
    | some i=>
    rw [hi] at hz hby;simp only [Option.map_some,Option.some.injEq] at hby;simp only [Option.map_eq_some_iff] at hz;obtain ⟨v,hv,hvz⟩:=hz;refine AG _ _ (Co hi ?_);have hw:IntKind.i64.wrap (N:Int)=N:=IntWalk.i64_in _ aA;simp only [hw,hby];have hb':((by_:Int)*(N:Int))<=281474976710656:=by rw [<-Int.natCast_mul];exact Int.ofNat_le.2 hb
    rw [if_neg (by simp;omega)];simp only [Int.toNat_natCast];have hask:∀(m:Nat)(Q:Unit->GH->Prop),Q () h->(askRoom m).gh P h Q:=λm Q q=>by
     unfold askRoom;split
     ·exact ⟨rfl,q⟩
     ·exact q
    refine AG _ _ (hask _ _ ?_);refine AG _ _ (GR (by rw [ht];rfl) ?_);dsimp only;rw [hx2,Nat.mul_one];by_cases hN:N=0
    ·subst hN;rw [if_pos rfl];refine AG _ _ (Au ?_);rw [show (Array.range 0).map (λi=>(#[]:Array Value)[i%(#[]:Array Value).size]!)=Array.replicate 0 z from aD];refine AG _ _ ?_;unfold newRow;refine AG _ _ (λr hr=>?_);exact k r _ hr (GH.Le.new hr _ _) (GH.set_same _ _ _ _) λb hb=>GH.set_ne _ _ _ hb
    rw [if_neg hN];unfold zeroValue;refine AG _ _ (AG _ _ (AG _ _ (Co hi ?_)));rw [hv];refine Au ?_;refine AG _ _ (Au ?_);rw [hvz,Sn];refine AG _ _ ?_;unfold newRow;refine AG _ _ (λr hr=>?_);exact k r _ hr (GH.Le.new hr _ _) (GH.set_same _ _ _ _) λb hb=>GH.set_ne _ _ _ hb
theorem Jc{V:Type}{enc:V->Array Value}{x:V}{z:Value}(he:enc x=#[z]):∀N:Nat,Da enc (List.replicate N x)=List.replicate N z
 | 0=>rfl
 | N+1=>by
  have:=Jc he N
  unfold Da at this ⊢;rw [List.replicate_succ,List.flatMap_cons,this,he];rfl
theorem AR.made{V:Type}{h h':GH}{r N:Nat}{t:TypeId}{enc:V->Array Value}{x:V}{z:Value}(hr:h r=none)(hb:h' r=some (true,.cells (Array.replicate N z) t (0,0)))(hN:N<=16777216)(he:enc x=#[z]) :
  AR h h' (.slice (some ⟨r,0,none⟩) N N) t 1 enc (List.replicate N x):=
 .inr ⟨r,N,_,by rw [List.length_replicate],hr,hb,aD,aD,by rw [List.length_replicate];omega,by rw [Jc he,List.length_replicate,Nat.mul_one];simp,λy hy=>by rw [(List.mem_replicate.1 hy).2,he];rfl⟩
end
def GC(nj:Nat)(k:Int):Int:=if¬(0<=k/\k<=(nj:Int)-1) then 6 else 0
def H2(nj:Nat)(l:List Int)(k:Nat):Int:=if¬GC nj (l.getD k 0)=0 then GC nj (l.getD k 0) else if (l.take k).any (λx=>decide (l.getD k 0=x))=true then 5 else 0
def Ak(nj:Nat)(l:List Int):Int:=C0 (H2 nj l) 0 l.length
def GD(bag kinds:Int)(ps:List ByteArray)(ws:List AB)(js:List AM)(ns:List AK)(l:List Int):Int:=
 if¬BH bag kinds ps ws js ns=0 then BH bag kinds ps ws js ns else Ak js.length l
theorem NG{nj:Nat}{k:Int}(h:GC nj k=0):0<=k/\k<nj:=by
 unfold GC at h;split at h
 ·cases h
 ·omega
theorem FE{nj:Nat}{l:List Int}(h:Ak nj l=0)(k:Nat)(hk:k<l.length):0<=l.getD k 0/\l.getD k 0<nj:=by
 have h1:=DR h k (Nat.zero_le _) aA;unfold H2 at h1;split at h1
 ·rename_i a;exact absurd h1 a
 ·rename_i a;exact NG (Decidable.not_not.1 a)
def GZ(out ps:List Int):Nat->List Int
 | 0=>out
 | i+1=>(GZ out ps i).set i ((GZ out ps i).getD i 0+ps.getD i 0)
def Cn(kinds:Int)(js:List AM)(l:List Int):Nat->List Int
 | 0=>List.replicate kinds.toNat 0
 | q+1=>GZ (Cn kinds js l q) (js.getD (l.getD q 0).toNat AM.z).parts (js.getD (l.getD q 0).toNat AM.z).parts.length
def DL(kinds:Int)(js:List AM)(l:List Int):List Int:=Cn kinds js l l.length
theorem LU(out ps:List Int):∀i,(GZ out ps i).length=out.length
 | 0=>rfl
 | i+1=>by rw [GZ,List.length_set,LU out ps i]
theorem O3(out ps:List Int)(hl:ps.length=out.length):∀i,i<=ps.length->∀j,(GZ out ps i).getD j 0=if j<i then out.getD j 0+ps.getD j 0 else out.getD j 0
 | 0,_,j=>by rw [if_neg aA];rfl
 | i+1,h,j=>by
  have e:=O3 out ps hl i aA;have hn:=LU out ps i;unfold GZ;rw [List.getD_eq_getElem?_getD,List.getElem?_set];by_cases hij:i=j
  ·subst hij;rw [if_pos rfl,if_pos aA,if_pos aA,Option.getD_some,e i,if_neg aA]
  ·rw [if_neg hij,<-List.getD_eq_getElem?_getD,e j];by_cases h1:j<i
   ·rw [if_pos h1,if_pos aA]
   ·rw [if_neg h1,if_neg aA]
section
variable {bag kinds:Int} {ps:List ByteArray} {ws:List AB} {js:List AM} {ns:List AK} {l:List Int}
theorem O4(b:BT bag kinds ps ws js ns){k:Int}(h:0<=k/\k<js.length):JobOK ps.length kinds (js.getD k.toNat AM.z):=Or (b.job k.toNat aA)
theorem I2(b:BT bag kinds ps ws js ns):∀q,(Cn kinds js l q).length=kinds.toNat
 | 0=>List.length_replicate
 | q+1=>by rw [Cn,LU,I2 b q]
theorem Kj(b:BT bag kinds ps ws js ns)(hr:∀k,k<l.length->0<=l.getD k 0/\l.getD k 0<js.length):∀q,q<=l.length->∀j,0<=(Cn kinds js l q).getD j 0/\(Cn kinds js l q).getD j 0<=5*(q:Int)
 | 0,_,j=>by
  unfold Cn;rw [List.getD_eq_getElem?_getD,List.getElem?_replicate];split <;> simp
 | q+1,h,j=>by
  have e:=Kj b hr q aA j;have x:=O4 b (hr q aA);have x2:=x.part j;have x3:=x.len;unfold Cn;rw [O3 _ _ (by rw [I2 b q];omega) _ (Nat.le_refl _)];split <;> omega
theorem addP_rng(b:BT bag kinds ps ws js ns)(hr:∀k,k<l.length->0<=l.getD k 0/\l.getD k 0<js.length){q:Nat}(hq:q<l.length){i:Nat}(hi:i<(js.getD (l.getD q 0).toNat AM.z).parts.length) :
  (GZ (Cn kinds js l q) (js.getD (l.getD q 0).toNat AM.z).parts i).length=(js.getD (l.getD q 0).toNat AM.z).parts.length/\0<=(GZ (Cn kinds js l q) (js.getD (l.getD q 0).toNat AM.z).parts i).getD i 0/\(GZ (Cn kinds js l q) (js.getD (l.getD q 0).toNat AM.z).parts i).getD i 0<=5*(q:Int)/\
  0<=(js.getD (l.getD q 0).toNat AM.z).parts.getD i 0/\(js.getD (l.getD q 0).toNat AM.z).parts.getD i 0<=5:=by
 have x:=O4 b (hr q hq);have e:=Kj b hr q aA i;have x3:=x.len;have hl:=I2 (l:=l) b q;refine ⟨by rw [LU,hl];omega,?_⟩;rw [O3 _ _ (by rw [hl];omega) i aA,if_neg aA];exact ⟨e.1,e.2,x.part i⟩
theorem Vm(b:BT bag kinds ps ws js ns):(DL kinds js l).length=kinds.toNat:=I2 b _
theorem Vn(b:BT bag kinds ps ws js ns)(hr:∀k,k<l.length->0<=l.getD k 0/\l.getD k 0<js.length)(j:Nat):0<=(DL kinds js l).getD j 0/\(DL kinds js l).getD j 0<=5*(l.length:Int):=Kj b hr _ (Nat.le_refl _) j
theorem sum_take(xs:List Int){k:Nat}(h:k<xs.length):(xs.take (k+1)).sum=(xs.take k).sum+xs.getD k 0:=by
 rw [List.take_add_one,List.sum_append,List.getD_eq_getElem?_getD,List.getElem?_eq_getElem h];simp
theorem sum_all(xs:List Int){k:Nat}(h:xs.length<=k):(xs.take k).sum=xs.sum:=by rw [List.take_of_length_le h]
theorem T7(h:GD bag kinds ps ws js ns l=0):BT bag kinds ps ws js ns/\∀k,k<l.length->0<=l.getD k 0/\l.getD k 0<js.length:=by
 unfold GD at h;split at h
 ·rename_i a;exact absurd h a
 ·rename_i a;exact ⟨CN (Decidable.not_not.1 a),FE h⟩
def Q7(bag kinds:Int)(ps:List ByteArray)(ws:List AB)(js:List AM)(ns:List AK)(l:List Int):List Int:=if¬GD bag kinds ps ws js ns l=0 then [] else DL kinds js l
def Xh(bag kinds:Int)(ps:List ByteArray)(ws:List AB)(js:List AM)(ns:List AK)(l:List Int):Bool:=if¬GD bag kinds ps ws js ns l=0 then false else decide ((DL kinds js l).sum<=bag)
end
end Go.Ns
namespace Go.Ns
open Go.Conc
section
variable {P:Program} {E:GN P} {O:Nat->Value} {ds:List Deferred} {h:GH} {T:(Nat->Value)->List Deferred->GH->Prop}
variable {dst:Option Nat} {ty:TypeId} {pos:String} {af:Array Edge} {gd:Option (Nat×Bool)}
theorem Kk{t kt vt:TypeId}{x ix:Operand}{r np:Nat}{ws:List AB}{pq:List AH}{q:AH}{a b:Int}{z:Value}(ht:LC P t=some (kt,vt))(hx:AO O x=.map (some r))(hk:AO O ix=Ev (q.w5,a,b))(hm:EG h r np ws pq)
  (hc:∀a:FD,ckP P 4 kt (Ev a)=true)
  (he:∀a b:FD,OL P 4 kt (Ev a) (Ev b)=some ((a.1.1==b.1.1 && (a.1.2.1==b.1.2.1 && (a.1.2.2.1==b.1.2.2.1 && (a.1.2.2.2.1==b.1.2.2.2.1 && (a.1.2.2.2.2==b.1.2.2.2.2 && true))))) && (a.2.1==b.2.1 && (a.2.2==b.2.2 && true))))
  (hz:(P.info? vt).bind (·.zero)=some z) (hq:q ∈ pq) (ha:0<=a/\a<np) (hb:0<=b/\b<np)
  (k:T (putS O dst (.int .i64 (BC np ws q a.toNat b.toNat))) ds h):BR E ⟨dst,.lookup t x ix false,ty,pos,af,gd⟩ O ds h T:=by
 obtain ⟨pm,M,hM,hF⟩:=hm;have e:=hF q hq a.toNat b.toNat aA aA;rw [Int.toNat_of_nonneg ha.1,Int.toNat_of_nonneg hb.1] at e;refine QV (d:=3) (a:=(q.w5,a,b)) ht hx hk hM rfl (hc _) (λb=>by rw [he,FD.eq_iff]) hz ?_;rw [e];exact k
theorem Q8{V:Type}{t:TypeId}{x:Operand}{olo ohi:Option Operand}{n:Nat}{enc:V->Array Value}{xs:List V}{v:Value}{hk:GH}(lo hi:Nat)(ht:En P t=some n)(hs:AD hk v n enc xs)(hx:AO O x=v)
  (hlo:match olo with | none=>lo=0 | some o=>∃kd,AO O o=.int kd lo) (hhi:match ohi with | none=>hi=xs.length | some o=>∃kd,AO O o=.int kd hi) (h1:lo<=hi) (h2:hi<=xs.length)
  (k:∀v',AD hk v' n enc ((xs.take hi).drop lo)->T (putS O dst v') ds h):BR E ⟨dst,.slice t x olo ohi none,ty,pos,af,gd⟩ O ds h T:=by
 have hs':=hs;obtain ⟨a,cap,rfl,hc,_,_⟩:=hs';exact Jz lo hi ht hc hx hlo hhi h1 h2 (k _ (hs.part h1 h2))
end
def YZ(F:AH->Int)(l:List AH):Nat->Int
 | 0=>F (l.getD 0 AH.zero)
 | k+1=>min (YZ F l k) (F ((l.drop 1).getD k AH.zero))
def Ya(F:AH->Int)(l:List AH):Nat->Int
 | 0=>F (l.getD 0 AH.zero)
 | k+1=>max (Ya F l k) (F ((l.drop 1).getD k AH.zero))
def EA(F:AH->Int)(l:List AH):Int:=YZ F l (l.length-1)
def CT(F:AH->Int)(l:List AH):Int:=Ya F l (l.length-1)
theorem Yb{l:List AH}{k:Nat}(h:k<l.length-1):(l.drop 1).getD k AH.zero ∈ l:=List.mem_of_mem_drop (CB (by rw [List.length_drop];exact h))
def Q9(s v:Int):Int:=if s=0 then v else 0
theorem NH(v:Int):Q9 0 v=v:=if_pos rfl
theorem NI{s v:Int}(h:¬s=0):Q9 s v=0:=if_neg h
end Go.Ns
namespace Go.Ns
open Go.Conc
theorem Vo:∀(n m:Nat)(f:Nat->Nat),(∀i,i<m->f i<n)->(∀i j,i<j->j<m->f i≠f j)->m<=n
 | 0,m,f,h,_=>by
  rcases Nat.eq_zero_or_pos m with e | e
  ·omega
  ·exact absurd (h 0 e) (Nat.not_lt_zero _)
 | n+1,m,f,h,d=>by
  rcases Nat.eq_zero_or_pos m with e | e
  ·omega
  ·have x:=Vo n (m-1) (λi=>if f i=n then f (m-1) else f i) (λi hi=>by
    have h1:=h i aA;have h2:=h (m-1) aA;have h3:=d i (m-1) hi aA;show (if f i=n then f (m-1) else f i)<n;split <;> omega) (λi j hij hj=>by
    have h1:=d i j hij aA;have h2:=d i (m-1) aA aA;have h3:=d j (m-1) aA aA;show (if f i=n then f (m-1) else f i)≠(if f j=n then f (m-1) else f j);split <;> split <;> omega)
   omega
theorem IZ{nj:Nat}{l:List Int}(h:Ak nj l=0):l.length<=nj:=by
 refine Vo nj l.length (λk=>(l.getD k 0).toNat) (λi hi=>?_) λi j hij hj=>?_
 ·have:=FE h i hi
  show (l.getD i 0).toNat<nj;omega
 ·have hi:=FE h i aA;have hj':=FE h j hj;have h1:=DR h j (Nat.zero_le _) aA;unfold H2 at h1;split at h1
  ·rename_i a;exact absurd h1 a
  ·split at h1
   ·cases h1
   ·rename_i a b
    show (l.getD i 0).toNat≠(l.getD j 0).toNat;intro e;refine b (List.any_eq_true.2 ⟨l.getD i 0,?_,decide_eq_true aA⟩);rw [List.mem_iff_getElem];refine ⟨i,by rw [List.length_take];omega,?_⟩;rw [List.getElem_take,List.getD_eq_getElem?_getD,List.getElem?_eq_getElem aA];rfl
def G9(js:List AM)(l:List Int):Nat->Int
 | 0=>0
 | q+1=>(js.getD (l.getD q 0).toNat AM.z).place
def CE(np:Nat)(ws:List AB)(js:List AM)(p:AH)(l:List Int):Nat->Int
 | 0=>0
 | q+1=>CE np ws js p l q+(BC np ws p (G9 js l q).toNat (js.getD (l.getD q 0).toNat AM.z).place.toNat+p.works (l.getD q 0).toNat)
def Ew(np:Nat)(ws:List AB)(js:List AM)(p:AH)(l:List Int):Nat->List Int
 | 0=>[]
 | q+1=>Ew np ws js p l q++[CE np ws js p l (q+1)]
def A1(np:Nat)(ws:List AB)(js:List AM)(p:AH)(l:List Int):Int:=CE np ws js p l l.length+BC np ws p (G9 js l l.length).toNat 0
theorem I3(np:Nat)(ws:List AB)(js:List AM)(p:AH)(l:List Int):∀q,(Ew np ws js p l q).length=q
 | 0=>rfl
 | q+1=>by rw [Ew,List.length_append,I3 np ws js p l q];rfl
theorem O5(np:Nat)(ws:List AB)(js:List AM)(p:AH)(l:List Int):∀q i,i<q->(Ew np ws js p l q).getD i 0=CE np ws js p l (i+1)
 | 0,i,h=>absurd h (Nat.not_lt_zero _)
 | q+1,i,h=>by
  have hl:=I3 np ws js p l q;rw [Ew,List.getD_eq_getElem?_getD];by_cases e:i<q
  ·rw [List.getElem?_append_left aA,<-List.getD_eq_getElem?_getD];exact O5 np ws js p l q i e
  ·have e2:i=q:=aA
   subst e2;rw [List.getElem?_append_right aA,hl,Nat.sub_self];rfl
section
variable {bag kinds:Int} {ps:List ByteArray} {ws:List AB} {js:List AM} {ns:List AK} {l:List Int} {p:AH}
theorem RA{np:Nat}(hp:CI p):(BC np ws p).ok:=T5 (O0 hp)
theorem goAt_rng(b:BT bag kinds ps ws js ns)(hr:∀k,k<l.length->0<=l.getD k 0/\l.getD k 0<js.length):∀q,q<=l.length->0<=G9 js l q/\G9 js l q<ps.length
 | 0,_=>by have:=b.plen;show (0:Int)<=0/\(0:Int)<_;omega
 | q+1,h=>by have:=(O4 b (hr q aA)).place;show 0<=(js.getD (l.getD q 0).toNat AM.z).place/\(js.getD (l.getD q 0).toNat AM.z).place<ps.length;omega
theorem RB(hp:CI p):∀q,0<=CE ps.length ws js p l q/\CE ps.length ws js p l q<=1048606*(q:Int)
 | 0=>⟨Int.le_refl 0,Int.le_refl 0⟩
 | q+1=>by
  have e:=RB hp q;have f:=RA (np:=ps.length) (ws:=ws) hp (G9 js l q).toNat (js.getD (l.getD q 0).toNat AM.z).place.toNat;have w:=hp.works (l.getD q 0).toNat;unfold CE;omega
end
end Go.Ns
namespace Go.Ns
open Go.Conc
theorem EG.store{h h':GH}{q r np:Nat}{ws:List AB}{pq:List AH}(x:EG h r np ws pq)(ho:∀b,b≠q->h' b=h b)(n:r≠q):EG h' r np ws pq:=by
 obtain ⟨pm,M,⟨es,clk,hb,hl⟩,hM⟩:=x;exact ⟨pm,M,⟨es,clk,(ho r n).trans hb,hl⟩,hM⟩
def eSp(x:Int×Int):Array Value:=#[.int .i64 x.1,.int .i64 x.2]
section
variable (np:Nat) (ws:List AB) (js:List AM) (pq:List AH) (l:List Int)
def endLo(i:Nat):Int:=EA (λx=>CE np ws js x l (i+1)) pq
def endHi(i:Nat):Int:=CT (λx=>CE np ws js x l (i+1)) pq
def I4:Nat->List (Int×Int)
 | 0=>[]
 | q+1=>I4 q++[(endLo np ws js pq l q,endHi np ws js pq l q)]
theorem O6:∀q,(I4 np ws js pq l q).length=q
 | 0=>rfl
 | q+1=>by rw [I4,List.length_append,O6 q];rfl
def O7(i:Nat):Bool:=decide (endHi np ws js pq l i<=(js.getD (l.getD i 0).toNat AM.z).due)
def CJ(bag kinds:Int):Bool:=decide ((DL kinds js l).sum<=bag) && (List.range l.length).all (O7 np ws js pq l)
variable {np ws js pq l}
theorem Yc{q:Nat}(h:¬(js.getD (l.getD q 0).toNat AM.z).due<CT (λx=>CE np ws js x l ((q:Int).toNat+1)) pq):O7 np ws js pq l q=true:=decide_eq_true (Int.not_lt.1 h)
theorem Ye{q:Nat}(h:(js.getD (l.getD q 0).toNat AM.z).due<CT (λx=>CE np ws js x l ((q:Int).toNat+1)) pq):O7 np ws js pq l q=false:=decide_eq_false (Int.not_le.2 h)
variable {bag kinds:Int}
theorem Vp(h:¬(DL kinds js l).sum<=bag):CJ np ws js pq l bag kinds=false:=by unfold CJ;rw [decide_eq_false h];rfl
theorem Yf{k:Nat}(hk:k<l.length)(h:(js.getD (l.getD k 0).toNat AM.z).due<CT (λx=>CE np ws js x l ((k:Int).toNat+1)) pq):CJ np ws js pq l bag kinds=false:=by
 unfold CJ;rw [Bool.and_eq_false_iff];refine .inr (Bool.eq_false_iff.2 λe=>?_)
 have:=List.all_eq_true.1 e k (List.mem_range.2 hk)
 rw [Ye h] at this;cases this
theorem safe_all{k:Nat}(h:¬¬(DL kinds js l).sum<=bag)(hs:∀j,j<k->O7 np ws js pq l j=true)(hk:l.length<=k):CJ np ws js pq l bag kinds=true:=by
 unfold CJ;rw [decide_eq_true (Decidable.not_not.1 h),Bool.true_and];exact List.all_eq_true.2 λj hj=>hs j (by have:=List.mem_range.1 hj;omega)
end
def Ds:Nat->List Int
 | 0=>[]
 | k+1=>Ds k++[(k:Int)]
theorem D5:∀n,(Ds n).length=n
 | 0=>rfl
 | n+1=>by rw [Ds,List.length_append,D5 n];rfl
def Ey(nj:Nat)(l:List Int)(i:Int):Int:=if¬Ak nj l=0 then Ak nj l else if¬(0<=i/\i<=(l.length:Int)-1) then 1 else 0
theorem T8{nj:Nat}{l:List Int}{i:Int}(h:Ey nj l i=0):Ak nj l=0/\0<=i/\i<l.length:=by
 unfold Ey at h;split at h
 ·rename_i a;exact absurd h a
 ·rename_i a
  split at h
  ·cases h
  ·exact ⟨Decidable.not_not.1 a,aA⟩
section
variable (bag kinds:Int) (ps:List ByteArray) (ws:List AB) (js:List AM) (ns:List AK) (l:List Int)
def RC:List (Int×Int):=if¬AZ bag kinds ps ws js ns (Ak js.length l)=0 then [] else I4 ps.length ws js (AE ws js ns) l l.length
def Xi:Bool:=if¬AZ bag kinds ps ws js ns (Ak js.length l)=0 then false else CJ ps.length ws js (AE ws js ns) l bag kinds
def KN(i:Int):Int:=
 if¬AZ bag kinds ps ws js ns (Ey js.length l i)=0 then 0 else if (js.getD (l.getD i.toNat 0).toNat AM.z).due<endLo ps.length ws js (AE ws js ns) l i.toNat then 1
 else if endHi ps.length ws js (AE ws js ns) l i.toNat<=(js.getD (l.getD i.toNat 0).toNat AM.z).due then 2 else 0
variable {bag kinds ps ws js ns l} {i:Int}
theorem late_yes(h0:AZ bag kinds ps ws js ns (Ey js.length l i)=0)(h:(js.getD (l.getD i.toNat 0).toNat AM.z).due<EA (λx=>CE ps.length ws js x l (i.toNat+1)) (AE ws js ns)):(1:Int)=KN bag kinds ps ws js ns l i:=by
 unfold KN;rw [if_neg (λx=>x h0)];exact (if_pos h).symm
theorem late_no(h0:AZ bag kinds ps ws js ns (Ey js.length l i)=0)(h:¬(js.getD (l.getD i.toNat 0).toNat AM.z).due<EA (λx=>CE ps.length ws js x l (i.toNat+1)) (AE ws js ns))
  (h2:CT (λx=>CE ps.length ws js x l (i.toNat+1)) (AE ws js ns)<=(js.getD (l.getD i.toNat 0).toNat AM.z).due):(2:Int)=KN bag kinds ps ws js ns l i:=by
 unfold KN;rw [if_neg (λx=>x h0)];exact ((if_neg h).trans (if_pos h2)).symm
theorem Yg(h0:AZ bag kinds ps ws js ns (Ey js.length l i)=0)(h:¬(js.getD (l.getD i.toNat 0).toNat AM.z).due<EA (λx=>CE ps.length ws js x l (i.toNat+1)) (AE ws js ns))
  (h2:¬CT (λx=>CE ps.length ws js x l (i.toNat+1)) (AE ws js ns)<=(js.getD (l.getD i.toNat 0).toNat AM.z).due):(0:Int)=KN bag kinds ps ws js ns l i:=by
 unfold KN;rw [if_neg (λx=>x h0)];exact ((if_neg h).trans (if_neg h2)).symm
theorem late_bad(h0:¬AZ bag kinds ps ws js ns (Ey js.length l i)=0):(0:Int)=KN bag kinds ps ws js ns l i:=by unfold KN;rw [if_pos h0]
end
end Go.Ns
namespace Go.Ns
open Go.Conc
def Gm(i:Nat)(pq:List AH):Nat->List Int
 | 0=>[]
 | k+1=>Gm i pq k++[(pq.getD k AH.zero).works i]
theorem G1(i:Nat)(pq:List AH):∀k,(Gm i pq k).length=k
 | 0=>rfl
 | k+1=>by rw [Gm,List.length_append,G1 i pq k];rfl
theorem O8{i:Nat}{pq:List AH}{k:Nat}(h:0<k):Gm i pq k≠[]:=λe=>by
 have:=G1 i pq k
 rw [e] at this;simp at this;omega
def MH(bag kinds:Int)(ps:List ByteArray)(ws:List AB)(js:List AM)(ns:List AK)(i:Int):List Int:=
 if¬AZ bag kinds ps ws js ns (GC js.length i)=0 then [] else Dj (Ej (Gm i.toNat (AE ws js ns) (AE ws js ns).length))
end Go.Ns
namespace Go.Ns
open Go.Conc
theorem T9{h:GH}{r:Nat}{M:Int->Option Int}(x:Cs h r Do Do M):∃y,h r=some y:=by
 obtain ⟨es,clk,hb,_⟩:=x;exact ⟨_,hb⟩
def Dq(ns:List AK)(mask:Int)(k:Nat):List AK:=((List.range k).filter (M3 mask)).map λ(i:Nat)=>ns.getD i AK.z
section
variable {ns:List AK} {mask:Int} {k:Nat} {h:GH}
theorem pickN_t(hb:mask.fdiv (2 ^ k)%2=1):Dq ns mask (k+1)=Dq ns mask k++[ns.getD k AK.z]:=by
 unfold Dq;rw [JS (by unfold M3;rw [decide_eq_true hb]),List.map_append];rfl
theorem pickN_f(hb:¬mask.fdiv (2 ^ k)%2=1):Dq ns mask (k+1)=Dq ns mask k:=by
 unfold Dq;rw [JT (by unfold M3;rw [decide_eq_false hb])]
theorem RD(ns:List AK)(mask:Int)(k:Nat):(Dq ns mask k).length<=k:=by
 unfold Dq;rw [List.length_map]
 have:=List.length_filter_le (M3 mask) (List.range k)
 rwa [List.length_range] at this
theorem UA(ns:List AK)(mask:Int)(k q:Nat)(hq:q<(Dq ns mask k).length):∃i,i<k/\(Dq ns mask k).getD q AK.z=ns.getD i AK.z:=by
 have hm:(Dq ns mask k).getD q AK.z ∈ Dq ns mask k:=CB hq;unfold Dq at hm ⊢;obtain ⟨i,hi,e⟩:=List.mem_map.1 hm;exact ⟨i,List.mem_range.1 (List.mem_filter.1 hi).1,e.symm⟩
theorem AV.pick(x:AV h ns)(mask:Int)(k:Nat):AV h (Dq ns mask k):=λq=>by
 by_cases hq:q<(Dq ns mask k).length
 ·obtain ⟨i,_,e⟩:=UA ns mask k q hq;rw [e];exact x i
 ·rw [List.getD_eq_getElem?_getD,List.getElem?_eq_none aA];exact AV.nil h 0
theorem AV.fine1(x:AV h ns)(k:Nat):(Aq (ns.getD k AK.z)).toList.all (·.oneCell')=true:=by
 show (((ns.getD k AK.z).wv.oneCell') && (true && (true && true)))=true;rw [(AD.one (x k)).2];rfl
theorem AV.fine(x:AV h ns):∀y ∈ ns,(Aq y).toList.all (·.oneCell')=true:=λy hy=>by
 obtain ⟨i,hi,e⟩:=List.mem_iff_getElem.1 hy
 have:=x.fine1 i
 rw [List.getD_eq_getElem?_getD,List.getElem?_eq_getElem hi] at this;rw [<-e];exact this
theorem Ss{nw:Nat}{ns ns':List AK}{k i:Nat}(e:ns'.getD k AK.z=ns.getD i AK.z):Dr nw ns' k=Dr nw ns i:=by unfold Dr;rw [e]
theorem BT.pick{bag kinds:Int}{ps:List ByteArray}{ws:List AB}{js:List AM}(b:BT bag kinds ps ws js ns)(mask:Int):BT bag kinds ps ws js (Dq ns mask ns.length):=
 { b with
  nlen:=Nat.le_trans (RD ns mask ns.length) b.nlen
  note:=λk hk=>by
   obtain ⟨i,hi,e⟩:=UA ns mask ns.length k hk;rw [Ss e];exact b.note i hi }
end
section
variable (ws:List AB) (js:List AM) (ns:List AK)
def Fg(x:Bool×List Int)(l:List Int):Bool:=x.1 && (decide ((x.2.length:Int)<l.length) || (decide ((l.length:Int)=x.2.length) && decide (0<Tk l x.2)))
def CD:Nat->Bool×List Int
 | 0=>(false,[])
 | q+1=>if Fg (CD q) (Dp (q:Int) ns.length)=true then CD q else if (AE ws js (Dq ns (q:Int) ns.length)).length=0 then (true,Dp (q:Int) ns.length) else CD q
variable {ws js ns} {q:Nat}
theorem H3(h:Fg (CD ws js ns q) (Dp (q:Int) ns.length)=true):CD ws js ns (q+1)=CD ws js ns q:=if_pos h
theorem NJ(h:Fg (CD ws js ns q) (Dp (q:Int) ns.length)=false)(h2:((AE ws js (Dq ns (q:Int) ns.length)).length:Int)=0):CD ws js ns (q+1)=(true,Dp (q:Int) ns.length):=by
 rw [CD,if_neg (by rw [h];simp),if_pos aA]
theorem NK(h:Fg (CD ws js ns q) (Dp (q:Int) ns.length)=false)(h2:¬((AE ws js (Dq ns (q:Int) ns.length)).length:Int)=0):CD ws js ns (q+1)=CD ws js ns q:=by
 rw [CD,if_neg (by rw [h];simp),if_neg aA]
theorem Yh{x:Bool×List Int}{l:List Int}(h:x.1=false):Fg x l=false:=by unfold Fg;rw [h];rfl
theorem Yi{x:Bool×List Int}{l:List Int}(h:¬(x.2.length:Int)<l.length)(h2:¬(l.length:Int)=x.2.length):Fg x l=false:=by
 unfold Fg;rw [decide_eq_false h,decide_eq_false h2];simp
theorem Yj{x:Bool×List Int}{l:List Int}(h:¬(x.2.length:Int)<l.length)(h2:¬0<Tk l x.2):Fg x l=false:=by
 unfold Fg;rw [decide_eq_false h,decide_eq_false h2];simp
theorem RE{x:Bool×List Int}{l:List Int}(h:x.1=true)(h1:(x.2.length:Int)<l.length):Fg x l=true:=by
 unfold Fg;rw [h,decide_eq_true h1];simp
theorem RF{x:Bool×List Int}{l:List Int}(h:x.1=true)(h1:(l.length:Int)=x.2.length)(h2:0<Tk l x.2):Fg x l=true:=by
 unfold Fg;rw [h,decide_eq_true h1,decide_eq_true h2];simp
theorem pow_16:∀{n:Nat},n<=4->(1:Int)<=(2:Int) ^ n/\(2:Int) ^ n<=16
 | 0,_=>aC
 | 1,_=>aC
 | 2,_=>aC
 | 3,_=>aC
 | 4,_=>aC
theorem O9:∀q,(CD ws js ns q).2.length<=ns.length
 | 0=>Nat.zero_le _
 | q+1=>by
  have e:=O9 q;unfold CD;split
  ·exact e
  ·split
   ·exact Qb _ _
   ·exact e
def Gn(bag kinds:Int)(ps:List ByteArray)(ws:List AB)(js:List AM)(ns:List AK):List Int:=
 if¬BH bag kinds ps ws js ns=0 then [] else if (0:Int)<(AE ws js ns).length then [] else (CD ws js ns (2 ^ ns.length)).2
end
section
variable {bag kinds:Int} {ps:List ByteArray} {ws:List AB} {js:List AM} {ns:List AK} {q:Nat}
theorem UB(h:¬BH bag kinds ps ws js ns=0):Gn bag kinds ps ws js ns=[]:=if_pos h
theorem St(h:(0:Int)<(AE ws js ns).length):Gn bag kinds ps ws js ns=[]:=by
 unfold Gn;rw [if_pos h];exact ite_self _
theorem UC(h:BH bag kinds ps ws js ns=0)(h1:¬(0:Int)<(AE ws js ns).length)(hq:¬(q:Int)<(2:Int) ^ ((ns.length:Int)).toNat)(hq2:(q:Int)<=(2:Int) ^ ((ns.length:Int)).toNat):Gn bag kinds ps ws js ns=(CD ws js ns q).2:=by
 have e:((2 ^ ns.length:Nat):Int)=(2:Int) ^ ((ns.length:Int)).toNat:=by rw [Int.toNat_natCast,Int.natCast_pow];rfl
 rw [<-e] at hq hq2
 have:2 ^ ns.length=q:=aA
 unfold Gn;rw [if_neg (λx=>x h),if_neg h1,this]
end
section
variable (ws:List AB) (js:List AM) (ns:List AK)
abbrev KG(pq:List AH)(i:Nat):Nat->Int:=λk=>(pq.getD k AH.zero).ways i
def UD(pq:List AH)(i:Nat):Int:=KM (KG pq i) pq.length
def HQ(pq:List AH)(k:Nat):Int×Int:=askTo (UD pq) (pq.length:Int) k
theorem RG{pq:List AH}{k:Nat}(h:UD pq k<(HQ pq k).2):HQ pq (k+1)=((k:Int),UD pq k):=if_pos h
theorem RH{pq:List AH}{k:Nat}(h:¬UD pq k<(HQ pq k).2):HQ pq (k+1)=HQ pq k:=if_neg h
def Su(bag kinds:Int)(ps:List ByteArray)(ws:List AB)(js:List AM)(ns:List AK):Int:=if¬AZ bag kinds ps ws js ns 0=0 then 0 else (HQ (AE ws js ns) ws.length).1
def N0(bag kinds:Int)(ps:List ByteArray)(ws:List AB)(js:List AM)(ns:List AK):Int:=if¬AZ bag kinds ps ws js ns 0=0 then 0 else (HQ (AE ws js ns) ws.length).2
end
end Go.Ns
namespace Go.Ns
open Go.Conc
def QB(hs:GH)(k0 ln:Nat)(c:Array Value)(t:TypeId)(k:Nat)(v:Value)(h:GH):Prop:=k=k0->∃r,v=.slice (some ⟨r,0,none⟩) ln ln/\hs r=none/\h r=some (true,.cells c t (0,0))
theorem QB.mono(hs:GH)(k0 ln:Nat)(c:Array Value)(t:TypeId):∀k v h1 h2,GH.Le h1 h2->QB hs k0 ln c t k v h1->QB hs k0 ln c t k v h2:=λ_ _ _ _ l x e=>by
 obtain ⟨r,q1,q2,q3⟩:=x e;exact ⟨r,q1,q2,l.keep q3 rfl⟩
theorem RI{P:Program}{E:GN P}{O:Nat->Value}{ds:List Deferred}{hs hx:GH}{dst:Option Nat}{ty:TypeId}{pos:String}{af:Array Edge}{gd:Option (Nat×Bool)}{t:TypeId}{len n k0 k:Nat}{z cells:Array Value}{e:TypeId}{parts:Array (Nat×Operand)}
  (h0:DU P t=some (n,z,e)) (hl:len*n<=2 ^ 24) (hn:(len*n=0)=False) (hf:Instr.fill (λi=>some (i*n,n)) ((Array.range (len*n)).map (z[·%z.size]!)) (parts.map λ(i,x)=>(i,AO O x)).toList=some cells) (l:hs.Le hx) :
  BR E ⟨dst,.buildSlice t len parts,ty,pos,af,gd⟩ O ds hx λσ' ds' h'=>ds'=ds/\∃v,σ'=putS O dst v/\hx.Le h'/\QB hs k0 len cells e k v h':=
 AY h0 hl hn hf λr h' hr le bx _=>⟨rfl,_,rfl,le,λ_=>⟨r,rfl,GH.Le.nothing l hr,bx⟩⟩
def LfW(hs:GH)(k0 ln:Nat)(c:Array Value)(t:TypeId)(n:Nat)(Fr:GH->Prop)(k:Nat)(v:Value)(h:GH):Prop:=QB hs k0 ln c t k v h/\(k=n->Fr h)
theorem LfW.mono(hs:GH)(k0 ln:Nat)(c:Array Value)(t:TypeId)(n:Nat){Fr:GH->Prop}(m:∀h1 h2,GH.Le h1 h2->Fr h1->Fr h2):∀k v h1 h2,GH.Le h1 h2->LfW hs k0 ln c t n Fr k v h1->LfW hs k0 ln c t n Fr k v h2:=λ_ _ _ _ l x=>⟨QB.mono _ _ _ _ _ _ _ _ _ l x.1,λe=>m _ _ l (x.2 e)⟩
theorem Vq{P:Program}{E:GN P}{O:Nat->Value}{ds:List Deferred}{hs hx:GH}{dst:Option Nat}{ty:TypeId}{pos:String}{af:Array Edge}{gd:Option (Nat×Bool)}{t:TypeId}{len n k0 N:Nat}{z cells:Array Value}{e:TypeId}{parts:Array (Nat×Operand)}{Fr:GH->Prop}(hk:k0≠N)
  (h0:DU P t=some (n,z,e)) (hl:len*n<=2 ^ 24) (hn:(len*n=0)=False) (hf:Instr.fill (λi=>some (i*n,n)) ((Array.range (len*n)).map (z[·%z.size]!)) (parts.map λ(i,x)=>(i,AO O x)).toList=some cells) (l:hs.Le hx) :
  BR E ⟨dst,.buildSlice t len parts,ty,pos,af,gd⟩ O ds hx λσ' ds' h'=>ds'=ds/\∃v,σ'=putS O dst v/\hx.Le h'/\LfW hs k0 len cells e N Fr k0 v h':=
 AY h0 hl hn hf λr h' hr le bx _=>⟨rfl,_,rfl,le,λ_=>⟨r,rfl,GH.Le.nothing l hr,bx⟩,λe=>absurd e hk⟩
theorem tFg{P:Program}{E:GN P}{l:List Oper}{n:Nat}{fl:Bool}{hs:GH}{ds:List Deferred}{Lw:Nat->Value->GH->Prop}{F:(Nat->Value)->GH->Prop}{π:List Nat}{O:Nat->Value}{h:GH}{m k g d:Nat}{dst:Option Nat}{op:Op}{ty:TypeId}{pos:String}{af:Array Edge}{v:Value}{w:Bool}{og:Oper}
  (hk:KB m=(.p,k)) (ho:l[k]? =some ⟨dst,op,ty,pos,af,some (g,w)⟩) (h1:l[g]? =some og) (h2:og.dst=some d) (h3:O d=.bool w) (x:∀hx,Lw n undef hx->SM E ⟨dst,op,ty,pos,af,some (g,w)⟩ O ds hx v)
  (y:TD E l n fl hs ds Lw F (dK π) (putS O dst v) h):TD E l n fl hs ds Lw F (dK (m ::π)) O h:=by
 unfold dK;rw [hk];exact ⟨_,true,ho,HO h1 h2 h3,λe=>(by cases e),λ_=>⟨v,x,y⟩⟩
theorem tWLg{P:Program}{E:GN P}{l:List Oper}{n:Nat}{hs:GH}{ds:List Deferred}{Lw:Nat->Value->GH->Prop}{F:(Nat->Value)->GH->Prop}{π:List Nat}{O:Nat->Value}{h:GH}{m k g d:Nat}{dst:Option Nat}{op:Op}{ty:TypeId}{pos:String}{af:Array Edge}{w:Bool}{og:Oper}(hk:KB m=(.w,k))(ho:l[k]? =some ⟨dst,op,ty,pos,af,some (g,w)⟩)(h1:l[g]? =some og)(h2:og.dst=some d)(h3:O d=.bool w)
  (x:BR E ⟨dst,op,ty,pos,af,some (g,w)⟩ O ds h λσ' ds' h'=>ds'=ds/\∃v,σ'=putS O dst v/\Lw n undef h'/\TD E l n false hs ds Lw F (dK π) (putS O dst v) h'):TD E l n false hs ds Lw F (dK (m ::π)) O h:=by
 unfold dK;rw [hk];exact ⟨_,true,ho,HO h1 h2 h3,λe=>(by cases e),λ_ hx hg=>by rw [hg.2 rfl];exact x⟩
def Ty(h:GH)(t:TypeId)(v:Value):Prop:=∀b,Cc v=some b->∃p c f,h b=some (p,.cells c t f)
def EB(h:GH)(t:TypeId)(v:Value)(xs:List Int):Prop:=AD h v 1 eI xs/\Ty h t v
theorem EB.le{h h':GH}{t:TypeId}{v:Value}{xs:List Int}(x:EB h t v xs)(l:h.Le h'):EB h' t v xs:=⟨x.1.le l,λb hb=>by
 obtain ⟨p,c,f,q⟩:=x.2 b hb;exact ⟨p,c,f,l.keep q rfl⟩⟩
theorem EB.nil(h:GH)(t:TypeId):EB h t (.slice none 0 0) []:=⟨AD.nil _ _ _,λb hb=>by cases hb⟩
theorem EB.own{h0 h:GH}{t:TypeId}{v:Value}{xs:List Int}(o:AR h0 h v t 1 eI xs):EB h t v xs:=⟨o.sl,λb hb=>by
 rcases o with ⟨rfl,_⟩ | ⟨b1,cap,c,rfl,_,h2,_⟩
 ·cases hb
 ·simp only [Cc,Option.some.injEq] at hb;subst hb;exact ⟨_,_,_,h2⟩⟩
theorem EB.same{h h':GH}{t:TypeId}{w:Value}{xs:List Int}(x:EB h t w xs)(key:∀b,Cc w=some b->h' b=h b):EB h' t w xs:=by
 refine ⟨?_,λb hb=>by rw [key b hb];exact x.2 b hb⟩;obtain ⟨a,cap,hv,hc,hm,he⟩:=x.1;refine ⟨a,cap,hv,hc,hm,λi hi=>?_⟩;obtain ⟨b,off,h1,h2⟩:=he i hi;exact ⟨b,off,h1,h2.same (key b (by rw [hv,h1];rfl))⟩
theorem EB.keepX{X:Nat->Prop}{h h':GH}{t:TypeId}{w:Value}{xs:List Int}(x:EB h t w xs)(k:Ba X h h')(n:∀b,Cc w=some b->¬X b):EB h' t w xs:=
 x.same λb hb=>by
  obtain ⟨p,c,f,q⟩:=x.2 b hb;rw [q];exact k.box q (n b hb) rfl
theorem EB.store{h h':GH}{t t':TypeId}{w:Value}{xs:List Int}{r:Nat}{p:Bool}{c:Array Value}{f:Nat×Nat}(x:EB h t w xs)(hr:h r=some (p,.cells c t' f))(ne:t'≠t)(ho:∀b,b≠r->h' b=h b):EB h' t w xs:=
 x.same λb hb=>ho b λe=>by
  obtain ⟨p2,c2,f2,q⟩:=x.2 b hb;rw [e,hr] at q;cases q;exact ne rfl
def CZ(h:GH)(t:TypeId)(l:List Sl):Prop:=∀k,EB h t (l.getD k Sl.z).1 (l.getD k Sl.z).2
theorem CZ.le{h h':GH}{t:TypeId}{l:List Sl}(x:CZ h t l)(e:h.Le h'):CZ h' t l:=λk=>(x k).le e
theorem CZ.nil(h:GH)(t:TypeId):CZ h t []:=λk=>by
 rw [B2 aD];exact EB.nil _ _
theorem PA{V:Type}(z:V)(a b:List V)(k:Nat):(a++b).getD k z=if k<a.length then a.getD k z else b.getD (k-a.length) z:=by
 simp only [List.getD_eq_getElem?_getD,List.getElem?_append];split <;> rfl
theorem CZ.app{h:GH}{t:TypeId}{l l':List Sl}(a:CZ h t l)(b:CZ h t l'):CZ h t (l++l'):=λk=>by
 rw [PA];split
 ·exact a k
 ·exact b _
theorem CZ.one{h:GH}{t:TypeId}{x:Sl}(a:EB h t x.1 x.2):CZ h t [x]:=λk=>by
 cases k with
 | zero=>exact a
 | succ k=>rw [B2 aD];exact EB.nil _ _
theorem MI(a b:List Sl):A6 (a++b)=A6 a++A6 b:=by simp [A6]
section
variable {V:Type} {hB:GH} {I:List V->(Nat->Prop)->GH->Prop} {S:GH->Prop} {X0 X X1:Nat->Prop} {h hc h':GH} {pre l:List V} {v v':Value}
def I5(hB:GH)(X0 X:Nat->Prop)(h:GH)(v:Value):Prop:=∀b,Cc v=some b->¬X b/\(X0 b\/h b=none)/\hB b=none
theorem ES.old(y:ES hB I X0 h pre X hc){b:Nat}(e:hc b=none):X0 b\/h b=none:=by
 by_cases q:X0 b
 ·exact .inl q
 ·refine .inr ?_;cases hb:h b with
  | none=>rfl
  | some x=>
   obtain ⟨o',h1,_⟩:=y.keep b x.1 x.2 hb q;rw [e] at h1;cases h1
theorem ES.fresh(P:GL hB I)(y:ES hB I X0 h pre X hc)(o:∀b,Cc v=some b->hc b=none):I5 hB X0 X h v:=λb hb=>⟨P.off y.inv (o b hb),y.old (o b hb),y.base.nothing (o b hb)⟩
theorem I5.grown(f:I5 hB X0 X h v)(P:GL hB I)(y:ES hB I X0 h pre X hc)(g:HE hc h' v v'):I5 hB X0 X h v':=λb hb=>by
 rcases g.2 with e | ⟨⟨r,e1,e2⟩,_⟩
 ·exact f b (e▸hb)
 ·rw [e1] at hb;cases hb;exact ⟨P.off y.inv e2,y.old e2,y.base.nothing e2⟩
theorem ES.app(P:GL hB I)(y:ES hB I X0 h pre X hc)(g:HE hc h' v v')(f:I5 hB X0 X h v):ES hB I X0 h pre X h':=by
 have lB:hB.Le h':=λb p o hb=>by
  obtain ⟨o1,h1,h2⟩:=y.base b p o hb;exact ⟨o1,g.1 b _ h1 λe=>(by rw [(f b e).2.2] at hb;cases hb),h2⟩
 refine ⟨P.stable _ _ hc h' y.inv (λb hb=>?_) lB,y.sub,λb p o hb hn=>?_,lB⟩
 ·obtain ⟨p,o,h1,_⟩:=P.dom _ _ _ b y.inv hb;rw [h1];exact g.1 b _ h1 λe=>(f b e).1 hb
 ·obtain ⟨o1,h1,h2⟩:=y.keep b p o hb hn;exact ⟨o1,g.1 b _ h1 λe=>(f b e).2.1.elim hn λq=>(by rw [q] at hb;cases hb),h2⟩
theorem ES.callL(y:ES hB I X0 h pre X hc)(f:I5 hB X0 X h v){u:Value}(r:Ee hB I S pre (λb=>X b\/Cc v=some b) hc l u h') :
  ∃ok X',u=.bool ok/\(∀b,X' b->(X b\/Cc v=some b)\/hc b=none)/\Ba (λb=>X b\/Cc v=some b) hc h'/\(ok=true->ES hB I X0 h (pre++l) X' h')/\(ok=false->∀l',Ee hB I S pre X0 h l' (.bool false) h'):=by
 obtain ⟨ok,X',hv,hs,hk,hl,h1,h2⟩:=r;have s:∀b,(X b\/Cc v=some b)->X0 b\/h b=none:=λb q=>q.elim (y.sub b) λe=>(f b e).2.1;have kk:Ba X0 h h':=y.keep.trans s hk;have ss:=subX s y.keep hs;exact ⟨ok,X',hv,hs,hk,λe=>⟨h1 e,ss,kk,hl⟩,λe l'=>⟨false,X',rfl,ss,kk,hl,(λx=>by cases x),λ_=>h2 e⟩⟩
end
structure PB{P:Program}(W:Wk P)(hB:GH)(yv:Value)(t:TypeId)(I:List (List Int)->(Nat->Prop)->GH->Prop)(S:GH->Prop)(all:List (List Int)):Prop where
 prom:GL hB I
 one:yv.cells=#[yv]
 call:∀pre p post X h v,all=pre++p ::post->I pre X h->hB.Le h->EB h t v p->(∀b,Cc v=some b->¬X b/\hB b=none)->Bw W yv #[v] h (Ee hB I S pre (λb=>X b\/Cc v=some b) h [p])
section
variable {P:Program} {E:GN P} {O:Nat->Value} {ds:List Deferred}
theorem RJ{t0:TypeId}{all:List (List Int)}{hB hc:GH}{J:List (List Int)->(Nat->Prop)->GH->Prop}{Stop:Code->GH->Prop}{Y0:Nat->Prop}{par:Tmp}{f:Operand}{assign body:Code}{Q:Post}
  (hrd:E.rd=none) (hpar:Nat.blt par E.N=true) (hJ:GL hB J) (hB0:hB.Le hc) (j0:J [] Y0 hc)
  (hS:∀c (h h':GH) l lo,Stop c h->h l=some (true,.loop lo)->(∀b,b≠l->h' b=h b)->Stop c h')
  (src:∀(yv:Value)(I:List (List Int)->(Nat->Prop)->GH->Prop)(Sp:GH->Prop)(X:Nat->Prop)(h:GH),PB E.wk hB yv t0 I Sp all->hB.Le h->I [] X h->Bw E.wk (AO O f) #[yv] h λ_ h'=>YEnd hB I Sp all X h h')
  (round:∀(l d:Nat)(lo:Loop)(pre:List (List Int))(p:List Int)(post:List (List Int))(Y:Nat->Prop)(h:GH)(v:Value),all=pre++p ::post->J pre Y h->hB.Le h->hB l=none->¬Y l->h l=some (true,.loop lo)->EB h t0 v p->(∀b,Cc v=some b->¬Y b/\hB b=none)->
   Tr ⟨E.wk,E.fn,some l,E.N⟩ assign (upd O par v) [] h λe σ' ds' h1=>e=.normal/\h1 l=some (true,.loop lo)/\∀h2,h2 l=some (true,.loop { lo with state:=.busy })->(∀b,b≠l->h2 b=h1 b)->
    Tr ⟨E.wk,E.fn,some l,E.N⟩ body σ' ds' h2 (Tj hB J Stop (pre++[p]) (λb=>Y b\/Cc v=some b) h l lo))
  (fin:∀(d l:Nat)(h':GH),hB.Le h'->hB d=none->hB l=none->hc d=none->h' d=some (true,.deferred (some []))->
   (∀Y,J all Y h'->(∀b,Y b->b≠d)->Q .normal O ({ target:=.collected d,args:=#[] } ::ds) h')/\
   (∀c,Stop c h'->match c with
    | .exit id=>Q (.exit id) O ({ target:=.collected d,args:=#[] } ::ds) h'
    | .ret=>Q .ret O ({ target:=.collected d,args:=#[] } ::ds) h'
    | _=>False)):Tr E (.rangeFunc f #[par] assign body) O ds hc Q:=by
 refine LE hrd λt d l hs hd hl hne=>?_;have hl':hB l=none:=hB0.nothing hl;have hd':hB d=none:=hB0.nothing hd;let lo:Loop:={ state:=.ready,pending:=none,fn:=E.fn,tmps:=t,params:=#[par],assign,body,defers:=d };have nYl:¬Y0 l:=hJ.off j0 hl;have nYd:¬Y0 d:=hJ.off j0 hd;have hL1:((hc.set d true (.deferred (some []))).set l true (.loop lo)) l=some (true,.loop lo):=GH.set_same _ _ _ _;have hL2:((hc.set d true (.deferred (some []))).set l true (.loop lo)) d=some (true,.deferred (some [])):=by rw [GH.set_ne _ _ _ (Ne.symm hne)];exact GH.set_same _ _ _ _
 have hL3:∀b,b≠l->b≠d->((hc.set d true (.deferred (some []))).set l true (.loop lo)) b=hc b:=λb h1 h2=>by rw [GH.set_ne _ _ _ h1,GH.set_ne _ _ _ h2]
 have hLB:hB.Le ((hc.set d true (.deferred (some []))).set l true (.loop lo)):=(hB0.trans (GH.Le.new hd _ _)).trans (GH.Le.new (by rw [GH.set_ne _ _ _ hne];exact hl) _ _);have hI0:M1 J l d lo [] (λb=>Y0 b\/b=l\/b=d) ((hc.set d true (.deferred (some []))).set l true (.loop lo)):=by
  refine ⟨Y0,hJ.stable _ _ hc _ j0 (λb hb=>hL3 b (λe=>nYl (e▸hb)) (λe=>nYd (e▸hb))) hLB,λb=>Iff.rfl,nYl,nYd,hL1,hL2⟩
 have prom:GL hB (M1 J l d lo):=by
  refine ⟨?_,?_⟩
  ·rintro pre X h b ⟨Y,j,hX,_,_,h1,h2⟩ hb;rcases (hX b).1 hb with h3 | rfl | rfl
   ·exact hJ.dom _ _ _ _ j h3
   ·exact ⟨_,_,h1,rfl⟩
   ·exact ⟨_,_,h2,rfl⟩
  ·rintro pre X h h' ⟨Y,j,hX,n1,n2,h1,h2⟩ same lB;refine ⟨Y,hJ.stable _ _ h h' j (λb hb=>same b ((hX b).2 (.inl hb))) lB,hX,n1,n2,?_,?_⟩
   ·rw [same l ((hX l).2 (.inr (.inl rfl)))];exact h1
   ·rw [same d ((hX d).2 (.inr (.inr rfl)))];exact h2
 have yk:PB E.wk hB (.func (.yield l) #[] #[]) t0 (M1 J l d lo) (QZ Stop l d lo) all:=by
  refine ⟨prom,rfl,?_⟩;rintro pre p post X h v hall ⟨Y,j,hX,n1,n2,h1,h2⟩ lB hsv hvX;have nvl:Cc v≠some l:=λe=>by obtain ⟨_,_,_,q⟩:=hsv.2 l e;rw [h1] at q;cases q
  have nvd:Cc v≠some d:=λe=>by obtain ⟨_,_,_,q⟩:=hsv.2 d e;rw [h2] at q;cases q
  refine OO h1 rfl ?_;have ef:(lo.params.zip #[v]).foldl (λtmps x=>tmps.setIfInBounds x.1 x.2) lo.tmps=t.setIfInBounds par v:=by simp [lo]
  rw [ef];show BW E.wk l E.fn (t.setIfInBounds par v) assign body h _;have hs':=hs.put hpar v;refine Mu (N:=E.N) hs'.1 ?_;have e0:(λi=>(t.setIfInBounds par v).getD i undef)=upd O par v:=funext hs'.2;rw [e0];refine Ju ?_ (round l d lo pre p post Y h v hall j lB hl' n1 h1 hsv λb hb=>⟨λq=>(hvX b hb).1 ((hX b).2 (.inl q)),(hvX b hb).2⟩);rintro e σ' ds' ha ⟨rfl,ha1,hb⟩;refine ⟨rfl,lo,ha1,rfl,?_⟩;refine Ju ?_ (hb _ (GH.set_same _ _ _ _) λb hb=>GH.set_ne _ _ _ hb);rintro e σ2 ds2 h3 ⟨g1,Y',g2,g3,g4,g5⟩;have hd3:h3 d=some (true,.deferred (some [])):=g3.box h2 (λq=>q.elim (λq=>q.elim n2 nvd) (λe=>hne e.symm)) rfl;have nl:¬Y' l:=λq=>(g2 l q).elim (λq=>q.elim n1 nvl) λe=>by rw [h1] at e;cases e
  have nd:¬Y' d:=λq=>(g2 d q).elim (λq=>q.elim n2 nvd) λe=>by rw [h2] at e;cases e
  have key:∀(lo2:Loop)(ok:Bool),(if ok then J (pre++[p]) Y' (h3.set l true (.loop lo2))/\lo2=lo else QZ Stop l d lo (h3.set l true (.loop lo2)))->Ee hB (M1 J l d lo) (QZ Stop l d lo) pre (λb=>X b\/Cc v=some b) h [p] (.bool ok) (h3.set l true (.loop lo2)):=by
   intro lo2 ok hok;refine ⟨ok,λb=>Y' b\/b=l\/b=d,rfl,?_,?_,?_,?_,?_⟩
   ·rintro b (hb | rfl | rfl)
    ·exact (g2 b hb).imp (λq=>q.imp (λq=>(hX b).2 (.inl q)) id) id
    ·exact .inl (.inl ((hX _).2 (.inr (.inl rfl))))
    ·exact .inl (.inl ((hX _).2 (.inr (.inr rfl))))
   ·intro b q o hb hn;have nb:b≠l:=λe=>hn (.inl ((hX b).2 (.inr (.inl e))));rw [GH.set_ne _ _ _ nb];exact g3 b q o hb λq=>q.elim (λz=>z.elim (λz=>hn (.inl ((hX b).2 (.inl z)))) λz=>hn (.inr z)) nb
   ·exact g4.upd hl' λb hb=>GH.set_ne _ _ _ hb
   ·rintro rfl;simp only [if_true] at hok;obtain ⟨hj,rfl⟩:=hok;exact ⟨Y',hj,λb=>Iff.rfl,nl,nd,GH.set_same _ _ _ _,by rw [GH.set_ne _ _ _ (Ne.symm hne)];exact hd3⟩
   ·rintro rfl;simpa using hok
  have js:∀(lo2:Loop),J (pre++[p]) Y' h3->J (pre++[p]) Y' (h3.set l true (.loop lo2)):=λlo2 hj=>hJ.store hj nl (λb hb=>GH.set_ne _ _ _ hb) (g4.upd hl' λb hb=>GH.set_ne _ _ _ hb);have ss:∀c (lo2:Loop),Stop c h3->Stop c (h3.set l true (.loop lo2)):=λc lo2 hc=>hS c h3 _ l _ hc g1 λb hb=>GH.set_ne _ _ _ hb;refine ⟨_,g1,?_⟩;cases e with
  | normal=>exact key _ true (by simp only [if_true];exact ⟨js _ g5,rfl⟩)
  | exit id=>exact key _ false (by simp only [Bool.false_eq_true,if_false];exact ⟨_,ss _ _ g5,GH.set_same _ _ _ _,by rw [GH.set_ne _ _ _ (Ne.symm hne)];exact hd3⟩)
  | ret=>exact key _ false (by simp only [Bool.false_eq_true,if_false];exact ⟨_,ss _ _ g5,GH.set_same _ _ _ _,by rw [GH.set_ne _ _ _ (Ne.symm hne)];exact hd3⟩)
  | goto _=>exact g5.elim
  | panic _=>exact g5.elim
  | outgrown=>exact g5.elim
 refine (src _ _ _ _ _ yk hLB hI0).mono ?_;rintro v h' ⟨X',hs',hk,hl2,hor⟩;rcases hor with ⟨Y,j,hX,n1,n2,h1,h2⟩ | ⟨c,hst,h1,h2⟩
 ·refine ⟨lo,h1,rfl,?_⟩;show Q .normal O _ _;have hB':=hl2.upd hl' (λb hb=>GH.set_ne h' true (.loop { lo with state:=.exhausted }) hb);refine (fin d l _ hB' hd' hl' hd (by rw [GH.set_ne _ _ _ (Ne.symm hne)];exact h2)).1 Y (hJ.store j n1 (λb hb=>GH.set_ne _ _ _ hb) hB') λb hb e=>n2 (e▸hb)
 ·refine ⟨_,h1,rfl,?_⟩;have hB':=hl2.upd hl' (λb hb=>GH.set_ne h' true (.loop { { lo with state:=.done,pending:=some c } with state:=.exhausted }) hb)
  have:=(fin d l _ hB' hd' hl' hd (by rw [GH.set_ne _ _ _ (Ne.symm hne)];exact h2)).2 c (hS c h' _ l _ hst h1 λb hb=>GH.set_ne _ _ _ hb)
  cases c with
  | exit id=>exact this
  | ret=>exact this
  | _=>exact this.elim
end
def IN(l:List Int)(k:Int):Bool:=l.any (λx=>decide (k=x))
def BU(jobs:List Int):Nat->List Int->List (List Int)
 | 0,l=>[l]
 | f+1,l=>l ::jobs.flatMap λk=>if IN l k=true then [] else BU jobs f (l++[k])
def CL(jobs:List Int):Nat->List Int->Int->List (List Int)
 | 0,_,_=>[]
 | f+1,l,k=>if IN l k=true then [] else BU jobs f (l++[k])
theorem Gp(jobs:List Int)(f:Nat)(l:List Int):BU jobs f l=l ::jobs.flatMap (CL jobs f l):=by
 cases f with
 | zero=>simp [BU,CL]
 | succ f=>rfl
def DS(jobs:List Int):List (List Int):=BU jobs jobs.length []
def Km(jobs l:List Int):Nat:=(jobs.filter λk=> !IN l k).length
theorem hasI_app(l:List Int)(k j:Int):IN (l++[k]) j=(IN l j || decide (j=k)):=by simp [IN]
theorem NL{jobs l:List Int}{k:Int}(hk:k ∈ jobs)(h:IN l k=false):Km jobs (l++[k])<Km jobs l:=by
 unfold Km;have key:∀js:List Int,(js.filter λj=> !IN (l++[k]) j).length<=(js.filter λj=> !IN l j).length/\(k ∈ js->(js.filter λj=> !IN (l++[k]) j).length<(js.filter λj=> !IN l j).length):=by
  intro js
  induction js with
  | nil=>exact ⟨Nat.le_refl _,λe=>by cases e⟩
  | cons j js ih=>
   obtain ⟨ih1,ih2⟩:=ih;rw [List.filter_cons,List.filter_cons,hasI_app];by_cases e:j=k
   ·subst e;simp only [h,Bool.false_or,decide_true,Bool.not_true,Bool.false_eq_true,if_false,Bool.not_false,if_true,List.length_cons];exact ⟨aA,λ_=>aA⟩
   ·rw [decide_eq_false e,Bool.or_false];split
    ·simp only [List.length_cons];exact ⟨aA,λq=>by have:=ih2 ((List.mem_cons.1 q).resolve_left λz=>e z.symm);omega⟩
    ·exact ⟨ih1,λq=>ih2 ((List.mem_cons.1 q).resolve_left λz=>e z.symm)⟩
 exact (key jobs).2 hk
theorem Vr{jobs:List Int}{i:Nat}{F:Int->List (List Int)}(hi:i<jobs.length):(jobs.take (i+1)).flatMap F=(jobs.take i).flatMap F++F (jobs.getD i 0):=by
 rw [EY 0 hi,List.flatMap_append];simp
theorem CY.job{all pre:List (List Int)}{jobs:List Int}{f i:Nat}{l:List Int}(w:CY all pre (BU jobs f l))(hi:i<jobs.length):CY all (pre++[l]++(jobs.take i).flatMap (CL jobs f l)) (CL jobs f l (jobs.getD i 0)):=by
 rw [Gp] at w;have w2:CY all pre ([l]++((jobs.take i).flatMap (CL jobs f l)++(CL jobs f l (jobs.getD i 0)++(jobs.drop (i+1)).flatMap (CL jobs f l)))):=by
  rw [<-List.append_assoc (List.flatMap _ _),<-Vr hi,<-List.flatMap_append,List.take_append_drop];exact w
 exact (w2.right.right).left
theorem CY.head{all pre:List (List Int)}{jobs:List Int}{f:Nat}{l:List Int}(w:CY all pre (BU jobs f l)):CY all pre [l]:=by
 rw [Gp] at w;exact CY.left (a:=[l]) w
section
variable {jobs l:List Int} {f f' i:Nat} {k:Int} {all pre:List (List Int)}
theorem Vs(hk:k ∈ jobs)(h:IN l k=false)(hu:Km jobs l<=f):∃f',f=f'+1:=⟨f-1,by have:=NL hk h;omega⟩
theorem LV(hf:f=f'+1)(h:IN l k=false):CL jobs f l k=BU jobs f' (l++[k]):=by
 subst hf;exact if_neg (by rw [h];simp)
theorem QC(h:IN l k=true):CL jobs f l k=[]:=by
 cases f with
 | zero=>rfl
 | succ f=>exact if_pos h
theorem QD(hi:i<jobs.length)(h:IN l (jobs.getD i 0)=true):pre++[l]++(jobs.take (i+1)).flatMap (CL jobs f l)=pre++[l]++(jobs.take i).flatMap (CL jobs f l):=by
 rw [Vr hi,QC h,List.append_nil]
theorem Sv(hi:i<jobs.length)(hf:f=f'+1)(h:IN l (jobs.getD i 0)=false):pre++[l]++(jobs.take (i+1)).flatMap (CL jobs f l)=(pre++[l]++(jobs.take i).flatMap (CL jobs f l))++BU jobs f' (l++[jobs.getD i 0]):=by
 rw [Vr hi,LV hf h,<-List.append_assoc]
theorem Yk(hi:jobs.length<=i):pre++BU jobs f l=pre++[l]++(jobs.take i).flatMap (CL jobs f l):=by
 rw [List.take_of_length_le hi,Gp];simp
theorem CY.go(w:CY all pre (BU jobs f l))(hi:i<jobs.length)(hf:f=f'+1)(h:IN l (jobs.getD i 0)=false):CY all (pre++[l]++(jobs.take i).flatMap (CL jobs f l)) (BU jobs f' (l++[jobs.getD i 0])):=by
 have z:=w.job hi
 rwa [LV hf h] at z
end
end Go.Ns
namespace Go.Ns
open Go.Conc
theorem HF.mem{h:GH}{l:List Sl}(a:HF h l){x:Sl}(hx:x ∈ l):AD h x.1 1 eI x.2:=by
 obtain ⟨i,hi,e⟩:=List.mem_iff_getElem.1 hx;have z:=a i;rw [List.getD_eq_getElem?_getD,List.getElem?_eq_getElem hi] at z;have z2:AD h l[i].1 1 eI l[i].2:=z;rw [<-e];exact z2
theorem CZ.all{h:GH}{t:TypeId}{l:List Sl}(a:CZ h t l):HF h l:=λk=>(a k).1
theorem CZ.drop1{h:GH}{t:TypeId}{l:List Sl}(a:CZ h t l):CZ h t (l.drop 1):=λk=>by
 rw [List.getD_eq_getElem?_getD,List.getElem?_drop,<-List.getD_eq_getElem?_getD];exact a (1+k)
theorem Vt{l:List Sl}{k:Nat}(h:k<l.length-1):(l.drop 1).getD k Sl.z ∈ l:=List.mem_of_mem_drop (CB (by rw [List.length_drop];exact h))
section
variable (G:List Int->Int) (l:List (List Int))
def Dy:Nat->List Int×Int
 | 0=>(l.getD 0 [],G (l.getD 0 []))
 | k+1=>if G ((l.drop 1).getD k [])<(Dy k).2 then ((l.drop 1).getD k [],G ((l.drop 1).getD k [])) else Dy k
def DT:List Int:=(Dy G l (l.length-1)).1
end
section
variable {G:List Int->Int} {l:List Sl} {k:Nat}
theorem Vu(l:List Sl):(A6 l).length=l.length:=List.length_map _
theorem NM(hk:k<l.length-1):((A6 l).drop 1).getD k []=((l.drop 1).getD k Sl.z).2:=by
 have e:(A6 l).drop 1=A6 (l.drop 1):=by unfold A6;rw [List.map_drop]
 rw [e,Fe (by rw [List.length_drop];exact hk)]
theorem LW(hk:k<l.length-1)(h:G ((l.drop 1).getD k Sl.z).2<(Dy G (A6 l) k).2):Dy G (A6 l) (k+1)=(((l.drop 1).getD k Sl.z).2,G ((l.drop 1).getD k Sl.z).2):=by
 rw [Dy,NM hk,if_pos h]
theorem LX(hk:k<l.length-1)(h:¬G ((l.drop 1).getD k Sl.z).2<(Dy G (A6 l) k).2):Dy G (A6 l) (k+1)=Dy G (A6 l) k:=by
 rw [Dy,NM hk,if_neg h]
theorem UE(hk:k=l.length-1):DT G (A6 l)=(Dy G (A6 l) k).1:=by unfold DT;rw [Vu,hk]
end
theorem PC:∀(n k:Nat),k<n->(Ds n).getD k 0=(k:Int)
 | 0,k,h=>absurd h (Nat.not_lt_zero _)
 | n+1,k,h=>by
  have hl:=D5 n;rw [Ds,List.getD_eq_getElem?_getD];by_cases e:k<n
  ·rw [List.getElem?_append_left aA,<-List.getD_eq_getElem?_getD];exact PC n k e
  ·have e2:k=n:=aA
   subst e2;rw [List.getElem?_append_right aA,hl,Nat.sub_self];rfl
theorem PD{n:Nat}{x:Int}(h:x ∈ Ds n):0<=x/\x<n:=by
 obtain ⟨i,hi,e⟩:=List.mem_iff_getElem.1 h;have hl:=D5 n
 have:=PC n i aA
 rw [List.getD_eq_getElem?_getD,List.getElem?_eq_getElem hi,Option.getD_some,e] at this;omega
theorem Jd{jobs:List Int}:∀(f:Nat)(l:List Int),(∀x ∈ l,x ∈ jobs)->∀r ∈ BU jobs f l,(∀x ∈ r,x ∈ jobs)/\r.length<=l.length+f
 | 0,l,h,r,hr=>by
  rw [BU,List.mem_singleton] at hr;subst hr;exact ⟨h,Nat.le_refl _⟩
 | f+1,l,h,r,hr=>by
  rw [BU,List.mem_cons] at hr;rcases hr with rfl | hr
  ·exact ⟨h,aA⟩
  ·obtain ⟨k,hk,hr⟩:=List.mem_flatMap.1 hr;split at hr
   ·cases hr
   ·have:=Jd f (l++[k]) (λx hx=>by
     rcases List.mem_append.1 hx with hx | hx
     ·exact h x hx
     ·rw [List.mem_singleton.1 hx];exact hk) r hr
    refine ⟨this.1,?_⟩;have e:=this.2;rw [List.length_append,List.length_singleton] at e;omega
theorem Sw{jobs r:List Int}(h:r ∈ DS jobs):(∀x ∈ r,x ∈ jobs)/\r.length<=jobs.length:=by
 have:=Jd jobs.length [] (λx hx=>by cases hx) r h
 simpa using this
def Sx(nj:Nat)(l:List Int):Prop:=(∀k,k<l.length->0<=l.getD k 0/\l.getD k 0<nj)/\l.length<=4
theorem Je{n:Nat}{jobs r:List Int}(hj:∀x ∈ jobs,0<=x/\x<(n:Int))(hl:jobs.length<=4)(h:r ∈ DS jobs):Sx n r:=by
 obtain ⟨h1,h2⟩:=Sw h;exact ⟨λk hk=>hj _ (h1 _ (CB hk)),aA⟩
theorem Jf{jobs:List Int}(hj:jobs.length<=4):∀(f:Nat)(l:List Int),f<=4->(BU jobs f l).length<=5 ^ f*1
 | 0,l,_=>Nat.le_refl _
 | f+1,l,hf=>by
  have key:∀js:List Int,(js.flatMap λk=>if IN l k=true then [] else BU jobs f (l++[k])).length<=js.length*5 ^ f:=by
   intro js
   induction js with
   | nil=>simp
   | cons j js ih=>
    rw [List.flatMap_cons,List.length_append,List.length_cons,Nat.add_mul,Nat.one_mul,Nat.add_comm];refine Nat.add_le_add ih ?_;split
    ·exact Nat.zero_le _
    ·have:=Jf hj f (l++[j]) aA;omega
  rw [BU,List.length_cons];have h1:=key jobs;have h2:jobs.length*5 ^ f<=4*5 ^ f:=Nat.mul_le_mul_right _ hj;have h3:1<=5 ^ f:=Nat.one_le_pow _ _ aC;rw [Nat.pow_succ];omega
theorem HR{jobs:List Int}(hj:jobs.length<=4):(DS jobs).length<=625:=by
 have h:=Jf hj jobs.length [] hj;have h2:5 ^ jobs.length<=5 ^ 4:=Nat.pow_le_pow_right aC hj;unfold DS;omega
end Go.Ns
namespace Go.Ns
open Go.Conc
section
variable {P:Program} {M:Type} {F:MD P M} {i:Option (Cr M)} {O:Nat->Value} {ds:List Deferred} {h:GH} {Q:Oh M}
theorem trI_td{id:Nat}{l:List Oper}(n:Nat)(fl:Bool)(π:List Nat)(hm:P.follows .mixedOrders=true)
  (ok:OT l (l.take n) 0 [] (λcls=>OU P F.N l n cls fl (dK π))=true) (x:TD (F.env i) l n fl h ds (λ_ _ _=>True) (λσ' h'=>GM F l.toArray (l.drop n) i σ' ds h' Q) (dK π) O h):Nk F (.region id l.toArray true) i O ds h Q:=by
 obtain ⟨cls,h1⟩:=Hh ok;intro b k cs L t hb hr hl hs hq;exact XU (E:=F.env i) n cls fl (dK π) hm (λ_ _ _ _ _ y=>y) trivial h1 x hb hr hs λσ' h' f t' ht'=>f n b k cs L t' (λj=>aD) hb hr hl ht' hq
def I6(P:Program):Frame:={ (default:Frame) with fn:=P.funcs.size,defers:=[],mode:=.panicking [goexitEntry] }
theorem quit_bot:QuitsIn P 1 (G (I6 P) []):=.inr ⟨rfl,{ G (I6 P) [] with status:=.finished },λw=>by
 show unwind P false (I6 P) [] none w=_;have hcat:(I6 P).catches P=false:=by
  unfold Frame.catches
  have:P.funcs[(I6 P).fn]? =none:=Array.getElem?_eq_none (Nat.le_refl _)
  rw [this];rfl
 have hd:(I6 P).defers=[]:=rfl;have hmd:(I6 P).mode=.panicking [goexitEntry]:=rfl;unfold unwind;simp only [hd,hmd,hcat]
 rfl,rfl⟩
theorem UF{fn:Func}{f:FuncId}{args:Array Value}{t:Array Value}{ops:Array Oper}(hf:P.funcs[f]? =some fn)(hres:fn.results=#[]):QuitsIn P 4 (G (Cm (Frame.enter P f args .deferred) t [] [.inRegion ops []]) [I6 P]):=by
 refine .inr ⟨rfl,G (Cm (Frame.enter P f args .deferred) t [] []) [I6 P],λw=>by rw [A7];simp [stepG.exec,Cm,G],?_⟩;refine .inr ⟨rfl,G (Ed (Frame.enter P f args .deferred) t [] []) [I6 P],λw=>by rw [A7];simp [stepG.exec,Cm,Ed,G,Frame.enter],?_⟩;refine .inr ⟨rfl,G (I6 P) [],λw=>?_,quit_bot⟩;show unwind P false (Ed (Frame.enter P f args .deferred) t [] []) [I6 P] none w=_;have hfn:(Ed (Frame.enter P f args .deferred) t [] []).fn=f:=rfl;have hk:(Ed (Frame.enter P f args .deferred) t [] []).kind=.deferred:=rfl;have hmd:(Ed (Frame.enter P f args .deferred) t [] []).mode=.returning:=rfl;have hd:(Ed (Frame.enter P f args .deferred) t [] []).defers=[]:=rfl;have r1:∀t,(results fn t).runT P w #[]=(.ok (.tuple #[]) w,#[]):=λt=>by
  unfold results;rw [hres];simp only [Array.mapM_empty];rfl
 unfold unwind;simp only [hd,hmd,hfn,hf,r1,GStep.after,doReturn,hk,seen_none];rfl
def I7(F:MD P M)(R:Code)(args:Array Value)(i:Option (Cr M))(O:Nat->Value)(h:GH):Prop:=∀t,BZ t F.N O->(F.wk i).K (G (Cm (Frame.enter P F.fn args .deferred) t [] [.code R]) [I6 P]) h
theorem MJ{fn:Func}{c R:Code}{s:Cr M}{ars cap args:Array Value}(hm:F.main=false)(hrd:F.rd=none)(ha:ars++cap=args)(hf:P.funcs[F.fn]? =some fn)(hc:AN fn=true)(hb:fn.body=some (.seq c R))(hN:F.N=fn.ntmps)(hsz:args.size<=fn.ntmps)(hs:¬s.isDone)
  (x:Nk F c (some s) (λi=>args.getD i undef) [] h λi e O ds h=>e=.normal/\ds=[]/\I7 F R args i O h):FJ P F.Rep F.W.K s false (born P { target:=.fn (.func F.fn) cap,args:=ars }) h:=by
 have hwk:∀s,(F.wk (some s)).K=EJ P false (ID P F.Rep F.W.K s false):=λs=>by show EJ P F.main (ID P F.Rep F.W.K s F.main)=_;rw [hm]
 rw [Gt hs];refine K6 _ _ _ _ rfl λw f=>⟨G (Frame.enter P F.fn args .deferred) [I6 P],w,#[],h,?_,Bn.refl f,?_⟩
 ·subst ha;have hi:(invoke (.fn (.func F.fn) cap) ars).runT P w #[]=(.ok (.enter F.fn (ars++cap)) w,#[]):=Sg hf hc w;show callDeferred P (I6 P) [] none { target:=.fn (.func F.fn) cap,args:=ars } w=_;unfold callDeferred;rw [if_neg aD];simp only [hi,seen_none];rfl
 have e0:Frame.enter P F.fn args .deferred=Cm (Frame.enter P F.fn args .deferred) (args++Array.replicate (fn.ntmps-args.size) undef) [] [.code (.seq c R)]:=by simp [Frame.enter,Cm,hf,hb]
 rw [e0,<-hwk s];refine Wk.go (Cm (Frame.enter P F.fn args .deferred) (args++Array.replicate (fn.ntmps-args.size) undef) [] (.code c ::.code R ::[])) (λw=>by rw [A7];simp [stepG.exec,Cm,G]) ?_;refine x (Frame.enter P F.fn args .deferred) [.code R] [I6 P] (λ_ _ _ _ _=>False) _ rfl hrd.symm (λi=>⟨λ_ _ _ q=>q.elim,λ_ _ _ _ q=>q.elim,λ_ _ _ _ _ _ q=>q.elim⟩) ⟨by rw [hN];simp;omega,λi=>?_⟩ ?_
 ·by_cases hi:i<args.size
  ·simp [Array.getD_eq_getD_getElem?,Array.getElem?_append_left hi]
  ·simp only [Array.getD_eq_getD_getElem?];rw [Array.getElem?_append_right aA,Array.getElem?_eq_none (show args.size<=i by omega),Array.getElem?_replicate];split <;> rfl
 ·rintro i e O ds h' ⟨rfl,rfl,z⟩ t' ht';exact z t' ht'
theorem Yl{fn:Func}{id:Nat}{o1 o2:Oper}{args:Array Value}{c:Nat}{m:M}{v z:Value}{hm:GH}{h1:GH}(hmn:F.main=false)(hrd:F.rd=none)(hf:P.funcs[F.fn]? =some fn)(hres:fn.results=#[])
  (hg1:o1.guard=none) (hd1:C1 o1.dst F.N=true) (hg2:o2.guard=none) (hdf1:C4 o1.op=false) (hdf:C4 o2.op=false) (hd2:C1 o2.dst F.N=true)
  (x:BR (F.env (some (.send c m .done))) o1 O [] h λσ' ds' h'=>ds'=[]/\(∀w,(execOp (AO σ') o2).runT P w #[]=(.ok (.comm #[scase c v z] true .send) w,#[]))/\GH.Split h' h1 hm/\F.Rep c m v hm) :
  I7 F (.region id [o1,o2].toArray false) args (some (.send c m .done)) O h:=by
 intro t hs;refine Wk.go (Cm (Frame.enter P F.fn args .deferred) t [] (.inRegion [o1,o2].toArray [0,1] ::[])) (λw=>by rw [A7];simp [stepG.exec,Cm,G,List.range_eq_range',Array.range];rfl) ?_;refine Jv (E:=F.env (some (.send c m .done))) (o:=o1) (rest:=[1]) rfl (by simp [Region.wanted,hg1]) (.inr hdf1) hd1 hs x ?_;rintro σ' ds' h' ⟨rfl,hr,hsp,hrep⟩ t' ht';refine EJ.stop ⟨_,[I6 P],v,z,hm,h1,rfl,⟨λw fw=>?_,hsp,hrep,4,?_⟩⟩
 ·rw [hmn];exact Se ht' rfl (by simp [Region.wanted,hg2]) (.inr hdf) (hr w)
 ·rw [C5 (ops:=[o1,o2].toArray) (i:=1) (o:=o2) rfl];exact UF hf hres
theorem Ym{dst:Option Nat}{x:Operand}{tys:Array TypeId}{ty:TypeId}{pos:String}{af:Array Edge}{gd:Option (Nat×Bool)}{ch s r:Nat}{w:World}(hx:AO O x=.chan (some ch))(hw:w.heap[ch]? =some (.chan 0 #[] false s r false)) :
  (execOp (AO O) ⟨dst,.call ⟨.builtin .close,#[x],tys⟩,ty,pos,af,gd⟩).runT P w #[]=(.ok (.value (.tuple #[])) { w with heap:=w.heap.setIfInBounds ch (.chan 0 #[] true s r false) },#[⟨.obj ch,false,true⟩,⟨.obj ch,true,true⟩]):=by
 have q:execOp (AO O) ⟨dst,.call ⟨.builtin .close,#[x],tys⟩,ty,pos,af,gd⟩=builtin .close tys ty (#[x].map fun | .const _=>true | _=>false) (#[x].map (AO O)):=by
  show (resolve (AO O) _ ty).bind _=_;unfold resolve;rfl
 have e:(#[x].map (AO O))=#[Value.chan (some ch)]:=by simp [hx]
 rw [q,e];show Sem.runT P (.getObj ch λo=>_) w #[]=_;unfold Sem.runT;rw [hw];show Sem.runT P (.setObj ch (.chan 0 #[] true s r false) _) w _=_;unfold Sem.runT;rw [hw];rfl
theorem PE{fn:Func}{id:Nat}{o1:Oper}{dst:Option Nat}{xo:Operand}{tys:Array TypeId}{ty:TypeId}{pos:String}{af:Array Edge}{args:Array Value}{c:Nat}(hmn:F.main=false)(hf:P.funcs[F.fn]? =some fn)(hres:fn.results=#[])
  (hg1:o1.guard=none) (hd1:C1 o1.dst F.N=true) (hdf1:C4 o1.op=false)
  (x:BR (F.env (some (.close c .done))) o1 O [] h λσ' ds' _=>ds'=[]/\AO σ' xo=.chan (some c)) :
  I7 F (.region id [o1,⟨dst,.call ⟨.builtin .close,#[xo],tys⟩,ty,pos,af,none⟩].toArray false) args (some (.close c .done)) O h:=by
 intro t hs;refine Wk.go (Cm (Frame.enter P F.fn args .deferred) t [] (.inRegion [o1,⟨dst,.call ⟨.builtin .close,#[xo],tys⟩,ty,pos,af,none⟩].toArray [0,1] ::[])) (λw=>by rw [A7];simp [stepG.exec,Cm,G,List.range_eq_range',Array.range];rfl) ?_;refine Jv (E:=F.env (some (.close c .done))) (o:=o1) (rest:=[1]) rfl (by simp [Region.wanted,hg1]) (.inr hdf1) hd1 hs x ?_;rintro σ' ds' h' ⟨rfl,hx⟩ t' ht';refine EJ.stop ⟨_,[I6 P],Cm (Frame.enter P F.fn args .deferred) (U7 t' dst (.tuple #[])) [] [.inRegion [o1,⟨dst,.call ⟨.builtin .close,#[xo],tys⟩,ty,pos,af,none⟩].toArray []],[I6 P],rfl,⟨λw s r fw hw=>?_,rfl,4,UF hf hres⟩⟩;rw [hmn,Oi ht' (ops:=[o1,⟨dst,.call ⟨.builtin .close,#[xo],tys⟩,ty,pos,af,none⟩].toArray) (n:=1) (o:=⟨dst,.call ⟨.builtin .close,#[xo],tys⟩,ty,pos,af,none⟩) rfl (by simp [Region.wanted]) (.inr rfl)];simp only [stepG.apply,Ym hx hw,if_true];have hk:((Cm (Frame.enter P F.fn args .deferred) t' [] [.inRegion [o1,⟨dst,.call ⟨.builtin .close,#[xo],tys⟩,ty,pos,af,none⟩].toArray [1]]).kind==CallKind.early)=false:=rfl;rw [C5 (ops:=[o1,⟨dst,.call ⟨.builtin .close,#[xo],tys⟩,ty,pos,af,none⟩].toArray) (i:=1) rfl];simp only [hk,Bool.false_eq_true,if_false];show GStep.go _ _ (seen P _ _++ #[])=_;rw [VX];rfl
end
end Go.Ns
namespace Go.Ns
open Go.Conc
theorem CZ.at{h:GH}{t:TypeId}{l:List Sl}(a:CZ h t l){x:Sl}(hx:x ∈ l):EB h t x.1 x.2:=by
 obtain ⟨i,hi,e⟩:=List.mem_iff_getElem.1 hx;have z:=a i;rw [List.getD_eq_getElem?_getD,List.getElem?_eq_getElem hi] at z;have z2:EB h t l[i].1 l[i].2:=z;rw [<-e];exact z2
theorem CZ.of{h:GH}{t:TypeId}{l:List Sl}(a:∀x ∈ l,EB h t x.1 x.2):CZ h t l:=λk=>by
 by_cases hk:k<l.length
 ·exact a _ (CB hk)
 ·rw [B2 aA];exact EB.nil _ _
theorem CZ.store{h h':GH}{t t':TypeId}{l:List Sl}{r:Nat}{p:Bool}{c:Array Value}{f:Nat×Nat}(x:CZ h t l)(hr:h r=some (p,.cells c t' f))(ne:t'≠t)(ho:∀b,b≠r->h' b=h b):CZ h' t l:=λk=>(x k).store hr ne ho
theorem EB.storeL{h h':GH}{t:TypeId}{w:Value}{xs:List Int}{r:Nat}{p:Bool}{lo:Loop}(x:EB h t w xs)(hr:h r=some (p,.loop lo))(ho:∀b,b≠r->h' b=h b):EB h' t w xs:=
 x.same λb hb=>ho b λe=>by
  obtain ⟨p2,c2,f2,q⟩:=x.2 b hb;rw [e,hr] at q;cases q
def RK(hB:GH)(r:Nat)(T t t0:TypeId)(F:List Int->Bool)(pre:List (List Int))(Y:Nat->Prop)(h:GH):Prop:=
 ∃w l',h r=some (true,.cells #[w] T (0,0))/\AR hB h w t 1 Kz l'/\A9 w r/\hB r=none/\A6 l'=pre.filter F/\CZ h t0 l'/\∀b,Y b↔b=r\/Cc w=some b\/∃x ∈ l',Cc x.1=some b
section
variable {hB h h' ha hb:GH} {r:Nat} {T t t0:TypeId} {F:List Int->Bool} {pre:List (List Int)} {p:List Int} {w w' v:Value} {Y:Nat->Prop} {l':List Sl}
theorem PG(hB:GH)(r:Nat)(T t t0:TypeId)(F:List Int->Bool):GL hB (RK hB r T t t0 F):=by
 refine ⟨?_,?_⟩
 ·rintro pre Y h b ⟨w,l',h1,h2,h3,h0,h5,h6,h4⟩ hb;rcases (h4 b).1 hb with rfl | h7 | ⟨x,hx,h7⟩
  ·exact ⟨_,_,h1,rfl⟩
  ·obtain ⟨c,hc⟩:=h2.cellsAt b h7;exact ⟨_,_,hc,rfl⟩
  ·obtain ⟨q,c,f,hc⟩:=(h6.at hx).2 b h7;exact ⟨_,_,hc,rfl⟩
 ·rintro pre Y h h' ⟨w,l',h1,h2,h3,h0,h5,h6,h4⟩ same lB;refine ⟨w,l',by rw [same r ((h4 r).2 (.inl rfl))];exact h1,h2.keep λb o hb ho=>by rw [same b ((h4 b).2 (.inr (.inl hb)))];exact ho,h3,h0,h5,.of λx hx=>(h6.at hx).same λb hb=>same b ((h4 b).2 (.inr (.inr ⟨x,hx,hb⟩))),h4⟩
theorem NN(x:h r=some (true,.cells #[.slice none 0 0] T (0,0)))(h0:hB r=none):RK hB r T t t0 F [] (λb=>b=r) h:=
 ⟨_,[],x,AR.nil _ _ _ _ _,A9.nil,h0,rfl,CZ.nil _ _,λ_=>⟨.inl,λq=>q.elim id λe=>e.elim (λe=>by cases e) λ⟨_,e,_⟩=>by cases e⟩⟩
theorem RL(hY:∀b,Y b↔b=r\/Cc w=some b\/∃x ∈ l',Cc x.1=some b)(g:HE ha hb w w')(hn:∀q,ha q=none->h q=none)(x:h' r=some (true,.cells #[w'] T (0,0)))(o:AR hB h' w' t 1 Kz (l'++[(v,p)]))(f:A9 w' r)(h0:hB r=none)
  (hl:A6 l'=pre.filter F) (hp:F p=true) (ta:CZ h' t0 (l'++[(v,p)])):∃Y',(∀b,Y' b->(Y b\/Cc v=some b)\/h b=none)/\RK hB r T t t0 F (pre++[p]) Y' h':=by
 refine ⟨λb=>b=r\/Cc w'=some b\/∃x ∈ l'++[(v,p)],Cc x.1=some b,?_,w',_,x,o,f,h0,?_,ta,λ_=>Iff.rfl⟩
 ·rintro b (rfl | hb | ⟨y,hy,hb⟩)
  ·exact .inl (.inl ((hY _).2 (.inl rfl)))
  ·rcases g.2 with e | ⟨⟨q,e1,e2⟩,_⟩
   ·exact .inl (.inl ((hY _).2 (.inr (.inl (by rw [<-e];exact hb)))))
   ·rw [e1] at hb;cases hb;exact .inr (hn _ e2)
  ·rcases List.mem_append.1 hy with hy | hy
   ·exact .inl (.inl ((hY _).2 (.inr (.inr ⟨y,hy,hb⟩))))
   ·rw [List.mem_singleton.1 hy] at hb;exact .inl (.inr hb)
 ·rw [MI,hl,List.filter_append];simp [A6,hp]
theorem Vv(hY:∀b,Y b↔b=r\/Cc w=some b\/∃x ∈ l',Cc x.1=some b)(x:h' r=some (true,.cells #[w] T (0,0)))(o:AR hB h' w t 1 Kz l')(f:A9 w r)(h0:hB r=none)(hl:A6 l'=pre.filter F)(hp:F p=false)(ta:CZ h' t0 l') :
  ∃Y',(∀b,Y' b->(Y b\/Cc v=some b)\/h b=none)/\RK hB r T t t0 F (pre++[p]) Y' h':=
 ⟨Y,λ_ q=>.inl (.inl q),w,l',x,o,f,h0,by rw [hl,List.filter_append];simp [hp],ta,hY⟩
end
def tVal:Dk->Value
 | .job i=>.int .i64 i
 | .res i b=>.agg #[.int .i64 i,.bool b]
 | .tick=>.bool true
def tOK(n:Nat):Dk->Prop
 | .job i=>i<n
 | .res i _=>i<n
 | .tick=>True
def Nm(n:Nat):Nat->Dk->Value->GH->Prop:=λ_ m v hm=>v=tVal m/\tOK n m/\hm=λ_=>none
theorem GH.split_none(h:GH):GH.Split h h (λ_=>none) where
 left:=λb p o hb=>⟨p,hb,id⟩
 right:=λb p o hb=>by cases hb
 one:=λ_ _ _ _ hb=>by cases hb
 two:=λ_ _ _ hb _=>by cases hb
section
variable {cj co cd n k:Nat} {ok:Nat->Bool}
theorem Yn(h:k<n):some (HG cj (n-k) k)=some (.send cj (.job k) (HG cj (n-(k+1)) (k+1))):=by
 rw [show n-k=(n-(k+1))+1 by omega];rfl
theorem feed_end(h:n<=k):some (HG cj (n-k) k)=some (.close cj .done):=by rw [show n-k=0 by omega];rfl
theorem UG:∀m k,¬(HG cj m k).isDone
 | 0,_=>id
 | _+1,_=>id
theorem UH:∀m,¬(FR cj co cd ok m).isDone
 | 0=>id
 | _+1=>id
theorem Yo{m:Nat}:∀o,¬(Tz co cd ok (FR cj co cd ok m) o).isDone
 | none=>id
 | some (.job _)=>id
 | some (.res _ _)=>id
 | some .tick=>id
theorem RM:∀t,¬(EE co cd t).isDone
 | 0=>id
 | _+1=>id
theorem Vw{t:Nat}:∀o,¬(ME (EE co cd t) o).isDone
 | none=>id
 | some (.job _)=>id
 | some (.res _ _)=>id
 | some .tick=>RM t
theorem UI:∀m R,¬(FS co ok m R).isDone
 | 0,_=>id
 | _+1,_=>id
theorem Xj{c:Prop}[Decidable c]{a b:Cr Dk}(ha:¬a.isDone)(hb:¬b.isDone):¬(if c then a else b).isDone:=by split <;> assumption
theorem Yp{m:Nat}{R:List Nat}:∀o,¬(H1 ok R (FS co ok m) o).isDone
 | none=>Xj id id
 | some (.job _)=>id
 | some .tick=>id
 | some (.res _ _)=>Xj (UI _ _) id
theorem UJ:∀m,¬(Hm cj co cd n ok m).isDone
 | 0=>id
 | _+1=>id
theorem Vx(h:k<3):some (EE co cd (3-k))=some (.recv cd (ME (EE co cd (3-(k+1))))):=by
 rw [show 3-k=(3-(k+1))+1 by omega];rfl
theorem Yq(h:3<=k):some (EE co cd (3-k))=some (.close co .done):=by rw [show 3-k=0 by omega];rfl
theorem Yr(h:k<3):some (Hm cj co cd n ok (3-k))=some (.spawn (FR cj co cd ok (n+1)) (Hm cj co cd n ok (3-(k+1)))):=by
 rw [show 3-k=(3-(k+1))+1 by omega];rfl
theorem crew_end(h:3<=k):some (Hm cj co cd n ok (3-k))=some (.spawn (EE co cd 3) (FS co ok (n+1) (List.range n))):=by rw [show 3-k=0 by omega];rfl
end
def Sy(n:Nat)(ok:Nat->Bool)(R:List Nat):List Bool:=(List.range n).map λi=>if i ∈ R then false else ok i
theorem Xk(n:Nat)(ok:Nat->Bool)(R:List Nat):(Sy n ok R).length=n:=by unfold Sy;rw [List.length_map,List.length_range]
theorem Ys(n:Nat)(ok:Nat->Bool):Sy n ok (List.range n)=List.replicate n false:=by
 unfold Sy;refine List.ext_getElem aD λi h1 h2=>?_
 have:i<n:=by simpa using h1
 simp [this]
theorem isL_put{n i:Nat}{ok:Nat->Bool}{R:List Nat}(hR:R.Nodup):(Sy n ok R).set i (ok i)=Sy n ok (R.erase i):=by
 unfold Sy;refine List.ext_getElem aD λj h1 h2=>?_;rw [List.getElem_set];simp only [List.getElem_map,List.getElem_range,List.Nodup.mem_erase_iff hR];by_cases e:i=j
 ·subst e;simp
 ·rw [if_neg e]
  have:j≠i:=λq=>e q.symm
  simp [this]
theorem Xl{n:Nat}{ok:Nat->Bool}{k:Nat}(hk:k<n):(Sy n ok []).getD k false=ok k:=by
 unfold Sy;rw [List.getD_eq_getElem?_getD,List.getElem?_map,List.getElem?_range hk];simp
def I8(fl:List Sl)(ok:Nat->Bool):Nat->List Sl
 | 0=>[]
 | k+1=>if ok k=true then I8 fl ok k++[fl.getD k Sl.z] else I8 fl ok k
theorem selS_t{fl:List Sl}{ok:Nat->Bool}{k:Nat}(h:ok k=true):I8 fl ok (k+1)=I8 fl ok k++[fl.getD k Sl.z]:=if_pos h
theorem selS_f{fl:List Sl}{ok:Nat->Bool}{k:Nat}(h:ok k=false):I8 fl ok (k+1)=I8 fl ok k:=if_neg (by rw [h];simp)
theorem UK(fl:List Sl)(ok:Nat->Bool):∀k,(I8 fl ok k).length<=k
 | 0=>Nat.le_refl _
 | k+1=>by
  have:=UK fl ok k
  unfold I8;split
  ·rw [List.length_append,List.length_singleton];omega
  ·omega
theorem PH{fl:List Sl}{G:List Int->Bool}:∀k,k<=fl.length->A6 (I8 fl (λi=>G (fl.getD i Sl.z).2) k)=((A6 fl).take k).filter G
 | 0,_=>rfl
 | k+1,h=>by
  have ih:=PH (fl:=fl) (G:=G) k aA;have e:(A6 fl).take (k+1)=(A6 fl).take k++[(fl.getD k Sl.z).2]:=by rw [EY [] (by rw [CF];omega),Fe (l:=fl) aA]
  unfold I8;rw [e,List.filter_append];by_cases q:G (fl.getD k Sl.z).2=true
  ·rw [if_pos q,MI,ih,List.filter_cons_of_pos q];rfl
  ·rw [if_neg q,ih,List.filter_cons_of_neg q,List.filter_nil,List.append_nil]
end Go.Ns
namespace Go.Ns
open Go.Conc
section
variable {P:Program} {M:Type} {F:MD P M} {i i':Option (Cr M)} {O:Nat->Value} {ds:List Deferred} {h:GH} {Q:Oh M}
theorem trI_ix{c:Code}(e:i=i')(x:Nk F c i' O ds h Q):Nk F c i O ds h Q:=e▸x
theorem I9{ops:Array Oper}{l:List Oper}(e:i=i')(x:GM F ops l i' O ds h Q):GM F ops l i O ds h Q:=e▸x
theorem Yt{c:Code}{Q:Post}(x:Nk F c none O ds h λi e O ds h=>i=none/\Q e O ds h):Tr ⟨F.W,F.fn,F.rd,F.N⟩ c O ds h Q:=by
 intro b k cs L t hb hr hl hs hc;refine x b k cs (λi=>match i with | none=>L | some _=>λ_ _ _ _=>False) t hb hr (λi=>?_) hs λi e σ' ds' h' q t' ht'=>?_
 ·cases i with
  | none=>exact hl
  | some s=>exact ⟨λ_ _ _ x=>x.elim,λ_ _ _ _ x=>x.elim,λ_ _ _ _ _ _ x=>x.elim⟩
 ·obtain ⟨rfl,q⟩:=q;exact hc e σ' ds' h' q t' ht'
theorem trI_end{c:Code}{Q:Post}(x:Tr (F.env none) c O ds h Q):Nk F c none O ds h λi e O ds h=>i=none/\Q e O ds h:=
 IY (Ju (λ_ _ _ _ q=>⟨rfl,q⟩) x)
variable {dst:Option Nat} {ty:TypeId} {pos:String} {af:Array Edge} {gd:Option (Nat×Bool)}
theorem PI{a x:Operand}{c:Nat}{v:Value}(ha:AO O a=.chan (some c))(hx:AO O x=v)(w:World):(execOp (AO O) ⟨dst,.send a x,ty,pos,af,gd⟩).runT P w #[]=(.ok (.comm #[scase c v (.tuple #[])] true .send) w,#[]):=by
 subst hx;show (Result.ok (Next.comm #[{ chan:=AO O a,send:=some (AO O x),zero:=.tuple #[] }] true .send) w,#[])=_;rw [ha];rfl
theorem run_recv{a:Operand}{c:Nat}{t e:TypeId}{d:ChanDir}{ok:Bool}{z:Value}{inf:TypeInfo}(ht:P.underlying t=some (.chan d e))(hi:P.info? e=some inf)(hz:inf.zero=some z)(ha:AO O a=.chan (some c))(w:World) :
  (execOp (AO O) ⟨dst,.recv t a ok,ty,pos,af,gd⟩).runT P w #[]=(.ok (.comm #[rcase c z] true (.recv ok)) w,#[]):=by
 have h1:(zeroValue e).run P w=.ok z w:=by
  unfold zeroValue typeInfo;simp only [Sem.run_bind,program,hi];simp [Sem.run,hi,hz]
 have h2:(underlying t).run P w=.ok (.chan d e) w:=run_underlying ht w;rw [Sem.runT_eq];unfold execOp;simp [h1,h2,ha,rcase]
theorem MK{a:Operand}{c:Nat}{t e:TypeId}{d:ChanDir}{ok:Bool}{z:Value}(ht:P.underlying t=some (.chan d e))(hz:(P.info? e).map (·.zero)=some (some z))(ha:AO O a=.chan (some c))(w:World) :
  (execOp (AO O) ⟨dst,.recv t a ok,ty,pos,af,gd⟩).runT P w #[]=(.ok (.comm #[rcase c z] true (.recv ok)) w,#[]):=by
 obtain ⟨inf,hi,h2⟩:=Option.map_eq_some_iff.1 hz;exact run_recv ht hi h2 ha w
theorem Vy{x:Operand}{f:Fn}{cap:Array Value}{tys:Array TypeId}(hx:AO O x=.func f #[] cap)(w:World):(execOp (AO O) ⟨dst,.go ⟨.value x,#[],tys⟩,ty,pos,af,gd⟩).runT P w #[]=(.ok (.spawn { target:=.fn f cap,args:=#[] }) w,#[]):=by
 have e:resolve (AO O) ⟨.value x,#[],tys⟩ ty=(pure { target:=.fn f cap,args:=#[] }:Sem Deferred):=by
  unfold resolve;simp only [hx,Deferred.ofValue];simp
 unfold execOp;simp only [e];rfl
variable {E:GN P} {T:(Nat->Value)->List Deferred->GH->Prop}
theorem Jg{t e:TypeId}{d:ChanDir}{n:Operand}(ht:P.underlying t=some (.chan d e))(hi0:(P.info? e).isSome=true)(hn:AO O n=.int .i64 0)
  (k:∀r h',h r=none->h.Le h'->h' r=some (true,.chan 0 #[] false 0 0 false)->(∀b,b≠r->h' b=h b)->T (putS O dst (.chan (some r))) ds h'):BR E ⟨dst,.makeChan t n,ty,pos,af,gd⟩ O ds h T:=by
 unfold BR execOp;refine F0 ?_;unfold Instr.makeChan;rw [hn];refine AG _ _ (Au ?_);refine AG _ _ (An ht ?_);simp only [];obtain ⟨inf,hi⟩:=Option.isSome_iff_exists.1 hi0;refine AG _ _ (Co hi ?_);rw [if_neg (by simp [IntKind.max];decide)];refine AG _ _ ?_;exact λr hr=>k r _ hr (GH.Le.new hr _ _) (GH.set_same _ _ _ _) λb hb=>GH.set_ne _ _ _ hb
end
section
variable {P:Program} {F:MD P Dk} {i i':Option (Cr Dk)} {O:Nat->Value} {ds:List Deferred} {h:GH} {Q:Oh Dk} {ops:Array Oper} {o:Oper} {l:List Oper} {n:Nat} {cj co cd c m k:Nat} {ok:Nat->Bool} {R:List Nat} {z:Value}
theorem I7.ix{X:Code}{args:Array Value}(e:i=i')(x:I7 F X args i' O h):I7 F X args i O h:=e▸x
theorem HT:GM F ops l (some .never) O ds h Q:=λ_ _ _ _ _ _ _ _ _ _ _ _=>EJ.stop rfl
theorem GH.join_none(h:GH):h.join (λ_=>none)=h:=by
 funext b;unfold GH.join;cases h b <;> rfl
theorem UL{s:Dk}{nx:Cr Dk}(hR:F.Rep=Nm n)(hg:o.guard=none)(hdf:C4 o.op=false)(hd:C1 o.dst F.N=true)(hr:∀w,(execOp (AO O) o).runT P w #[]=(.ok (.comm #[scase c (tVal s) z] true .send) w,#[]))(hs:tOK n s)(hnx:¬nx.isDone)
  (x:GM F ops l (some nx) (putS O o.dst undef) ds h Q):GM F ops (o ::l) (some (.send c s nx)) O ds h Q:=
 YM hg hdf hd hr (GH.split_none h) (by rw [hR];exact ⟨rfl,hs,rfl⟩) hnx x
theorem ML{f:Option Dk->Cr Dk}{r:Bool}(hR:F.Rep=Nm n)(hg:o.guard=none)(hdf:C4 o.op=false)(hd:C1 o.dst F.N=true)(hr:∀w,(execOp (AO O) o).runT P w #[]=(.ok (.comm #[rcase c z] true (.recv r)) w,#[]))(hnx:∀o,¬(f o).isDone)
  (x:∀s,tOK n s->GM F ops l (some (f (some s))) (putS O o.dst (recvd r (tVal s) true)) ds h Q) (y:GM F ops l (some (f none)) (putS O o.dst (recvd r z false)) ds h Q):GM F ops (o ::l) (some (.recv c f)) O ds h Q:=
 YN hg hdf hd hr hnx (λs v hm hrep _=>by
  rw [hR] at hrep;obtain ⟨rfl,h2,rfl⟩:=hrep;rw [GH.join_none];exact x s h2) y
theorem UM(hR:F.Rep=Nm n)(hg:o.guard=none)(hdf:C4 o.op=false)(hd:C1 o.dst F.N=true)(hr:∀w,(execOp (AO O) o).runT P w #[]=(.ok (.comm #[rcase cj z] true (.recv true)) w,#[]))
  (x:∀i,i<n->GM F ops l (some (.send co (.res i (ok i)) (FR cj co cd ok m))) (putS O o.dst (.tuple #[.int .i64 i,.bool true])) ds h Q) (y:GM F ops l (some (.send cd .tick .done)) (putS O o.dst (.tuple #[z,.bool false])) ds h Q) :
  GM F ops (o ::l) (some (FR cj co cd ok (m+1))) O ds h Q:=
 ML (f:=Tz co cd ok (FR cj co cd ok m)) hR hg hdf hd hr Yo (λs hs=>by
  cases s with
  | job i=>exact x i hs
  | res i b=>exact HT
  | tick=>exact HT) y
theorem UN(hR:F.Rep=Nm n)(hg:o.guard=none)(hdf:C4 o.op=false)(hd:C1 o.dst F.N=true)(hr:∀w,(execOp (AO O) o).runT P w #[]=(.ok (.comm #[rcase cd z] true (.recv false)) w,#[]))(hk:k<3)
  (x:GM F ops l (some (EE co cd (3-(k+1)))) (putS O o.dst (.bool true)) ds h Q):GM F ops (o ::l) (some (EE co cd (3-k))) O ds h Q:=
 I9 (Vx hk) (ML (f:=ME (EE co cd (3-(k+1)))) hR hg hdf hd hr Vw (λs _=>by
  cases s with
  | job i=>exact HT
  | res i b=>exact HT
  | tick=>exact x) HT)
theorem Yu(hR:F.Rep=Nm n)(hg:o.guard=none)(hdf:C4 o.op=false)(hd:C1 o.dst F.N=true)(hr:∀w,(execOp (AO O) o).runT P w #[]=(.ok (.comm #[rcase co z] true (.recv true)) w,#[]))
  (x:∀i,i<n->i ∈ R->GM F ops l (some (FS co ok m (R.erase i))) (putS O o.dst (.tuple #[.agg #[.int .i64 i,.bool (ok i)],.bool true])) ds h Q) (y:R=[]->GM F ops l (some .stop) (putS O o.dst (.tuple #[z,.bool false])) ds h Q) :
  GM F ops (o ::l) (some (FS co ok (m+1) R)) O ds h Q:=
 ML (f:=H1 ok R (FS co ok m)) hR hg hdf hd hr Yp (λs hs=>by
  cases s with
  | job i=>exact HT
  | tick=>exact HT
  | res i b=>
   by_cases e:i ∈ R/\b=ok i
   ·obtain ⟨e1,rfl⟩:=e;exact I9 (show some (H1 ok R (FS co ok m) (some (.res i (ok i))))=some (FS co ok m (R.erase i)) by unfold H1;simp [e1]) (x i hs e1)
   ·exact I9 (show some (H1 ok R (FS co ok m) (some (.res i b)))=some .never by show some (if i ∈ R/\b=ok i then _ else _)=_;rw [if_neg e]) HT) (by
  by_cases e:R=[]
  ·exact I9 (show some (H1 ok R (FS co ok m) none)=some .stop by unfold H1;rw [if_pos e]) (y e)
  ·exact I9 (show some (H1 ok R (FS co ok m) none)=some .never by unfold H1;rw [if_neg e]) HT)
end
theorem Am.flags{h h':GH}{js:List AM}(s:h.Same h')(x:Am h js):Am h' js:=λk=>(x k).flags s
theorem AV.flags{h h':GH}{ns:List AK}(s:h.Same h')(x:AV h ns):AV h' ns:=λk=>(x k).flags s
theorem HF.flags{h h':GH}{l:List Sl}(s:h.Same h')(a:HF h l):HF h' l:=λk=>(a k).flags s
theorem EG.flags{h h':GH}{r np:Nat}{ws:List AB}{pq:List AH}(s:h.Same h')(x:EG h r np ws pq):EG h' r np ws pq:=by
 obtain ⟨pm,M,⟨es,clk,hb,hl⟩,hM⟩:=x;obtain ⟨p',hb'⟩:=s _ _ _ hb;exact ⟨p',M,⟨es,clk,hb',hl⟩,hM⟩
theorem tr_lays5{P:Program}{E:GN P}{id:Nat}{a0 a1 a2 a3 a4:Oper}{rest:List Oper}{d0 d1 d2 d3:Nat}{O:Nat->Value}{ds:List Deferred}{h:GH}{Q:Post}(o0 o1 o2 o3:Obj)(o4:Nat->Obj)(v0 v1 v2 v3:Nat->Value)(hm:P.follows .mixedOrders=true)
  (ok:F2 E.N (a0 ::a1 ::a2 ::a3 ::a4 ::rest) 5 [[],[],[],[],[0,2,3]]=true)
  (g0:a0.guard=none) (g1:a1.guard=none) (g2:a2.guard=none) (g3:a3.guard=none) (g4:a4.guard=none) (e0:a0.dst=some d0) (e1:a1.dst=some d1) (e2:a2.dst=some d2) (e3:a3.dst=some d3)
  (l0:∀σ' h',BR E a0 σ' ds h' λσ'' ds'' h''=>ds''=ds/\∃r,σ''=putS σ' a0.dst (v0 r)/\h' r=none/\h'.Le h''/\h'' r=some (true,o0)) (l1:∀σ' h',BR E a1 σ' ds h' λσ'' ds'' h''=>ds''=ds/\∃r,σ''=putS σ' a1.dst (v1 r)/\h' r=none/\h'.Le h''/\h'' r=some (true,o1))
  (l2:∀σ' h',BR E a2 σ' ds h' λσ'' ds'' h''=>ds''=ds/\∃r,σ''=putS σ' a2.dst (v2 r)/\h' r=none/\h'.Le h''/\h'' r=some (true,o2)) (l3:∀σ' h',BR E a3 σ' ds h' λσ'' ds'' h''=>ds''=ds/\∃r,σ''=putS σ' a3.dst (v3 r)/\h' r=none/\h'.Le h''/\h'' r=some (true,o3))
  (l4:∀r0 r2 σ' h',σ' d0=v0 r0->σ' d2=v2 r2->h' r2=some (true,o2)->BR E a4 σ' ds h' λσ'' ds'' h''=>ds''=ds/\σ''=σ'/\h'' r2=some (true,o4 r0)/\∀b,b≠r2->h'' b=h' b)
  (fin:∀(r0 r1 r2 r3:Nat) σ' h',h.Le h'->(h r0=none/\h' r0=some (true,o0)/\σ' d0=v0 r0)->(h r1=none/\h' r1=some (true,o1)/\σ' d1=v1 r1)->(h r2=none/\h' r2=some (true,o4 r0)/\σ' d2=v2 r2)->(h r3=none/\h' r3=some (true,o3)/\σ' d3=v3 r3)->
   (r0≠r1/\r0≠r2/\r0≠r3/\r1≠r2/\r1≠r3/\r2≠r3)->(∀t,(DY (a0 ::a1 ::a2 ::a3 ::a4 ::rest) 5).contains t=false->σ' t=O t)->DM E (a0 ::a1 ::a2 ::a3 ::a4 ::rest).toArray rest σ' ds h' Q):Tr E (.region id (a0 ::a1 ::a2 ::a3 ::a4 ::rest).toArray true) O ds h Q:=by
 let l:=a0 ::a1 ::a2 ::a3 ::a4 ::rest;let obj:Nat->Obj:=λi=>match i with | 0=>o0 | 1=>o1 | 2=>o2 | _=>o3
 let val:Nat->Nat->Value:=λi=>match i with | 0=>v0 | 1=>v1 | 2=>v2 | _=>v3
 have lay:∀i o,i<4->l[i]? =some o->∀σ' h',BR E o σ' ds h' λσ'' ds'' h''=>ds''=ds/\∃r,σ''=putS σ' o.dst (val i r)/\h' r=none/\h'.Le h''/\h'' r=some (true,obj i):=by
  intro i o hi ho σ' h';rcases i with _ | _ | _ | _ | i
  ·cases ho;exact l0 σ' h'
  ·cases ho;exact l1 σ' h'
  ·cases ho;exact l2 σ' h'
  ·cases ho;exact l3 σ' h'
  ·omega
 have nd:(DY l 5).Nodup:=by
  have:=ok
  unfold F2 at this;simp only [Bool.and_eq_true] at this;exact of_decide_eq_true this.1.2
 refine Td 5 [[],[],[],[],[0,2,3]] (λD σ' h'=>h.Le h'/\(D 4=true->D 0=true/\D 2=true)/\∃rs:Nat->Nat,(∀i,i<4->D i=true->h (rs i)=none/\h' (rs i)=some (true,if i=2/\D 4=true then o4 (rs 0) else obj i)/\∀o d,l[i]? =some o->o.dst=some d->σ' d=val i (rs i))/\
  (∀i j,i<4->j<4->D i=true->D j=true->i≠j->rs i≠rs j)/\∀t,(DY l 5).contains t=false->σ' t=O t) hm ok ⟨GH.Le.refl _,(λe=>by cases e),λ_=>0,(λ_ _ q=>by cases q),(λ_ _ _ _ q=>by cases q),λ_ _=>rfl⟩ ?_ ?_
 ·rintro D σ' h' i o ⟨l1',hD4,rs,h1,h2,h3⟩ hi hD ho hcl _;have hgd:o.guard=none:=by
   rcases i with _ | _ | _ | _ | _ | i
   ·cases ho;exact g0
   ·cases ho;exact g1
   ·cases ho;exact g2
   ·cases ho;exact g3
   ·cases ho;exact g4
   ·omega
  refine ⟨λ_=>?_,λq=>absurd (by unfold DN;rw [hgd];trivial) q⟩;by_cases hi4:i=4
  ·subst hi4;have c0:D 0=true:=hcl 0 aD;have c2:D 2=true:=hcl 2 aD;cases ho;obtain ⟨q1,q2,q3⟩:=h1 0 aC c0;obtain ⟨p1,p2,p3⟩:=h1 2 aC c2;rw [if_neg (λe=>by rw [hD] at e;cases e.2)] at p2;refine (l4 (rs 0) (rs 2) σ' h' (q3 a0 d0 rfl e0) (p3 a2 d2 rfl e2) p2).mono λσ'' ds'' h'' q=>?_;obtain ⟨rfl,rfl,k1,k2⟩:=q;refine ⟨rfl,λb p x hb=>?_,λ_=>⟨by rw [Bl aC];exact c0,by rw [Bl aC];exact c2⟩,rs,λj hj hDj=>?_,λa b ha hb hDa hDb hab=>?_,h3⟩
   ·rw [k2 b λe=>by subst e;rw [p1] at hb;cases hb];exact l1' b p x hb
   ·rw [Bl aA] at hDj;obtain ⟨u1,u2,u3⟩:=h1 j hj hDj;refine ⟨u1,?_,u3⟩;by_cases ej:j=2
    ·subst ej;rw [if_pos ⟨rfl,if_pos rfl⟩];exact k1
    ·rw [if_neg (λe=>ej e.1),k2 _ (h2 j 2 hj aC hDj c2 ej)];rw [if_neg (λe=>ej e.1)] at u2;exact u2
   ·rw [Bl aA] at hDa hDb;exact h2 a b ha hb hDa hDb hab
  ·have hi':i<4:=aA
   refine (lay i o hi' ho σ' h').mono λσ'' ds'' h'' q=>?_;obtain ⟨rfl,r,rfl,hr,l2',hr2⟩:=q;have h4e:G6 D i 4=D 4:=Bl (λe=>hi4 e.symm);have hne:∀j,j<4->D j=true->rs j≠r:=λj hj hDj e=>by
    have:=(h1 j hj hDj).2.1
    rw [e,hr] at this;cases this
   refine ⟨rfl,l1'.trans l2',λe=>?_,λj=>if j=i then r else rs j,λj hj hDj=>?_,λa b ha hb hDa hDb hab=>?_,λt ht=>?_⟩
   ·rw [h4e] at e;obtain ⟨c0,c2⟩:=hD4 e;exact ⟨by rw [Bl (λq=>by subst q;rw [hD] at c0;cases c0)];exact c0,by rw [Bl (λq=>by subst q;rw [hD] at c2;cases c2)];exact c2⟩
   ·by_cases e:j=i
    ·subst e;dsimp only;rw [if_pos rfl];refine ⟨l1'.nothing hr,?_,λo' d ho' hd=>?_⟩
     ·rw [if_neg (λe=>by have e2:=e.2;rw [h4e] at e2;have e3:=(hD4 e2).2;rw [<-e.1,hD] at e3;cases e3)];exact hr2
     ·obtain rfl:o'=o:=Option.some.inj (ho'.symm.trans ho);rw [hd];exact upd_same _ _ _
    ·dsimp only;rw [if_neg e];rw [Bl e] at hDj;obtain ⟨q1,q2,q3⟩:=h1 j hj hDj;refine ⟨q1,?_,λo' d ho' hd=>by rw [Cx λd' hd'=>D1 nd hi (aA:j<5) (λq=>e q.symm) ho ho' hd' hd];exact q3 o' d ho' hd⟩;rw [h4e];by_cases hc:j=2/\D 4=true
     ·rw [if_pos hc] at q2 ⊢;rw [if_neg (λq=>by have c0:=(hD4 hc.2).1;rw [q,hD] at c0;cases c0)];exact l2'.keep q2 rfl
     ·rw [if_neg hc] at q2 ⊢;exact l2'.keep q2 rfl
   ·show (if a=i then r else rs a)≠(if b=i then r else rs b);by_cases ea:a=i
    ·by_cases eb:b=i
     ·exact absurd (ea.trans eb.symm) hab
     ·rw [if_pos ea,if_neg eb];rw [Bl eb] at hDb;exact (hne b hb hDb).symm
    ·rw [Bl ea] at hDa;by_cases eb:b=i
     ·rw [if_neg ea,if_pos eb];exact hne a ha hDa
     ·rw [if_neg ea,if_neg eb];rw [Bl eb] at hDb;exact h2 a b ha hb hDa hDb hab
   ·rw [Cx (HM hi ho ht)];exact h3 t ht
 ·rintro D σ' h' ⟨l1',hD4,rs,h1,h2,h3⟩ hall;have A:∀i,i<5->D i=true:=hall;have f0:=h1 0 aC (A 0 aC);have f1:=h1 1 aC (A 1 aC);have f2:=h1 2 aC (A 2 aC);have f3:=h1 3 aC (A 3 aC);rw [if_neg (λe=>by have:=e.1;omega)] at f0;rw [if_neg (λe=>by have:=e.1;omega)] at f1;rw [if_pos ⟨rfl,A 4 aC⟩] at f2;rw [if_neg (λe=>by have:=e.1;omega)] at f3;have ne:=λi j (hi:i<4) (hj:j<4)=>h2 i j hi hj (A i aA) (A j aA);exact fin (rs 0) (rs 1) (rs 2) (rs 3) σ' h' l1' ⟨f0.1,f0.2.1,f0.2.2 a0 d0 rfl e0⟩ ⟨f1.1,f1.2.1,f1.2.2 a1 d1 rfl e1⟩ ⟨f2.1,f2.2.1,f2.2.2 a2 d2 rfl e2⟩ ⟨f3.1,f3.2.1,f3.2.2 a3 d3 rfl e3⟩
   ⟨ne 0 1 aC aC aC,ne 0 2 aC aC aC,ne 0 3 aC aC aC,ne 1 2 aC aC aC,ne 1 3 aC aC aC,ne 2 3 aC aC aC⟩ h3
section
variable {h h' h0:GH} {r:Nat}
theorem GH.cut_ne{b:Nat}(e:b≠r):h.cut r b=h b:=if_neg e
theorem GH.Le.cut(l:h0.Le h)(n:h0 r=none):h0.Le (h.cut r):=λb p o hb=>by
 rw [GH.cut_ne λe=>by subst e;rw [n] at hb;cases hb];exact l b p o hb
theorem AR.cut{V:Type}{v:Value}{t:TypeId}{n:Nat}{enc:V->Array Value}{xs:List V}(x:AR h0 h v t n enc xs)(f:A9 v r):AR h0 (h.cut r) v t n enc xs:=
 x.keep λb o hb ho=>by rw [GH.cut_ne λe=>by subst e;exact f hb];exact ho
theorem AR.del'{V:Type}{v:Value}{t:TypeId}{n:Nat}{enc:V->Array Value}{xs:List V}(x:AR h0 h v t n enc xs)(f:A9 v r):AR h0 (h.del r) v t n enc xs:=
 x.keep λb o hb ho=>by rw [GH.del_ne λe=>by subst e;exact f hb];exact ho
theorem EB.keep3{X:Nat->Prop}{t0 T t:TypeId}{n l:Nat}{w v:Value}{p q:Bool}{c:Array Value}{f:Nat×Nat}{lo:Loop}{ys:List Sl}{hB:GH}{ys':List Int}(x:EB h t0 v ys')(k:Ba X h h')(hX:∀b,X b->(b=r\/Cc w=some b)\/b=l)(hr:h r=some (p,.cells c T f))(ow:AR hB h w t n Kz ys)(hl:h l=some (q,.loop lo))(n1:T≠t0)(n2:t≠t0):EB h' t0 v ys':=
 x.keepX k λb hb q2=>by
  obtain ⟨p2,c2,f2,e⟩:=x.2 b hb;rcases hX b q2 with (rfl | q3) | rfl
  ·rw [hr] at e;cases e;exact n1 rfl
  ·rcases ow with ⟨rfl,_⟩ | ⟨b1,cap,c1,rfl,_,h2,_⟩
   ·cases q3
   ·simp only [Cc,Option.some.injEq] at q3;subst q3;rw [h2] at e;cases e;exact n2 rfl
  ·rw [hl] at e;cases e
theorem Ba.mono{X Y:Nat->Prop}(k:Ba X h h')(s:∀b,X b->Y b):Ba Y h h':=λb p o hb hn=>k b p o hb λx=>hn (s b x)
end
theorem Yv{n:Nat}{fl:List Sl}(h:A6 fl=DS (Ds n))(hn:n<=4)(i:Nat):Sx n (fl.getD i Sl.z).2:=by
 by_cases hi:i<fl.length
 ·refine Je (λx hx=>PD hx) (by rw [D5];exact hn) (r:=(fl.getD i Sl.z).2) ?_;rw [<-h,<-Fe hi];exact CB (by rw [CF];exact hi)
 ·rw [B2 aA];exact ⟨λk hk=>absurd hk (Nat.not_lt_zero _),Nat.zero_le _⟩
theorem EB.storeD{h h':GH}{t:TypeId}{v:Value}{xs:List Int}{r:Nat}{p:Bool}{q:Option (List Deferred)}(x:EB h t v xs)(hr:h r=some (p,.deferred q))(ho:∀b,b≠r->h' b=h b):EB h' t v xs:=
 x.same λb hb=>ho b λe=>by
  obtain ⟨p2,c2,f2,z⟩:=x.2 b hb;rw [e,hr] at z;cases z
theorem CZ.storeD{h h':GH}{t:TypeId}{l:List Sl}{r:Nat}{p:Bool}{q:Option (List Deferred)}(x:CZ h t l)(hr:h r=some (p,.deferred q))(ho:∀b,b≠r->h' b=h b):CZ h' t l:=λk=>
 (x k).same λb hb=>ho b λe=>by
  obtain ⟨p2,c2,f2,z⟩:=(x k).2 b hb;rw [e,hr] at z;cases z
theorem selS_all{fl:List Sl}{G:List Int->Bool}{all:List (List Int)}{k:Nat}(h:A6 fl=all)(h1:k<=fl.length)(h2:fl.length<=k):A6 (I8 fl (λi=>G (fl.getD i Sl.z).2) k)=all.filter G:=by
 rw [PH k h1,List.take_of_length_le (by rw [CF];exact h2),h]
theorem CZ.sel{h:GH}{t:TypeId}{fl:List Sl}{ok:Nat->Bool}{k:Nat}(a:CZ h t fl):CZ h t (I8 fl ok k):=by
 induction k with
 | zero=>exact CZ.nil h t
 | succ k ih=>
  unfold I8;split
  ·exact CZ.app ih (CZ.one (a k))
  ·exact ih
end Go.Ns
namespace Go.Ns
theorem S0{P:Program}{O:Nat->Value}{h:GH}{fn:Func}{R:Value->GH->Prop}{a u s:Tmp}{t:TypeId}{b off:Nat}{v v' v2:Value}(hr:fn.results=#[.tmp u,.cell a t,.tmp s])(hv:O u=v)(ha:O a=.pointer (some ⟨b,off,none⟩))(hv':Rd P h t b off v')(hv2:O s=v2)(x:R (.tuple #[v,v',v2]) h):GP P fn O R [] h:=by
 unfold GP;rw [hr];subst hv;subst hv2;exact ⟨b,off,v',ha,hv',x⟩
section
variable (np:Nat) (ws:List AB) (js:List AM) (pq:List AH) (bag kinds:Int)
def Hp:List (List Int):=(DS (Ds js.length)).filter (λq=>CJ np ws js pq q bag kinds)
end
def N1(g:List (List Int))(x:List Int):List (List Int):=if 0<g.length/\(g.getD 0 []).length<x.length then [] else g
def N2(g:List (List Int))(x:List Int):List (List Int):=if g.length=0\/x.length=(g.getD 0 []).length then g++[x] else g
def UO(g:List (List Int))(x:List Int):List (List Int):=N2 (N1 g x) x
def S1(l:List (List Int)):Nat->List (List Int)
 | 0=>[]
 | k+1=>UO (S1 l k) (l.getD k [])
def G2(g:List Sl)(x:Sl):List Sl:=if 0<g.length/\(g.getD 0 Sl.z).2.length<x.2.length then [] else g
def Hq(g:List Sl)(x:Sl):List Sl:=if g.length=0\/x.2.length=(g.getD 0 Sl.z).2.length then g++[x] else g
def DA(g:List Sl)(x:Sl):List Sl:=Hq (G2 g x) x
def BE(l:List Sl):Nat->List Sl
 | 0=>[]
 | k+1=>DA (BE l k) (l.getD k Sl.z)
section
variable {l g:List Sl} {x:Sl} {k:Nat}
theorem PJ(h0:0<g.length)(h1:(g.getD 0 Sl.z).2.length<x.2.length):DA g x=[x]:=by
 unfold DA G2;rw [if_pos ⟨h0,h1⟩];rfl
theorem PK(h0:0<g.length)(h1:x.2.length=(g.getD 0 Sl.z).2.length):DA g x=g++[x]:=by
 unfold DA G2;rw [if_neg (λe=>by have:=e.2;omega)];unfold Hq;rw [if_pos (.inr h1)]
theorem PL(h0:0<g.length)(h1:x.2.length<(g.getD 0 Sl.z).2.length):DA g x=g:=by
 unfold DA G2;rw [if_neg (λe=>by have:=e.2;omega)];unfold Hq;rw [if_neg];rintro (e | e) <;> omega
theorem PM(h0:g.length=0):DA g x=g++[x]:=by
 unfold DA G2;rw [if_neg (λe=>by have:=e.1;omega)];unfold Hq;rw [if_pos (.inl h0)]
theorem goodS_a(h0:0<(BE l k).length)(h1:((BE l k).getD 0 Sl.z).2.length<(l.getD k Sl.z).2.length):BE l (k+1)=[l.getD k Sl.z]:=PJ h0 h1
theorem goodS_b(h0:0<(BE l k).length)(h1:(l.getD k Sl.z).2.length=((BE l k).getD 0 Sl.z).2.length):BE l (k+1)=BE l k++[l.getD k Sl.z]:=PK h0 h1
theorem goodS_c(h0:0<(BE l k).length)(h1:¬((BE l k).getD 0 Sl.z).2.length<(l.getD k Sl.z).2.length)(h2:¬(l.getD k Sl.z).2.length=((BE l k).getD 0 Sl.z).2.length):BE l (k+1)=BE l k:=PL h0 aA
theorem goodS_d(h0:(BE l k).length=0):BE l (k+1)=BE l k++[l.getD k Sl.z]:=PM h0
theorem goodS_t(h1:¬(0<(BE l k).length/\((BE l k).getD 0 Sl.z).2.length<(l.getD k Sl.z).2.length))(h2:(BE l k).length=0\/(l.getD k Sl.z).2.length=((BE l k).getD 0 Sl.z).2.length):BE l (k+1)=BE l k++[l.getD k Sl.z]:=by
 by_cases h0:(BE l k).length=0
 ·exact goodS_d h0
 ·exact goodS_b aA aA
theorem goodS_f(h1:¬(0<(BE l k).length/\((BE l k).getD 0 Sl.z).2.length<(l.getD k Sl.z).2.length))(h2:¬((BE l k).length=0\/(l.getD k Sl.z).2.length=((BE l k).getD 0 Sl.z).2.length)):BE l (k+1)=BE l k:=goodS_c aA aA aA
theorem Hr(g:List Sl)(x:Sl):DA g x=[x]\/DA g x=g++[x]\/(DA g x=g/\0<g.length):=by
 by_cases h0:g.length=0
 ·exact .inr (.inl (PM h0))
 ·by_cases h1:(g.getD 0 Sl.z).2.length<x.2.length
  ·exact .inl (PJ aA h1)
  ·by_cases h2:x.2.length=(g.getD 0 Sl.z).2.length
   ·exact .inr (.inl (PK aA h2))
   ·exact .inr (.inr ⟨PL aA aA,aA⟩)
theorem Yw:∀k,0<k->0<(BE l k).length
 | k+1,_=>by
  show 0<(DA (BE l k) (l.getD k Sl.z)).length;rcases Hr (BE l k) (l.getD k Sl.z) with e | e | ⟨e,h⟩ <;> rw [e]
  ·exact Nat.zero_lt_one
  ·rw [List.length_append];exact Nat.succ_pos _
  ·exact h
theorem RN:∀k,(BE l k).length<=k
 | 0=>Nat.le_refl _
 | k+1=>by
  have ih:=RN k;show (DA (BE l k) (l.getD k Sl.z)).length<=_;rcases Hr (BE l k) (l.getD k Sl.z) with e | e | ⟨e,_⟩ <;> rw [e]
  ·simp
  ·rw [List.length_append,List.length_singleton];omega
  ·omega
theorem MM:∀k,k<=l.length->∀y ∈ BE l k,y ∈ l
 | 0,_,y,hy=>by cases hy
 | k+1,hk,y,hy=>by
  have ih:=MM k aA;have hx:l.getD k Sl.z ∈ l:=CB aA;change y ∈ DA (BE l k) (l.getD k Sl.z) at hy;rcases Hr (BE l k) (l.getD k Sl.z) with e | e | ⟨e,_⟩ <;> rw [e] at hy
  ·rw [List.mem_singleton.1 hy];exact hx
  ·rcases List.mem_append.1 hy with hy | hy
   ·exact ih y hy
   ·rw [List.mem_singleton.1 hy];exact hx
  ·exact ih y hy
theorem NO:∀k,k<=l.length->A6 (BE l k)=S1 (A6 l) k
 | 0,_=>rfl
 | k+1,hk=>by
  have ih:=NO k aA;have hg:∀g:List Sl,(g.getD 0 Sl.z).2=(A6 g).getD 0 []:=λg=>by cases g <;> rfl
  show A6 (DA (BE l k) (l.getD k Sl.z))=UO (S1 (A6 l) k) ((A6 l).getD k []);rw [<-ih,Fe aA];have hc:A6 (G2 (BE l k) (l.getD k Sl.z))=N1 (A6 (BE l k)) (l.getD k Sl.z).2:=by
   unfold G2 N1;rw [hg,CF];split <;> rfl
  have ha:∀g:List Sl,A6 (Hq g (l.getD k Sl.z))=N2 (A6 g) (l.getD k Sl.z).2:=λg=>by
   unfold Hq N2;rw [hg,CF];split
   ·rw [MI];rfl
   ·rfl
  show A6 (Hq (G2 (BE l k) (l.getD k Sl.z)) (l.getD k Sl.z))=N2 (N1 (A6 (BE l k)) _) _;rw [ha,hc]
end
theorem CZ.good{h:GH}{t:TypeId}{l:List Sl}{k:Nat}(a:CZ h t l)(hk:k<=l.length):CZ h t (BE l k):=.of λx hx=>a.at (MM k hk x hx)
section
variable {np:Nat} {ws:List AB} {js:List AM} {pq:List AH} {bag kinds:Int} {fs:List Sl}
theorem Xm(h:A6 fs=Hp np ws js pq bag kinds)(hn:js.length<=4):∀x ∈ fs,Sx js.length x.2:=λx hx=>by
 have:x.2 ∈ A6 fs:=List.mem_map_of_mem hx
 rw [h] at this;exact Je (λy hy=>PD hy) (by rw [D5];exact hn) (List.mem_filter.1 this).1
theorem UP(h:A6 fs=Hp np ws js pq bag kinds)(hn:js.length<=4)(i:Nat):Sx js.length (fs.getD i Sl.z).2:=by
 by_cases hi:i<fs.length
 ·exact Xm h hn _ (CB hi)
 ·rw [B2 aA];exact ⟨λk hk=>absurd hk (Nat.not_lt_zero _),Nat.zero_le _⟩
theorem safe_nil(hb:0<=bag):CJ np ws js pq [] bag kinds=true:=by
 unfold CJ;have e:(DL kinds js []).sum=0:=by
  show (List.replicate kinds.toNat (0:Int)).sum=0;generalize kinds.toNat=n
  induction n with
  | zero=>rfl
  | succ n ih=>rw [List.replicate_succ,List.sum_cons,ih];rfl
 rw [e,decide_eq_true hb];rfl
theorem Vz(hb:0<=bag):0<(Hp np ws js pq bag kinds).length:=by
 refine List.length_pos_of_mem (a:=[]) (List.mem_filter.2 ⟨?_,safe_nil hb⟩);unfold DS;rw [Gp];exact List.mem_cons_self
theorem PN(hn:js.length<=4):(Hp np ws js pq bag kinds).length<=625:=
 Nat.le_trans (List.length_filter_le _ _) (HR (by rw [D5];exact hn))
theorem RO{G:List Int->Int}:∀(l:List (List Int)),0<l.length->∀k,k<=l.length-1->(Dy G l k).1 ∈ l
 | l,h,0,_=>CB h
 | l,h,k+1,hk=>by
  unfold Dy;split
  ·exact List.mem_of_mem_drop (CB (by rw [List.length_drop];omega))
  ·exact RO l h k aA
theorem LY{n:Nat}{G:List Int->Int}{l:List Sl}(h:∀x ∈ l,Sx n x.2)(hl:0<l.length):Sx n (DT G (A6 l)):=by
 have:=RO (G:=G) (A6 l) (by rw [CF];exact hl) ((A6 l).length-1) (Nat.le_refl _)
 obtain ⟨x,hx,e⟩:=List.mem_map.1 this;unfold DT;rw [<-e];exact h x hx
end
section
variable (bag kinds:Int) (ps:List ByteArray) (ws:List AB) (js:List AM) (ns:List AK)
def V0:List Int:=DT (λl=>CT (λx=>A1 ps.length ws js x l) (AE ws js ns)) (S1 (Hp ps.length ws js (AE ws js ns) bag kinds) (Hp ps.length ws js (AE ws js ns) bag kinds).length)
def KO:List Int:=if¬AZ bag kinds ps ws js ns 0=0 then [] else V0 bag kinds ps ws js ns
end
section
variable {bag kinds:Int} {ps:List ByteArray} {ws:List AB} {js:List AM} {ns:List AK} {fs:List Sl} {k:Nat}
theorem best_end(h:A6 fs=Hp ps.length ws js (AE ws js ns) bag kinds)(h1:k<=fs.length)(h2:fs.length<=k):V0 bag kinds ps ws js ns=DT (λl=>CT (λx=>A1 ps.length ws js x l) (AE ws js ns)) (A6 (BE fs k)):=by
 unfold V0;rw [NO k h1,h,<-h,CF,show fs.length=k by omega]
theorem UQ(h0:¬¬AZ bag kinds ps ws js ns 0=0)(h:A6 fs=Hp ps.length ws js (AE ws js ns) bag kinds)(h1:k<=fs.length)(h2:fs.length<=k):KO bag kinds ps ws js ns=DT (λl=>CT (λx=>A1 ps.length ws js x l) (AE ws js ns)) (A6 (BE fs k)):=(if_neg h0).trans (best_end h h1 h2)
end
def S3(c:Hc)(l:List Int):Nat->Hc
 | 0=>c
 | i+1=>(S3 c l i).set (l.getD i 0).toNat true
def Ga(ls:List (List Int)):Nat->Hc
 | 0=>Hc.none
 | k+1=>S3 (Ga ls k) (ls.getD k []) (ls.getD k []).length
def Ez(c:Hc):Nat->List Int
 | 0=>[]
 | q+1=>if c q=true then Ez c q else Ez c q++[(q:Int)]
theorem neverL_t{c:Hc}{q:Nat}(h:c q=true):Ez c (q+1)=Ez c q:=if_pos h
theorem neverL_f{c:Hc}{q:Nat}(h:c q=false):Ez c (q+1)=Ez c q++[(q:Int)]:=if_neg (by rw [h];simp)
theorem PO(c:Hc):∀q,(Ez c q).length<=q
 | 0=>Nat.le_refl _
 | q+1=>by
  have:=PO c q
  unfold Ez;split
  ·omega
  ·rw [List.length_append,List.length_singleton];omega
section
variable (bag kinds:Int) (ps:List ByteArray) (ws:List AB) (js:List AM) (ns:List AK)
def MN:List Int:=if¬AZ bag kinds ps ws js ns 0=0 then [] else Ez (Ga (Hp ps.length ws js (AE ws js ns) bag kinds) (Hp ps.length ws js (AE ws js ns) bag kinds).length) js.length
end
section
variable {bag kinds:Int} {ps:List ByteArray} {ws:List AB} {js:List AM} {ns:List AK} {fs:List Sl} {k q:Nat}
theorem Yx{i:Nat}(hk:k<fs.length)(h1:i<=(fs.getD k Sl.z).2.length)(h2:(fs.getD k Sl.z).2.length<=i):Ga (A6 fs) (k+1)=S3 (Ga (A6 fs) k) (fs.getD k Sl.z).2 i:=by
 unfold Ga;rw [Fe hk,show (fs.getD k Sl.z).2.length=i by omega];cases k <;> rfl
theorem Yy(h0:¬¬AZ bag kinds ps ws js ns 0=0)(h:A6 fs=Hp ps.length ws js (AE ws js ns) bag kinds)(h1:k<=fs.length)(h2:fs.length<=k)(h3:q<=js.length)(h4:js.length<=q):MN bag kinds ps ws js ns=Ez (Ga (A6 fs) k) q:=
 (if_neg h0).trans (by rw [<-h,CF,show fs.length=k by omega,show js.length=q by omega])
end
end Go.Ns
namespace Go.Ns
theorem UR{nj:Nat}{l:List Int}(h:Ak nj l=0):l.Nodup:=by
 rw [List.nodup_iff_pairwise_ne];rw [List.pairwise_iff_getElem];intro i j hi hj hij e;have h1:=DR h j (Nat.zero_le _) aA;unfold H2 at h1;split at h1
 ·rename_i a;exact a h1
 ·split at h1
  ·cases h1
  ·rename_i a
   refine a (List.any_eq_true.2 ⟨l[i],List.mem_take_iff_getElem.2 ⟨i,aA,rfl⟩,?_⟩);rw [List.getD_eq_getElem?_getD,List.getElem?_eq_getElem hj];exact decide_eq_true e.symm
theorem NP{jobs:List Int}(nd:jobs.Nodup):∀(rest done:List Int),jobs=done++rest->jobs ∈ BU jobs rest.length done
 | [],done,e=>by rw [e,List.append_nil];exact List.mem_singleton.2 rfl
 | k ::rest,done,e=>by
  have ih:=NP nd rest (done++[k]) (by rw [e];simp);show jobs ∈ done ::jobs.flatMap _;refine List.mem_cons_of_mem _ (List.mem_flatMap.2 ⟨k,by rw [e];simp,?_⟩);have hn:IN done k=false:=by
   cases hh:IN done k with
   | false=>rfl
   | true=>
    exfalso;obtain ⟨x,hx,hk⟩:=List.any_eq_true.1 hh;have hk':k=x:=of_decide_eq_true hk;rw [e,List.nodup_append] at nd;exact nd.2.2 x hx k List.mem_cons_self hk'.symm
  rw [if_neg (by rw [hn];simp)];exact ih
def Xn(jobs:List Int)(n:Nat):List (List Int):=(DS jobs).filter λq=>decide (q.length=n)
theorem Yz{l:List Int}(nd:l.Nodup):0<(Xn (Ej l) l.length).length:=by
 have hs:(Ej l).Nodup:=by rw [LJ];exact (List.mergeSort_perm l _).nodup_iff.2 nd
 have:=NP hs (Ej l) [] rfl
 exact List.length_pos_of_mem (List.mem_filter.2 ⟨this,decide_eq_true (Dx l)⟩)
section
variable (bag kinds:Int) (ps:List ByteArray) (ws:List AB) (js:List AM) (ns:List AK) (l:List Int)
def swiftL:List Int:=DT (λl=>CT (λx=>A1 ps.length ws js x l) (AE ws js ns)) (Xn (Ej l) l.length)
def IO:List Int:=if¬AZ bag kinds ps ws js ns (Ak js.length l)=0 then [] else swiftL ps ws js ns l
end
section
variable {bag kinds:Int} {ps:List ByteArray} {ws:List AB} {js:List AM} {ns:List AK} {l:List Int} {fl:List Sl} {nj:Nat}
theorem RP(h0:¬¬AZ bag kinds ps ws js ns (Ak js.length l)=0)(h:A6 fl=Xn (Ej l) l.length):IO bag kinds ps ws js ns l=DT (λl=>CT (λx=>A1 ps.length ws js x l) (AE ws js ns)) (A6 fl):=(if_neg h0).trans (by unfold swiftL;rw [h])
theorem full_ok(h:A6 fl=Xn (Ej l) l.length)(hr:∀k,k<l.length->0<=l.getD k 0/\l.getD k 0<nj)(h4:l.length<=4):∀x ∈ fl,Sx nj x.2:=λx hx=>by
 have:x.2 ∈ A6 fl:=List.mem_map_of_mem hx
 rw [h] at this;refine Je (λy hy=>?_) (by rw [Dx];exact h4) (List.mem_filter.1 this).1;rw [LJ,List.mem_mergeSort] at hy;obtain ⟨i,hi,e⟩:=List.mem_iff_getElem.1 hy
 have:=hr i hi
 rw [List.getD_eq_getElem?_getD,List.getElem?_eq_getElem hi,Option.getD_some,e] at this;exact this
end
end Go.Ns
namespace Go.Ns
def PV(h:GH)(t:TypeId)(f:Nat->Value)(L:Nat->List Int)(k:Nat):Prop:=∀i,i<k->EB h t (f i) (L i)
section
variable {h h' h0:GH} {t t':TypeId} {f:Nat->Value} {L:Nat->List Int} {k r:Nat} {w v v':Value} {p:Bool} {c:Array Value} {g:Nat×Nat}
theorem PV.zero:PV h t f L 0:=λ_ hi=>absurd hi (Nat.not_lt_zero _)
theorem PV.le(x:PV h t f L k)(l:h.Le h'):PV h' t f L k:=λi hi=>(x i hi).le l
theorem PV.store(x:PV h t f L k)(hr:h r=some (p,.cells c t' g))(ne:t'≠t)(ho:∀b,b≠r->h' b=h b):PV h' t f L k:=λi hi=>(x i hi).store hr ne ho
theorem PV.next(x:PV h t f L k)(y:EB h t w (L k)):PV h t (λi=>if i=k then w else f i) L (k+1):=λi hi=>by
 show EB h t (if i=k then w else f i) (L i);by_cases e:i=k
 ·rw [if_pos e,e];exact y
 ·rw [if_neg e];exact x i aA
end
def AM.re(j:AM)(v:Value):AM:={ j with pv:=v }
def AK.re(j:AK)(v:Value):AK:={ j with wv:=v }
def Gb(js:List AM)(f:Nat->Value)(k:Nat):List AM:=(List.range js.length).map λi=>if i<k then (js.getD i AM.z).re (f i) else js.getD i AM.z
def HI(ns:List AK)(f:Nat->Value)(k:Nat):List AK:=(List.range ns.length).map λi=>if i<k then (ns.getD i AK.z).re (f i) else ns.getD i AK.z
section
variable {V:Type} {z:V} {l:List V} {F:Nat->V->V} {k:Nat}
def reL(z:V)(l:List V)(F:Nat->V->V)(k:Nat):List V:=(List.range l.length).map λi=>if i<k then F i (l.getD i z) else l.getD i z
theorem J3:(reL z l F k).length=l.length:=by unfold reL;rw [List.length_map,List.length_range]
theorem Gq{i:Nat}(hi:i<l.length):(reL z l F k).getD i z=if i<k then F i (l.getD i z) else l.getD i z:=by
 unfold reL;rw [List.getD_eq_getElem?_getD,List.getElem?_map,List.getElem?_range hi];rfl
theorem S4{i:Nat}(hi:i<(reL z l F k).length):(reL z l F k)[i]=if i<k then F i (l.getD i z) else l.getD i z:=by
 have e:=Gq (z:=z) (F:=F) (k:=k) (show i<l.length by rw [<-J3 (z:=z) (F:=F) (k:=k)];exact hi);rw [List.getD_eq_getElem?_getD,List.getElem?_eq_getElem hi] at e;exact e
theorem reL_0:reL z l F 0=l:=by
 refine List.ext_getElem J3 λi h1 h2=>?_;rw [S4,if_neg (Nat.not_lt_zero _),List.getD_eq_getElem?_getD,List.getElem?_eq_getElem h2];rfl
theorem Xo{G:Nat->V->V}(hk:k<l.length)(hG:∀i,i<k->∀x,G i x=F i x):(reL z l F k).set k (G k ((reL z l F k).getD k z))=reL z l G (k+1):=by
 rw [Gq hk,if_neg (Nat.lt_irrefl _)];refine List.ext_getElem (by rw [List.length_set,J3,J3]) λi h1 h2=>?_;rw [List.getElem_set,S4];by_cases e:k=i
 ·subst e;rw [if_pos rfl,S4,if_pos aA]
 ·rw [if_neg e,S4];by_cases e2:i<k
  ·rw [if_pos e2,if_pos aA,hG i e2]
  ·rw [if_neg e2,if_neg aA]
end
section
variable {h:GH} {t:TypeId} {f:Nat->Value} {js:List AM} {ns:List AK} {k:Nat} {w:Value}
theorem MO:Gb js f k=reL AM.z js (λi j=>j.re (f i)) k:=rfl
theorem MP:HI ns f k=reL AK.z ns (λi j=>j.re (f i)) k:=rfl
theorem H4(js:List AM)(f:Nat->Value)(k:Nat):(Gb js f k).length=js.length:=by rw [MO];exact J3
theorem H5(ns:List AK)(f:Nat->Value)(k:Nat):(HI ns f k).length=ns.length:=by rw [MP];exact J3
theorem reJ_0:Gb js f 0=js:=by rw [MO];exact reL_0
theorem reN_0:HI ns f 0=ns:=by rw [MP];exact reL_0
theorem reJ_put(hk:k<js.length):(Gb js f k).set k (((Gb js f k).getD k AM.z).re w)=Gb js (λi=>if i=k then w else f i) (k+1):=by
 have:=Xo (z:=AM.z) (l:=js) (F:=λi j=>j.re (f i)) (G:=λi j=>j.re (if i=k then w else f i)) hk (λi hi x=>by rw [if_neg aA])
 rw [if_pos rfl] at this;exact this
theorem reN_put(hk:k<ns.length):(HI ns f k).set k (((HI ns f k).getD k AK.z).re w)=HI ns (λi=>if i=k then w else f i) (k+1):=by
 have:=Xo (z:=AK.z) (l:=ns) (F:=λi j=>j.re (f i)) (G:=λi j=>j.re (if i=k then w else f i)) hk (λi hi x=>by rw [if_neg aA])
 rw [if_pos rfl] at this;exact this
theorem RQ(js:List AM)(f:Nat->Value)(k i:Nat):((Gb js f k).getD i AM.z).parts=(js.getD i AM.z).parts:=by
 by_cases hi:i<js.length
 ·rw [MO,Gq hi];split <;> rfl
 ·rw [B2 (by rw [H4];omega),B2 aA]
theorem US(ns:List AK)(f:Nat->Value)(k i:Nat):((HI ns f k).getD i AK.z).ways=(ns.getD i AK.z).ways:=by
 by_cases hi:i<ns.length
 ·rw [MP,Gq hi];split <;> rfl
 ·rw [B2 (by rw [H5];omega),B2 aA]
theorem Am.re(x:Am h js)(y:PV h t f (λi=>(js.getD i AM.z).parts) k):Am h (Gb js f k):=λi=>by
 by_cases hi:i<js.length
 ·rw [MO,Gq hi];by_cases e:i<k
  ·rw [if_pos e];exact (y i e).1
  ·rw [if_neg e];exact x i
 ·rw [B2 (by rw [H4];omega)];exact AD.nil _ _ _
theorem AV.re(x:AV h ns)(y:PV h t f (λi=>(ns.getD i AK.z).ways) k):AV h (HI ns f k):=λi=>by
 by_cases hi:i<ns.length
 ·rw [MP,Gq hi];by_cases e:i<k
  ·rw [if_pos e];exact (y i e).1
  ·rw [if_neg e];exact x i
 ·rw [B2 (by rw [H5];omega)];exact AD.nil _ _ _
def CM(h:GH)(t:TypeId)(js:List AM):Prop:=∀k,EB h t (js.getD k AM.z).pv (js.getD k AM.z).parts
def Cv(h:GH)(t:TypeId)(ns:List AK):Prop:=∀k,EB h t (ns.getD k AK.z).wv (ns.getD k AK.z).ways
theorem CM.jobs(x:CM h t js):Am h js:=λk=>(x k).1
theorem Cv.notes(x:Cv h t ns):AV h ns:=λk=>(x k).1
theorem CM.le{h':GH}(x:CM h t js)(l:h.Le h'):CM h' t js:=λk=>(x k).le l
theorem Cv.le{h':GH}(x:Cv h t ns)(l:h.Le h'):Cv h' t ns:=λk=>(x k).le l
theorem CM.store{h':GH}{t':TypeId}{r:Nat}{p:Bool}{c:Array Value}{g:Nat×Nat}(x:CM h t js)(hr:h r=some (p,.cells c t' g))(ne:t'≠t)(ho:∀b,b≠r->h' b=h b):CM h' t js:=λk=>(x k).store hr ne ho
theorem Cv.store{h':GH}{t':TypeId}{r:Nat}{p:Bool}{c:Array Value}{g:Nat×Nat}(x:Cv h t ns)(hr:h r=some (p,.cells c t' g))(ne:t'≠t)(ho:∀b,b≠r->h' b=h b):Cv h' t ns:=λk=>(x k).store hr ne ho
theorem CM.of(y:PV h t f (λi=>(js.getD i AM.z).parts) k)(hk:js.length<=k):CM h t (Gb js f k):=λi=>by
 by_cases hi:i<js.length
 ·rw [MO,Gq hi,if_pos aA];exact y i aA
 ·rw [B2 (by rw [H4];omega)];exact EB.nil _ _
theorem Cv.of(y:PV h t f (λi=>(ns.getD i AK.z).ways) k)(hk:ns.length<=k):Cv h t (HI ns f k):=λi=>by
 by_cases hi:i<ns.length
 ·rw [MP,Gq hi,if_pos aA];exact y i aA
 ·rw [B2 (by rw [H5];omega)];exact EB.nil _ _
theorem Am.fine1(x:Am h js)(k:Nat):(A8 (js.getD k AM.z)).toList.all (·.oneCell')=true:=by
 show (true && (true && (true && (true && (((js.getD k AM.z).pv.oneCell') && true)))))=true;rw [(AD.one (x k)).2];rfl
theorem Am.fine(x:Am h js):∀y ∈ js,(A8 y).toList.all (·.oneCell')=true:=λy hy=>by
 obtain ⟨i,hi,e⟩:=List.mem_iff_getElem.1 hy
 have:=x.fine1 i
 rw [List.getD_eq_getElem?_getD,List.getElem?_eq_getElem hi] at this;rw [<-e];exact this
theorem AV.snoc{x:AK}(a:AV h ns)(b:AD h x.wv 1 eI x.ways):AV h (ns++[x]):=λk=>by
 rw [PA];split
 ·exact a k
 ·cases hk:k-ns.length with
  | zero=>exact b
  | succ n=>rw [B2 aD];exact AD.nil _ _ _
end
theorem BT.copy{bag kinds:Int}{ps:List ByteArray}{ws:List AB}{js:List AM}{ns:List AK}(b:BT bag kinds ps ws js ns):(∀i,(js.getD i AM.z).parts.length<=1000)/\∀i,(ns.getD i AK.z).ways.length<=1000:=by
 refine ⟨λi=>?_,λi=>Nat.le_trans (Oy b.note i).1 aC⟩;by_cases hi:i<js.length
 ·have:=(Or (b.job i hi)).len
  have:=b.hkin
  omega
 ·rw [B2 aA];exact Nat.zero_le _
end Go.Ns
namespace Go.Ns
section
variable {P:Program} {E:GN P} {O:Nat->Value} {ds:List Deferred} {h:GH} {T:(Nat->Value)->List Deferred->GH->Prop} {dst:Option Nat} {ty:TypeId} {pos:String} {af:Array Edge} {gd:Option (Nat×Bool)}
theorem V1{s:ByteArray}{i:Nat}(h:i<s.size):((s[i]'h).toNat:Int)=(bytesOf s).getD i 0:=by
 have h2:i<(bytesOf s).length:=by rw [C6];exact h
 rw [DP 0 h2];exact (List.getElem_map (l:=s.data.toList) (f:=λb=>(b.toNat:Int)) (h:=h2)).symm
theorem PP{t:TypeId}{x ix:Operand}{s:ByteArray}{kd:IntKind}{i:Int}(ht:OF P t=true)(hx:AO O x=.string s)(hi:AO O ix=.int kd i)(h0:0<=i)(h1:i<s.size)(k:T (putS O dst (.int .u8 ((bytesOf s).getD i.toNat 0))) ds h) :
  BR E ⟨dst,.index t x ix,ty,pos,af,gd⟩ O ds h T:=QU ht hx hi h0 h1 (by rw [V1];exact k)
end
theorem UT{s:ByteArray}(h:¬(1<=(s.size:Int)/\(s.size:Int)<=10)):Es s=false:=by unfold Es;rw [decide_eq_false h,Bool.and_false]
theorem UU{a b:List UInt8}{v:Bool}(h:(a==b)=v):(b==a)=v:=by rw [<-h];exact BEq.comm
def IP(l:List Int)(k:Nat)(p q:Int):List Int:=if p=l.getD k 0/\¬q ∈ l then l++[q] else l
def DB(l:List Int)(k:Nat)(x:AB):List Int:=IP (IP l k x.a x.b) k x.b x.a
def Aj(ws:List AB)(l:List Int)(k:Nat):Nat->List Int
 | 0=>l
 | j+1=>DB (Aj ws l k j) k (ws.getD j AB.z)
def Aw(ws:List AB):Nat->List Int
 | 0=>[0]
 | k+1=>if k<(Aw ws k).length then Aj ws (Aw ws k) k ws.length else Aw ws k
def HA(ws:List AB):List Int:=Aw ws 4
def Hs(np:Nat)(l:List Int):Prop:=l.Nodup/\(∀x ∈ l,0<=x/\x<np)/\0<l.length
def PQ(np:Nat)(ws:List AB):Prop:=∀k,k<ws.length->(0<=(ws.getD k AB.z).a/\(ws.getD k AB.z).a<np)/\0<=(ws.getD k AB.z).b/\(ws.getD k AB.z).b<np
section
variable {np:Nat} {l:List Int} {ws:List AB} {k j:Nat} {x:Int} {w:AB}
theorem Hs.len(h:Hs np l):l.length<=np:=by
 refine Vo np l.length (λk=>(l.getD k 0).toNat) (λi hi=>?_) λi j hij hj=>?_
 ·have:=h.2.1 _ (CB (d:=(0:Int)) hi)
  show (l.getD i 0).toNat<np;omega
 ·have h1:=h.2.1 _ (CB (d:=(0:Int)) hj);have h2:=h.2.1 _ (CB (d:=(0:Int)) (show i<l.length by omega));show (l.getD i 0).toNat≠(l.getD j 0).toNat;intro e;have e2:l.getD i 0=l.getD j 0:=aA
  rw [List.getD_eq_getElem?_getD,List.getD_eq_getElem?_getD,List.getElem?_eq_getElem aA,List.getElem?_eq_getElem hj,Option.getD_some,Option.getD_some] at e2
  have:=(List.pairwise_iff_getElem.1 (List.nodup_iff_pairwise_ne.1 h.1)) i j aA hj hij
  exact this e2
theorem Hs.snoc(h:Hs np l)(hx:0<=x/\x<np)(n:¬x ∈ l):Hs np (l++[x]):=
 ⟨List.nodup_append.2 ⟨h.1,aD,λa ha b hb e=>by rw [List.mem_singleton.1 hb] at e;exact n (e▸ha)⟩,λy hy=>by
  rcases List.mem_append.1 hy with hy | hy
  ·exact h.2.1 y hy
  ·rw [List.mem_singleton.1 hy];exact hx,aD⟩
theorem LZ{p q:Int}(h1:p=l.getD k 0)(h2:¬q ∈ l):IP l k p q=l++[q]:=if_pos ⟨h1,h2⟩
theorem La{p q:Int}(h:¬(p=l.getD k 0/\¬q ∈ l)):IP l k p q=l:=if_neg h
theorem rs_tt(h1:w.a=l.getD k 0/\¬w.b ∈ l)(h2:w.b=(l++[w.b]).getD k 0/\¬w.a ∈ l++[w.b]):DB l k w=l++[w.b]++[w.a]:=by unfold DB;rw [LZ h1.1 h1.2,LZ h2.1 h2.2]
theorem rs_tf(h1:w.a=l.getD k 0/\¬w.b ∈ l)(h2:¬(w.b=(l++[w.b]).getD k 0/\¬w.a ∈ l++[w.b])):DB l k w=l++[w.b]:=by unfold DB;rw [LZ h1.1 h1.2,La h2]
theorem rs_ft(h1:¬(w.a=l.getD k 0/\¬w.b ∈ l))(h2:w.b=l.getD k 0/\¬w.a ∈ l):DB l k w=l++[w.a]:=by unfold DB;rw [La h1,LZ h2.1 h2.2]
theorem rs_ff(h1:¬(w.a=l.getD k 0/\¬w.b ∈ l))(h2:¬(w.b=l.getD k 0/\¬w.a ∈ l)):DB l k w=l:=by unfold DB;rw [La h1,La h2]
theorem RR{p q:Int}(h:Hs np l)(hq:0<=q/\q<np):Hs np (IP l k p q):=by
 unfold IP;split
 ·rename_i c;exact h.snoc hq c.2
 ·exact h
theorem Kn(l:List Int)(k:Nat)(p q:Int):l<+:IP l k p q:=by
 unfold IP;split
 ·exact List.prefix_append _ _
 ·exact List.prefix_refl _
theorem S5(h:Hs np l)(ha:0<=w.a/\w.a<np)(hb:0<=w.b/\w.b<np):Hs np (DB l k w):=RR (RR h hb) ha
theorem QE(l:List Int)(k:Nat)(w:AB):l<+:DB l k w:=(Kn _ _ _ _).trans (Kn _ _ _ _)
theorem JA(h:Hs np l)(hw:PQ np ws):∀j,j<=ws.length->Hs np (Aj ws l k j)
 | 0,_=>h
 | j+1,hj=>S5 (JA h hw j aA) (hw j aA).1 (hw j aA).2
theorem IQ:∀j,l<+:Aj ws l k j
 | 0=>List.prefix_refl _
 | j+1=>(IQ j).trans (QE _ _ _)
theorem J4(hn:0<np)(hw:PQ np ws):∀k,Hs np (Aw ws k)
 | 0=>⟨by simp [Aw],λx hx=>by rw [List.mem_singleton.1 hx];omega,Nat.zero_lt_one⟩
 | k+1=>by
  unfold Aw;split
  ·exact JA (J4 hn hw k) hw _ (Nat.le_refl _)
  ·exact J4 hn hw k
theorem NQ(hk:k<(Aw ws k).length):Aw ws (k+1)=Aj ws (Aw ws k) k ws.length:=if_pos hk
theorem NR(hk:(Aw ws k).length<=k):∀m,k<=m->Aw ws m=Aw ws k
 | 0,h=>by rw [show k=0 by omega]
 | m+1,h=>by
  by_cases e:m+1=k
  ·rw [e]
  ·have ih:=NR hk m aA
   have:Aw ws (m+1)=Aw ws m:=by
    conv=>lhs;unfold Aw
    rw [if_neg (by rw [ih];omega)]
   rw [this,ih]
theorem Y1(hk:(Aw ws k).length<=k)(hk4:k<=4):HA ws=Aw ws k:=NR hk 4 hk4
end
def FW(np:Nat)(ws:List AB):Int:=if (5:Int)<ws.length then 2 else if¬C0 (C7 np ws) 0 ws.length=0 then C0 (C7 np ws) 0 ws.length else if (HA ws).length<np then 8 else 0
def Dt(bag kinds:Int)(ps:List ByteArray)(ws:List AB)(js:List AM)(ns:List AK):Int:=
 if¬Gl bag kinds=0 then Gl bag kinds else if¬BQ ps=0 then BQ ps else if¬FW ps.length ws=0 then FW ps.length ws else if¬CC ps.length kinds js=0 then CC ps.length kinds js else Ck ws.length ns
section
variable {V:Type} {p:V->Bool} {l:List V} {d:V} {k j:Nat}
theorem MQ(hk:k<l.length)(e:p (l.getD k d)=true):l.any p=true:=List.any_eq_true.2 ⟨_,CB hk,e⟩
theorem J5(h:(l.take k).any p=false)(hk:l.length<=k):l.any p=false:=by rwa [List.take_of_length_le hk] at h
theorem any_take(hj:j<k)(hk:k<=l.length)(e:p (l.getD j d)=true):(l.take k).any p=true:=by
 refine MQ (k:=j) (d:=d) (by rw [List.length_take];omega) ?_;rw [List.getD_eq_getElem?_getD,List.getElem?_take,if_pos hj,<-List.getD_eq_getElem?_getD];exact e
end
section
variable {np nw:Nat} {ws:List AB} {js:List AM} {ns:List AK} {k:Nat} {kinds:Int}
theorem Lb{a b:Int}(ha:0<=a/\a<=(np:Int)-1)(hb:0<=b/\b<=(np:Int)-1):B5 np [a,b]=0:=by
 have h0:Ef np [a,b] 0=0:=if_neg (λe=>e ha);have h1:Ef np [a,b] 1=0:=if_neg (λe=>e hb);show C0 (Ef np [a,b]) 0 2=0;simp [C0,h0,h1]
theorem miss_no{a b:Int}(h:¬(0<=a/\a<=(np:Int)-1)\/¬(0<=b/\b<=(np:Int)-1)):B5 np [a,b]=6:=by
 show C0 (Ef np [a,b]) 0 2=6;by_cases ha:0<=a/\a<=(np:Int)-1
 ·have h0:Ef np [a,b] 0=0:=if_neg (λe=>e ha);have h1:Ef np [a,b] 1=6:=if_pos (h.resolve_left λe=>e ha);simp [C0,h0,h1]
 ·have h0:Ef np [a,b] 0=6:=if_pos ha;simp [C0,h0]
theorem PR{a:Int}(ha:0<=a/\a<=(np:Int)-1):B5 np [a]=0:=by
 have h0:Ef np [a] 0=0:=if_neg (λe=>e ha);show C0 (Ef np [a]) 0 1=0;simp [C0,h0]
theorem miss_no1{a:Int}(ha:¬(0<=a/\a<=(np:Int)-1)):B5 np [a]=6:=by
 have h0:Ef np [a] 0=6:=if_pos ha;show C0 (Ef np [a]) 0 1=6;simp [C0,h0]
variable (ws k) in
def waP(np:Nat):Prop:=(0<=(ws.getD k AB.z).a/\(ws.getD k AB.z).a<=(np:Int)-1)/\(0<=(ws.getD k AB.z).b/\(ws.getD k AB.z).b<=(np:Int)-1)
theorem wy6(h:¬(0<=(ws.getD k AB.z).a/\(ws.getD k AB.z).a<=(np:Int)-1)\/¬(0<=(ws.getD k AB.z).b/\(ws.getD k AB.z).b<=(np:Int)-1)):C7 np ws k=6:=by
 unfold C7;rw [miss_no h,if_pos aC]
theorem wyP(h:¬(¬(0<=(ws.getD k AB.z).a/\(ws.getD k AB.z).a<=(np:Int)-1)\/¬(0<=(ws.getD k AB.z).b/\(ws.getD k AB.z).b<=(np:Int)-1))):waP ws k np:=⟨Decidable.byContradiction λe=>h (.inl e),Decidable.byContradiction λe=>h (.inr e)⟩
theorem wy7(h:waP ws k np)(h2:(ws.getD k AB.z).b<=(ws.getD k AB.z).a):C7 np ws k=7:=by
 unfold C7;rw [Lb h.1 h.2,if_neg aD,if_pos h2]
theorem wy5(h:waP ws k np)(h2:¬(ws.getD k AB.z).b<=(ws.getD k AB.z).a)(h3:(ws.take k).any (λy=>decide (y.a=(ws.getD k AB.z).a/\y.b=(ws.getD k AB.z).b))=true):C7 np ws k=5:=by
 unfold C7;rw [Lb h.1 h.2,if_neg aD,if_neg h2,if_pos h3]
theorem wy1(h:waP ws k np)(h2:¬(ws.getD k AB.z).b<=(ws.getD k AB.z).a)(h3:(ws.take k).any (λy=>decide (y.a=(ws.getD k AB.z).a/\y.b=(ws.getD k AB.z).b))=false)(h4:¬(((0<=(ws.getD k AB.z).low/\(ws.getD k AB.z).low<=(ws.getD k AB.z).high)/\(ws.getD k AB.z).high<=30)/\(ws.getD k AB.z).high-(ws.getD k AB.z).low<2)):C7 np ws k=1:=by
 unfold C7;rw [Lb h.1 h.2,if_neg aD,if_neg h2,if_neg (by rw [h3];simp)];exact if_pos h4
theorem wy0(h:waP ws k np)(h2:¬(ws.getD k AB.z).b<=(ws.getD k AB.z).a)(h3:(ws.take k).any (λy=>decide (y.a=(ws.getD k AB.z).a/\y.b=(ws.getD k AB.z).b))=false)(h4:(((0<=(ws.getD k AB.z).low/\(ws.getD k AB.z).low<=(ws.getD k AB.z).high)/\(ws.getD k AB.z).high<=30)/\(ws.getD k AB.z).high-(ws.getD k AB.z).low<2)):C7 np ws k=0:=by
 unfold C7;rw [Lb h.1 h.2,if_neg aD,if_neg h2,if_neg (by rw [h3];simp)];exact if_neg (λe=>e h4)
theorem waysOK(h:∀k,k<ws.length->C7 np ws k=0):PQ np ws:=λk hk=>by
 have:=h k hk
 unfold C7 at this;split at this
 ·rename_i a;exact absurd this a
 ·rename_i a
  have q:=FV (Decidable.not_not.1 a);have q1:=q _ List.mem_cons_self;have q2:=q _ (List.mem_cons_of_mem _ List.mem_cons_self);omega
theorem rw2(h:(5:Int)<ws.length):FW np ws=2:=if_pos h
theorem S6{c:Int}(h5:¬(5:Int)<ws.length)(hs:∀j,j<k->C7 np ws j=0)(hk:k<ws.length)(e:C7 np ws k=c)(hc:c≠0):FW np ws=c:=by
 have h1:=BN hs hk e hc;rw [FW,if_neg h5,h1,if_pos hc]
theorem rw8(h5:¬(5:Int)<ws.length)(hs:∀j,j<k->C7 np ws j=0)(hk:ws.length<=k)(h:((HA ws).length:Int)<np):FW np ws=8:=by
 rw [FW,if_neg h5,B0 hs hk,if_neg aD,if_pos aA]
theorem rw0(h5:¬(5:Int)<ws.length)(hs:∀j,j<k->C7 np ws j=0)(hk:ws.length<=k)(h:¬((HA ws).length:Int)<np):FW np ws=0:=by
 rw [FW,if_neg h5,B0 hs hk,if_neg aD,if_neg aA]
theorem jb6(h:¬(0<=(js.getD k AM.z).place/\(js.getD k AM.z).place<=(np:Int)-1)):FU np kinds js k=6:=by
 unfold FU;rw [miss_no1 h,if_pos aC]
theorem jb1(h:0<=(js.getD k AM.z).place/\(js.getD k AM.z).place<=(np:Int)-1)(h2:¬(((0<=(js.getD k AM.z).low/\(js.getD k AM.z).low<=(js.getD k AM.z).high)/\(js.getD k AM.z).high<=30)/\(js.getD k AM.z).high-(js.getD k AM.z).low<2)\/¬(0<=(js.getD k AM.z).due/\(js.getD k AM.z).due<=200)):FU np kinds js k=1:=by
 unfold FU;rw [PR h,if_neg aD];exact if_pos h2
theorem jb2(h:0<=(js.getD k AM.z).place/\(js.getD k AM.z).place<=(np:Int)-1)(h2:¬(¬(((0<=(js.getD k AM.z).low/\(js.getD k AM.z).low<=(js.getD k AM.z).high)/\(js.getD k AM.z).high<=30)/\(js.getD k AM.z).high-(js.getD k AM.z).low<2)\/¬(0<=(js.getD k AM.z).due/\(js.getD k AM.z).due<=200)))(h3:¬((js.getD k AM.z).parts.length:Int)=kinds):FU np kinds js k=2:=by
 unfold FU;rw [PR h,if_neg aD];exact (if_neg h2).trans (if_pos h3)
theorem jb3(h:0<=(js.getD k AM.z).place/\(js.getD k AM.z).place<=(np:Int)-1)(h2:¬(¬(((0<=(js.getD k AM.z).low/\(js.getD k AM.z).low<=(js.getD k AM.z).high)/\(js.getD k AM.z).high<=30)/\(js.getD k AM.z).high-(js.getD k AM.z).low<2)\/¬(0<=(js.getD k AM.z).due/\(js.getD k AM.z).due<=200)))(h3:((js.getD k AM.z).parts.length:Int)=kinds):FU np kinds js k=if (js.getD k AM.z).parts.any (λn=>decide (¬(0<=n/\n<=5))) then 1 else 0:=by
 unfold FU;rw [PR h,if_neg aD];exact (if_neg h2).trans (if_neg (λe=>e h3))
theorem nt2(h:(5:Int)<(ns.getD k AK.z).ways.length):Dr nw ns k=2:=if_pos h
theorem nt6(h:¬(5:Int)<(ns.getD k AK.z).ways.length)(h2:(ns.getD k AK.z).ways.any (λn=>decide (¬(0<=n/\n<=(nw:Int)-1)))=true):Dr nw ns k=6:=by
 unfold Dr;rw [if_neg h,if_pos h2]
theorem nt1(h:¬(5:Int)<(ns.getD k AK.z).ways.length)(h2:(ns.getD k AK.z).ways.any (λn=>decide (¬(0<=n/\n<=(nw:Int)-1)))=false)(h3:¬((0<=(ns.getD k AK.z).low/\(ns.getD k AK.z).low<=(ns.getD k AK.z).high)/\(ns.getD k AK.z).high<=200)):Dr nw ns k=1:=by
 unfold Dr;rw [if_neg h,if_neg (by rw [h2];simp),if_pos (λe=>h3 e.1)]
theorem nt0(h:¬(5:Int)<(ns.getD k AK.z).ways.length)(h2:(ns.getD k AK.z).ways.any (λn=>decide (¬(0<=n/\n<=(nw:Int)-1)))=false)(h3:(0<=(ns.getD k AK.z).low/\(ns.getD k AK.z).low<=(ns.getD k AK.z).high)/\(ns.getD k AK.z).high<=200):Dr nw ns k=0:=by
 unfold Dr;rw [if_neg h,if_neg (by rw [h2];simp),if_neg (λe=>e ⟨h3,aA⟩)]
end
section
variable {ps:List ByteArray} {k:Nat} {a b:List (Int×Int)}
theorem pa4(h:Es (ps.getD k (⟨#[]⟩:ByteArray))=false):FA ps k=4:=by unfold FA;rw [if_pos h]
theorem pa5(h:Es (ps.getD k (⟨#[]⟩:ByteArray))=true)(h2:0<=idxOf (λx=>(ps.getD k (⟨#[]⟩:ByteArray)).toList==x.toList) (ps.take k)):FA ps k=5:=by
 unfold FA;rw [if_neg (by rw [h];simp),if_pos ((E8 _ _).1 h2)]
theorem pa0(h:Es (ps.getD k (⟨#[]⟩:ByteArray))=true)(h2:¬0<=idxOf (λx=>(ps.getD k (⟨#[]⟩:ByteArray)).toList==x.toList) (ps.take k)):FA ps k=0:=by
 unfold FA;rw [if_neg (by rw [h];simp),if_neg λe=>h2 ((E8 _ _).2 e)]
theorem QF(hs:a.take k=b.take k)(hk:k<=a.length)(h:¬(k:Int)<a.length)(hl:(a.length:Int)=b.length):a=b:=by
 rw [List.take_of_length_le aA,List.take_of_length_le aA] at hs;exact hs
theorem eq_getDP{k:Nat}(h:((a.getD k (0,0)).1==(b.getD k (0,0)).1 && ((a.getD k (0,0)).2==(b.getD k (0,0)).2 && true))=true):a.getD k (0,0)=b.getD k (0,0):=by
 simp only [Bool.and_true,Bool.and_eq_true,beq_iff_eq] at h;exact Prod.ext h.1 h.2
theorem ne_getDP{k:Nat}(h:(!((a.getD k (0,0)).1==(b.getD k (0,0)).1 && ((a.getD k (0,0)).2==(b.getD k (0,0)).2 && true)))=true):¬a=b:=λe=>by rw [e] at h;simp at h
end
section
variable (bag kinds:Int) (ps:List ByteArray) (ws:List AB) (js:List AM) (ns:List AK)
def EH:Bool:=decide ((((20:Int)<ps.length\/(20:Int)<ws.length)\/(20:Int)<js.length)\/(20:Int)<ns.length) || ps.any (λs=>decide ((100:Int)<s.size)) || js.any (λj=>decide ((20:Int)<j.parts.length)) || ns.any λn=>decide ((20:Int)<n.ways.length)
def S7:Bool:= !EH ps ws js ns && decide (Dt bag kinds ps ws js ns=0)
end
section
variable {ps:List ByteArray} {ws:List AB} {js:List AM} {ns:List AK} {k:Nat}
theorem Lc(h:EH ps ws js ns=false)(k:Nat):(ps.getD k (⟨#[]⟩:ByteArray)).size<=1000:=by
 unfold EH at h;simp only [Bool.or_eq_false_iff] at h;by_cases hk:k<ps.length
 ·have:=List.any_eq_false.1 h.1.1.2 _ (CB (d:=(⟨#[]⟩:ByteArray)) hk)
  have:=of_decide_eq_false (Bool.eq_false_iff.2 this)
  omega
 ·rw [B2 aA];decide
end
section
variable {bag kinds:Int} {ps:List ByteArray} {ws:List AB} {js:List AM} {ns:List AK}
theorem Jh(h:BQ ps=0):0<ps.length/\ps.length<=4:=by
 unfold BQ at h;split at h
 ·cases h
 ·omega
theorem rc1(h:¬(0<=bag/\bag<=9)\/¬(0<=kinds/\kinds<=3)):Dt bag kinds ps ws js ns=1:=by
 have e:Gl bag kinds=1:=if_pos h;unfold Dt;rw [e,if_pos aC]
theorem tb0(h:¬(¬(0<=bag/\bag<=9)\/¬(0<=kinds/\kinds<=3))):Gl bag kinds=0:=if_neg h
theorem rc2(h0:¬(¬(0<=bag/\bag<=9)\/¬(0<=kinds/\kinds<=3)))(h:¬BQ ps=0):Dt bag kinds ps ws js ns=BQ ps:=by unfold Dt;rw [tb0 h0,if_neg aD,if_pos h]
theorem rc3(h0:¬(¬(0<=bag/\bag<=9)\/¬(0<=kinds/\kinds<=3)))(h1:¬¬BQ ps=0)(h:¬FW ps.length ws=0):Dt bag kinds ps ws js ns=FW ps.length ws:=by unfold Dt;rw [tb0 h0,if_neg aD,if_neg h1,if_pos h]
theorem rc4(h0:¬(¬(0<=bag/\bag<=9)\/¬(0<=kinds/\kinds<=3)))(h1:¬¬BQ ps=0)(h2:¬¬FW ps.length ws=0)(h:¬CC ps.length kinds js=0):Dt bag kinds ps ws js ns=CC ps.length kinds js:=by unfold Dt;rw [tb0 h0,if_neg aD,if_neg h1,if_neg h2,if_pos h]
theorem rc5(h0:¬(¬(0<=bag/\bag<=9)\/¬(0<=kinds/\kinds<=3)))(h1:¬¬BQ ps=0)(h2:¬¬FW ps.length ws=0)(h:¬¬CC ps.length kinds js=0):Dt bag kinds ps ws js ns=Ck ws.length ns:=by unfold Dt;rw [tb0 h0,if_neg aD,if_neg h1,if_neg h2,if_neg h]
theorem gr_len(h:(((20:Int)<ps.length\/(20:Int)<ws.length)\/(20:Int)<js.length)\/(20:Int)<ns.length):EH ps ws js ns=true:=by unfold EH;rw [decide_eq_true h];rfl
theorem gr_p(h:ps.any (λs=>decide ((100:Int)<s.size))=true):EH ps ws js ns=true:=by unfold EH;rw [h];simp
theorem gr_j(h:js.any (λj=>decide ((20:Int)<j.parts.length))=true):EH ps ws js ns=true:=by unfold EH;rw [h];simp
theorem gr_n(h:ns.any (λn=>decide ((20:Int)<n.ways.length))=true):EH ps ws js ns=true:=by unfold EH;rw [h];simp
theorem gr_0(h:¬((((20:Int)<ps.length\/(20:Int)<ws.length)\/(20:Int)<js.length)\/(20:Int)<ns.length))(h1:ps.any (λs=>decide ((100:Int)<s.size))=false)(h2:js.any (λj=>decide ((20:Int)<j.parts.length))=false)(h3:ns.any (λn=>decide ((20:Int)<n.ways.length))=false):EH ps ws js ns=false:=by
 unfold EH;rw [decide_eq_false h,h1,h2,h3];rfl
end
end Go.Ns
namespace Go.Ns
def CU:List ByteArray:=[⟨#[119,111,114,107,115]⟩,⟨#[97,121,114]⟩,⟨#[98,117,116,101]⟩]
theorem DC:∀k,(CU.getD k (⟨#[]⟩:ByteArray)).size<=1000
 | 0=>aC
 | 1=>aC
 | 2=>aC
 | k+3=>by rw [B2 (by simp [CU])];decide
def CQ:List AB:=[⟨0,1,2,3⟩,⟨1,2,4,4⟩,⟨0,2,5,5⟩]
def B7(a b c:Value):List AM:=[⟨1,1,1,5,a,[2]⟩,⟨2,1,2,12,b,[1]⟩,⟨0,1,1,20,c,[1]⟩]
theorem CM.ex{h:GH}{t:TypeId}{a b c:Value}(x:EB h t a [2])(y:EB h t b [1])(z:EB h t c [1]):CM h t (B7 a b c):=λk=>by
 match k with
 | 0=>exact x
 | 1=>exact y
 | 2=>exact z
 | k+3=>rw [B2 (by show 3<=_;omega)];exact EB.nil _ _
theorem AD.isSl{V:Type}{h:GH}{v:Value}{n:Nat}{enc:V->Array Value}{xs:List V}(x:AD h v n enc xs):∀k i,v≠.int k i:=by
 obtain ⟨a,cap,rfl,_⟩:=x;intro k i e;cases e
theorem AD.across9{h h':GH}{v:Value}{xs:List Int}{r:Nat}{a b c d:Value}{T:TypeId}(x:AD h v 1 eI xs)(hb:h r=some (true,.cells #[.int .i64 3,.int .i64 1,a,b,c,d] T (0,0)))(ho:∀y,y≠r->h' y=h y)
  (ha:∀k i,a≠.int k i) (hb':∀k i,b≠.int k i) (hc:∀k i,c≠.int k i) (hd:∀k i,d≠.int k i) (hx:∀o,o<6->∃i:Fin xs.length,(o+i.val=0->xs[i.val]≠3)/\(o+i.val=1->xs[i.val]≠1)):AD h' v 1 eI xs:=by
 obtain ⟨ad,cap,hv,hcap,hm,he⟩:=x;refine ⟨ad,cap,hv,hcap,hm,λi hi=>?_⟩;obtain ⟨y,off,h1,h2⟩:=he i hi;refine ⟨y,off,h1,h2.same (ho y ?_)⟩;rintro rfl;have key:∀j (hj:j<xs.length),off+j<6/\(#[Value.int .i64 3,.int .i64 1,a,b,c,d]:Array Value).extract (off+j) (off+j+1)=eI xs[j]:=λj hj=>by
  obtain ⟨y2,off2,h3,h4⟩:=he j hj;rw [h1] at h3;simp only [Option.some.injEq,Addr.mk.injEq,and_true] at h3;obtain ⟨rfl,rfl⟩:=h3;obtain ⟨p,cc,t,f,q1,q2,q3⟩:=h4;rw [hb] at q1;simp only [Option.some.injEq,Prod.mk.injEq,Obj.cells.injEq] at q1;obtain ⟨_,rfl,_⟩:=q1;rw [Nat.mul_one] at q2 q3;exact ⟨by simp at q2;omega,q3⟩
 obtain ⟨⟨j,hj⟩,e0,e1⟩:=hx off (by have:=(key i hi).1;omega);obtain ⟨k1,k2⟩:=key j hj;simp only at e0 e1;generalize off+j=o at k1 k2 e0 e1;generalize xs[j]=z at k2 e0 e1
 have:o=0\/o=1\/o=2\/o=3\/o=4\/o=5:=aA
 rcases this with rfl | rfl | rfl | rfl | rfl | rfl
 ·have k3:(#[.int .i64 3]:Array Value)=#[.int .i64 z]:=k2;simp at k3;exact e0 rfl k3.symm
 ·have k3:(#[.int .i64 1]:Array Value)=#[.int .i64 z]:=k2;simp at k3;exact e1 rfl k3.symm
 ·have k3:(#[a]:Array Value)=#[.int .i64 z]:=k2;simp at k3;exact ha _ _ k3
 ·have k3:(#[b]:Array Value)=#[.int .i64 z]:=k2;simp at k3;exact hb' _ _ k3
 ·have k3:(#[c]:Array Value)=#[.int .i64 z]:=k2;simp at k3;exact hc _ _ k3
 ·have k3:(#[d]:Array Value)=#[.int .i64 z]:=k2;simp at k3;exact hd _ _ k3
end Go.Ns
namespace Go.Ns
section
variable {m:FN} {b np i k n:Nat}
end
section
variable {p:AH} {ws:List AB} {np:Nat}
end
end Go.Ns
namespace Go.Ns
section
variable {ws:List AB} {c:Hc} {x:AB} {i n k np:Nat}
theorem Ji(h:c i=true):Eg c x i=true:=by
 unfold Eg Hc.set;by_cases e:i=x.b.toNat
 ·rw [if_pos e];by_cases e2:x.b.toNat=x.a.toNat
  ·rw [if_pos e2];rw [e,e2] at h;rw [h];simp
  ·rw [if_neg e2,<-e,h];simp
 ·rw [if_neg e];by_cases e2:i=x.a.toNat
  ·rw [if_pos e2,<-e2,h];simp
  ·rw [if_neg e2];exact h
theorem UV(h:c x.a.toNat=true\/c x.b.toNat=true):Eg c x x.a.toNat=true/\Eg c x x.b.toNat=true:=by
 unfold Eg Hc.set;rcases h with h | h
 ·constructor
  ·by_cases e:x.a.toNat=x.b.toNat
   ·rw [if_pos e];simp [h]
   ·rw [if_neg e];simp [h]
  ·rw [if_pos rfl];simp [h]
 ·constructor
  ·by_cases e:x.a.toNat=x.b.toNat
   ·rw [if_pos e];simp [h]
   ·rw [if_neg e];simp [h]
  ·rw [if_pos rfl];simp [h]
theorem HU:∀(l:List AB)(c:Hc),c i=true->l.foldl Eg c i=true
 | [],_,h=>h
 | x ::l,c,h=>HU l _ (Ji h)
theorem JB:∀(l:List AB)(c:Hc),x ∈ l->(c x.a.toNat=true\/c x.b.toNat=true)->l.foldl Eg c x.a.toNat=true/\l.foldl Eg c x.b.toNat=true
 | y ::l,c,hx,h=>by
  rcases List.mem_cons.1 hx with e | hx
  ·subst e;have b:=UV h;exact ⟨HU l _ b.1,HU l _ b.2⟩
  ·exact JB l _ hx (h.imp Ji Ji)
theorem Jj:∀n (c:Hc),D4 ws (n+1) c=Gz ws (D4 ws n c)
 | 0,_=>rfl
 | n+1,c=>Jj n (Gz ws c)
theorem MR{m:Nat}(h:D4 ws n c i=true):∀d,m=n+d->D4 ws m c i=true
 | 0,e=>by rw [e];exact h
 | d+1,e=>by
  rw [e,show n+(d+1)=(n+d)+1 by omega,Jj];exact HU ws _ (MR h d rfl)
def c0:Hc:=Hc.none.set 0 true
def Ia(ws:List AB)(l:List Int):Prop:=∀i,i<l.length->D4 ws i c0 (l.getD i 0).toNat=true
theorem Ia.snoc{l:List Int}{q:Int}(h:Ia ws l)(hq:D4 ws l.length c0 q.toNat=true):Ia ws (l++[q]):=λi hi=>by
 rw [List.length_append,List.length_singleton] at hi;rw [PA];by_cases e:i<l.length
 ·rw [if_pos e];exact h i e
 ·rw [if_neg e,show i=l.length by omega,Nat.sub_self];exact hq
theorem Ia.step{l:List Int}(h:Ia ws l)(hk:k<l.length)(hx:x ∈ ws):Ia ws (DB l k x):=by
 have one:∀{l:List Int}{p q:Int},Ia ws l->k<l.length->(x.a=p/\x.b=q\/x.b=p/\x.a=q)->Ia ws (IP l k p q):=by
  intro l p q h hk hpq;unfold IP;split
  ·rename_i e
   have f:=h k hk;rw [<-e.1] at f;have g:D4 ws (k+1) c0 q.toNat=true:=by
    rw [Jj];rcases hpq with ⟨rfl,rfl⟩ | ⟨rfl,rfl⟩
    ·exact (JB ws _ hx (.inl f)).2
    ·exact (JB ws _ hx (.inr f)).1
   exact h.snoc (MR g (l.length-(k+1)) aA)
  ·exact h
 have h1:=one h hk (.inl ⟨rfl,rfl⟩);have hl:=(Kn l k x.a x.b).length_le;exact one h1 aA (.inr ⟨rfl,rfl⟩)
theorem Ia.ways{l:List Int}(h:Ia ws l)(hk:k<l.length):∀j,j<=ws.length->Ia ws (Aj ws l k j)
 | 0,_=>h
 | j+1,hj=>(Ia.ways h hk j aA).step (Nat.lt_of_lt_of_le hk (IQ j).length_le) (CB aA)
theorem MS:∀k,Ia ws (Aw ws k)
 | 0=>λi hi=>by
  have:i=0:=by
   have:i<1:=hi
   omega
  subst this;rfl
 | k+1=>by
  unfold Aw;split
  ·rename_i e;exact (MS k).ways e _ (Nat.le_refl _)
  ·exact MS k
theorem S8(hn:0<np)(hw:PQ np ws)(h:¬(HA ws).length<np):FB np ws=0:=by
 have ok:Hs np (HA ws):=J4 hn hw 4;have hl:=ok.len;have all:∀y,y<np->D4 ws np c0 y=true:=λy hy=>by
  have mem:(y:Int) ∈ HA ws:=Decidable.byContradiction λe=>by
   have:=(ok.snoc (x:=(y:Int)) ⟨aA,aA⟩ e).len
   rw [List.length_append,List.length_singleton] at this;omega
  obtain ⟨i,hi,e⟩:=List.mem_iff_getElem.1 mem;have f:D4 ws i c0 ((HA ws).getD i 0).toNat=true:=MS (ws:=ws) 4 i hi;have e2:(HA ws).getD i 0=(y:Int):=by
   rw [List.getD_eq_getElem?_getD,List.getElem?_eq_getElem hi];exact e
  rw [e2] at f;exact MR f (np-i) (by have hi':i<(HA ws).length:=hi;omega)
 unfold FB;rw [if_neg];intro e;obtain ⟨b,hb,hf⟩:=List.any_eq_true.1 e;unfold Oo at hb;obtain ⟨y,hy,rfl⟩:=List.mem_map.1 hb
 have:D4 ws np (Hc.none.set 0 true) y=true:=all y (List.mem_range.1 hy)
 rw [this] at hf;cases hf
end
section
variable {bag kinds:Int} {ps:List ByteArray} {ws:List AB} {js:List AM} {ns:List AK}
theorem V2(hn:0<ps.length)(h:FW ps.length ws=0):Eu ps.length ws=0:=by
 unfold FW at h;split at h
 ·cases h
 ·rename_i a
  split at h
  ·rename_i b;exact absurd h b
  ·rename_i b
   split at h
   ·cases h
   ·rename_i c
    unfold Eu;rw [if_neg a,if_neg b];have z:=DR (Decidable.not_not.1 b);exact S8 hn (waysOK λk hk=>z k (Nat.zero_le _) aA) c
theorem UW(h:Dt bag kinds ps ws js ns=0):BH bag kinds ps ws js ns=0:=by
 unfold Dt at h;split at h
 ·rename_i a;exact absurd h a
 ·rename_i a
  split at h
  ·rename_i b;exact absurd h b
  ·rename_i b
   split at h
   ·rename_i c;exact absurd h c
   ·rename_i c
    split at h
    ·rename_i d;exact absurd h d
    ·rename_i d
     have h1:=Decidable.not_not.1 a;have h2:=Decidable.not_not.1 b;have h3:=V2 (Jh h2).1 (Decidable.not_not.1 c);have h4:=Decidable.not_not.1 d;unfold BH;refine B0 (k:=5) (λj hj=>?_) (Nat.le_refl _)
     match j with
     | 0=>exact h1
     | 1=>exact h2
     | 2=>exact h3
     | 3=>exact h4
     | 4=>exact h
     | j+5=>omega
theorem fit9_ok(h:S7 bag kinds ps ws js ns=true):BH bag kinds ps ws js ns=0/\∀k,(ps.getD k (⟨#[]⟩:ByteArray)).size<=1000:=by
 unfold S7 at h;rw [Bool.and_eq_true] at h;exact ⟨UW (of_decide_eq_true h.2),Lc (by simpa using h.1)⟩
end
end Go.Ns
namespace Go.Ns
open Go.Conc
section
variable {P:Program} {E:GN P} {O:Nat->Value} {ds:List Deferred} {h:GH} {T:(Nat->Value)->List Deferred->GH->Prop} {dst:Option Nat} {ty:TypeId} {pos:String} {af:Array Edge} {gd:Option (Nat×Bool)}
end
section
variable {F G:AH->Int} {l:List AH} {x:AH}
end
section
variable {bag kinds:Int} {ps:List ByteArray} {ws:List AB} {js:List AM} {ns:List AK} {a b c:Int}
theorem Lf{ag:AH->Bool}:∀(f i:Nat)(p q:AH),i+f=ws.length+js.length->(∀k,k<i->k<ws.length->(ws.getD k AB.z).low<=p.ways k/\p.ways k<=(ws.getD k AB.z).high)->q ∈ B6 ag ws js f i p->∀k,k<ws.length->(ws.getD k AB.z).low<=q.ways k/\q.ways k<=(ws.getD k AB.z).high
 | 0,i,p,q,hi,hp,hq,k,hk=>by
  have:q=p:=List.mem_singleton.1 hq
  subst this;exact hp k aA hk
 | f+1,i,p,q,hi,hp,hq,k,hk=>by
  obtain ⟨n,hn,hq⟩:=List.mem_flatMap.1 hq;split at hq
  ·cases hq
  ·refine Lf f (i+1) _ q aA (λj hj hjw=>?_) hq k hk;unfold AH.put;by_cases e:i<ws.length
   ·rw [if_pos e];show _<=(if j=i then n else p.ways j)/\(if j=i then n else p.ways j)<=_;by_cases e2:j=i
    ·subst e2;rw [if_pos rfl]
     have:=L7.1 hn
     unfold CH EF at this;rw [if_pos e,if_pos e] at this;exact this
    ·rw [if_neg e2];exact hp j aA hjw
   ·rw [if_neg e];exact hp j aA hjw
theorem RS{q:AH}(hq:q ∈ AE ws js ns){k:Nat}(hk:k<ws.length):(ws.getD k AB.z).low<=q.ways k/\q.ways k<=(ws.getD k AB.z).high:=by
 unfold AE at hq;split at hq
 ·exact Lf _ 0 _ q aA (λk hk=>absurd hk (Nat.not_lt_zero _)) hq k hk
 ·cases hq
theorem UX(bk:BH bag kinds ps ws js ns=0):(AZ bag kinds ps ws js ns 0=0/\0<(AE ws js ns).length)\/(AZ bag kinds ps ws js ns 0=9/\(AE ws js ns).length=0):=by
 unfold AZ;rw [if_neg (λe=>e bk),if_neg aD];by_cases e:(AE ws js ns).length=0
 ·rw [if_pos e];exact .inr ⟨rfl,e⟩
 ·rw [if_neg e];exact .inl ⟨rfl,aA⟩
end
section
variable {bag kinds:Int} {ps:List ByteArray} {ws:List AB} {js:List AM} {ns:List AK} {a b c s:Int}
end
end Go.Ns
namespace Go.Ns
open Go.Conc
section
variable {P:Program} {Post:Value->World->Prop}
def Xp(P:Program)(Post:Value->World->Prop):Wk P:=⟨true,D0 P Post,KH⟩
theorem S9:Kg (Xp P Post):=⟨Post,rfl⟩
theorem Y3{f:FuncId}{fn:Func}{c:Code}{args:Array Value}{h:GH}{R:Value->GH->Prop}(hf:P.funcs[f]? =some fn)(hb:fn.body=some c)(hsz:args.size<=fn.ntmps)(hin:P.inits.idxOf? f=none)(hpost:∀v h',R v h'->∀w,D9 w h'->Post v w)
  (x:Tr ⟨Xp P Post,f,none,fn.ntmps⟩ c (λi=>args.getD i undef) [] h (λe O ds h'=>(e=.normal\/e=.ret)/\GP P fn O R ds h')):D0 P Post (G (Frame.enter P f args .normal) []) h:=by
 have e0:Frame.enter P f args .normal=Cm (Frame.enter P f args .normal) (args++Array.replicate (fn.ntmps-args.size) undef) [] [.code c]:=by
  simp [Frame.enter,Cm,hf,hb]
 rw [e0];let L:Lv:=λj t ds h'=>(j=none\/j=some .ret)/\∃O,BZ t fn.ntmps O/\GP P fn O R ds h';have fin:∀O ds h' t k,BZ t fn.ntmps O->GP P fn O R ds h'->(Xp P Post).K (G (Ed (Frame.enter P f args .normal) t ds k) []) h':=by
  intro O ds h' t k hs ho;refine Mn (W:=Xp P Post) (R:=R) hf (b:=Frame.enter P f args .normal) rfl (λt k v h h' hr hrun=>?_) ds h' t k hs ho;refine U8 rfl λw fw=>?_;obtain ⟨w',es,r1,r2⟩:=hrun w fw;refine ⟨v,w',seen P f es++ #[],h',?_,r2.sub (es':=seen P f es++ #[]) λe he=>?_,hpost v h' hr w' r2.fits⟩
  ·rw [KW];unfold unwind;have hfn:(Ed (Frame.enter P f args .normal) t [] k).fn=f:=rfl;have hk:(Ed (Frame.enter P f args .normal) t [] k).kind=.normal:=rfl;have hm:(Ed (Frame.enter P f args .normal) t [] k).mode=.returning:=rfl;have hd:(Ed (Frame.enter P f args .normal) t [] k).defers=[]:=rfl;have ht:(Ed (Frame.enter P f args .normal) t [] k).tmps=t:=rfl;simp only [hd,hm,hfn,hf,ht,r1,GStep.after,doReturn,hk,hin];rfl
  ·rw [Array.append_empty] at he;exact mem_seen he
 refine x (Frame.enter P f args .normal) [] [] L _ rfl rfl ⟨?_,?_,?_⟩ ⟨by simp;omega,λi=>?_⟩ ?_
 ·rintro t ds h' ⟨_,O,hs,ho⟩;exact Wk.go (Ed (Frame.enter P f args .normal) t ds []) (λw=>by rw [A7];simp [stepG.exec,Cm,Ed,G,Frame.enter]) (fin O ds h' t [] hs ho)
 ·rintro t ds h' k ⟨_,O,hs,ho⟩;exact Wk.go (Ed (Frame.enter P f args .normal) t ds (.code .ret ::k)) (λw=>by rw [A7];simp [stepG.exec,Cm,Ed,G,Frame.enter]) (fin O ds h' t _ hs ho)
 ·rintro id t ds h' k _ ⟨h1 | h1,_⟩ <;> cases h1
 ·by_cases hi:i<args.size
  ·simp [Array.getD_eq_getD_getElem?,Array.getElem?_append_left hi]
  ·simp only [Array.getD_eq_getD_getElem?];rw [Array.getElem?_append_right aA,Array.getElem?_eq_none (show args.size<=i by omega),Array.getElem?_replicate];split <;> rfl
 ·rintro e O ds h' ⟨he,ho⟩ t' ht';rcases he with rfl | rfl
  ·exact Wk.go (Ed (Frame.enter P f args .normal) t' ds []) (λw=>by rw [A7];simp [stepG.exec,Cm,Ed,G,Frame.enter]) (fin O ds h' t' [] ht' ho)
  ·exact ⟨.inr rfl,O,ht',ho⟩
def GH.of(W:World):GH:=λb=>(W.heap[b]?).map λo=>(false,o)
theorem GH.of_some{W:World}{b:Nat}{o:Obj}(h:W.heap[b]? =some o):GH.of W b=some (false,o):=by unfold GH.of;rw [h];rfl
theorem fits_of(W:World):D9 W (GH.of W):=λb p o h=>by
 unfold GH.of at h;cases e:W.heap[b]? with
 | none=>rw [e] at h;cases h
 | some x=>rw [e] at h;cases h;rfl
theorem kept_of{W w:World}{h:GH}(l:(GH.of W).Le h)(f:D9 w h){b:Nat}{o:Obj}(hb:W.heap[b]? =some o):w.heap[b]? =some o:=f b _ _ (l.keep (GH.of_some hb) rfl)
theorem V3{g:Goroutine}{W:World}(hg:D0 P Post g (GH.of W)):Bt P (In Post W.os W.output) (solo g W) #[]:=by
 have hno:∀k a,touchAt (#[]:Trace) k=some a->False:=λk a h=>by
  obtain ⟨op,h1,_⟩:=touch_of h;simp at h1
 refine hg #[g] W none (λ_=>0) #[] ⟨rfl,?_,fits_of W,?_,?_,λk a b hk=>(hno k a hk).elim,?_,λk a hk=>(hno k a hk).elim,λb p o k a _ _ hk=>(hno k a hk).elim⟩
 ·intro j x hj hx;rw [Array.getElem?_eq_none (by simp;omega)] at hx;cases hx
 ·intro op hop;simp at hop
 ·rintro said ⟨i,j,hij,⟨a,b,ha,_⟩,_⟩;exact hno i a ha
 ·intro op hop;simp at hop
end
end Go.Ns
namespace Go.Ns
open Go.Conc Go.ChangeShapes Go.WideShapes Go.ChangeAt Go.RowKit
section
variable {P:Program} {W:World}
theorem V4{b off n:Nat}{cs:List Value}(h:W.cells? 0 ⟨b,off,none⟩ n=some cs)(hn:0<n):AX (GH.of W) b off n cs.toArray:=by
 obtain ⟨_,hl,hc⟩:=World.cells?_some h;have hcell:∀i,i<n->W.cell? ⟨b,off+i,none⟩=cs[i]? :=λi hi=>by
  have:=hc i hi
  unfold Addr.add at this;split at this
  ·rename_i e;subst e;exact this
  ·exact this
 have h0:=hcell 0 hn;unfold World.cell? at h0;cases hb:W.heap[b]? with
 | none=>simp [hb,List.getElem?_eq_getElem (show 0<cs.length by omega)] at h0
 | some o=>
  cases o with
  | cells c t f=>
   have hall:∀i,i<n->c[off+i]? =cs[i]? :=λi hi=>by
    have:=hcell i hi
    unfold World.cell? at this;simpa [hb] using this
   have hlast:=hall (n-1) aA;rw [List.getElem?_eq_getElem (show n-1<cs.length by omega)] at hlast;have hsz:=(Array.getElem?_eq_some_iff.1 hlast).1;refine ⟨false,c,t,f,GH.of_some hb,aA,?_⟩;apply Array.ext
   ·simp;omega
   ·intro i h1 h2;have hi:i<n:=by simp at h2;omega
    have:=hall i hi
    rw [Array.getElem?_eq_getElem aA,List.getElem?_eq_getElem aA] at this;simpa using this
  | _=>simp [hb,List.getElem?_eq_getElem (show 0<cs.length by omega)] at h0
def MT(P:Program)(W:World)(e:TypeId){V:Type}(enc:V->Array Value)(good:V->Prop):Prop:=
 ∀{H:Type}(en:TypeId×Value->H)(sp:Nat->Bool)(held:Bool)(fuel:Nat)(cs:List Value)(x:DataW H×List MemPlace),DataW.trod en P W 0 sp held fuel e cs=some x->(∀y ∈ x.1.weights P e,y<=reachBytes)->∃a:V,cs=(enc a).toList/\good a
theorem Jk{H:Type}{e:TypeId}{d:DataW H}{y:Nat}:∀{l:List (DataW H)},d ∈ l->y ∈ d.weights P e->y ∈ DataW.weightsAll P e l
 | c ::l,hd,hy=>by
  unfold DataW.weightsAll;rcases List.mem_cons.1 hd with rfl | hd
  ·exact List.mem_append_left _ hy
  ·exact List.mem_append_right _ (Jk hd hy)
theorem Ib{H:Type}{en:TypeId×Value->H}{sp:Nat->Bool}{held:Bool}{fuel:Nat}{t e:TypeId}{n:Nat}{V:Type}{enc:V->Array Value}{good:V->Prop}{v:Value}{d:DataW H}{ps:List MemPlace}(ht:P.underlying t=some (.slice e))(hc:P.cellsOf e=n)(hn:0<n)
  (hb:1<=P.bytesOf e) (ho:MT P W e enc good) (h:DataW.trod en P W 0 sp held fuel t [v]=some (d,ps)) (hw:∀y ∈ d.weights P t,y<=reachBytes):∃xs:List V,AD (GH.of W) v n enc xs/\∀x ∈ xs,good x:=by
 rcases DataW.trod_slice ht h with ⟨h1,_⟩ | ⟨a,len,cap,elems,rest,m,rfl,h1,h2,_,hl,_,hlen,hel,_,_⟩
 ·simp at h1;subst h1;exact ⟨[],AD.nil _ _ _,λx hx=>by cases hx⟩
 ·simp only [List.cons.injEq,and_true] at h1;subst h1;simp only [Prod.mk.injEq] at h2;have hd:d=.slice (elems.map (·.1)) (rest.map (·.1)):=h2.1;have hlim:len<=140737488355328:=by
   have:=hw ((elems.map (·.1)).length+(rest.map (·.1)).length |>.mul (P.bytesOf e)) (by rw [hd];unfold DataW.weights;rw [ht];exact List.mem_cons_self ..)
   have h3:(elems.map (·.1)).length+(rest.map (·.1)).length<=((elems.map (·.1)).length+(rest.map (·.1)).length)*P.bytesOf e:=Nat.le_mul_of_pos_right _ hb;have h4:((elems.map (·.1)).length+(rest.map (·.1)).length)*P.bytesOf e<=reachBytes:=this;rw [List.length_map] at h3 h4;unfold reachBytes at h4;omega
  have each:∀i,i<len->∃x:V,∃b off,a=⟨b,off,none⟩/\AX (GH.of W) b (off+i*n) n (enc x)/\good x:=λi hi=>by
   have:=hel i hi
   rw [List.getElem?_eq_getElem aA,hc] at this;simp only [Option.bind_eq_some_iff] at this;obtain ⟨cs,hcs,hx⟩:=this;obtain ⟨x,e1,e2⟩:=ho _ _ _ _ _ _ hx λy hy=>hw y (by rw [hd];unfold DataW.weights;rw [ht];exact List.mem_cons_of_mem _ (List.mem_append_left _ (Jk (List.mem_map.2 ⟨_,List.getElem_mem (show i<elems.length by omega),rfl⟩) hy)));have hc0:=(World.cells?_some hcs).2.2 0 hn;have hlen2:=(World.cells?_some hcs).2.1;rw [List.getElem?_eq_getElem (show 0<cs.length by omega)] at hc0;have hsp:=World.cell?_spot hc0;obtain ⟨b,off,spot⟩:=a;have hspot:spot=none\/i≠0:=by
    by_cases e0:i=0
    ·subst e0;left;simpa [Addr.add] using hsp
    ·exact .inr e0
   have hfirst:spot=none:=by
    rcases hspot with e | e
    ·exact e
    ·have h00:=hel 0 aA;rw [List.getElem?_eq_getElem aA,hc] at h00;simp only [Option.bind_eq_some_iff] at h00;obtain ⟨c0,hc00,_⟩:=h00;have z:=(World.cells?_some hc00).2.2 0 hn;have zl:=(World.cells?_some hc00).2.1;rw [List.getElem?_eq_getElem (show 0<c0.length by omega)] at z
     have:=World.cell?_spot z
     simpa [Addr.add] using this
   subst hfirst;refine ⟨x,b,off,rfl,?_,e2⟩;have ea:(Addr.add ⟨b,off,none⟩ (i*n))=⟨b,off+i*n,none⟩:=by
    unfold Addr.add;split
    ·rename_i e;rw [e];rfl
    ·rfl
   rw [ea] at hcs
   have:=V4 hcs hn
   rw [e1] at this;simpa using this
  by_cases hz:len=0
  ·subst hz;exact ⟨[],⟨some a,cap,rfl,Nat.zero_le _,Nat.zero_le _,λi hi=>by simp at hi⟩,λx hx=>by cases hx⟩
  ·have hch:∀i:Fin len,∃x:V,∃b off,a=⟨b,off,none⟩/\AX (GH.of W) b (off+i.val*n) n (enc x)/\good x:=λi=>each i.val i.isLt;refine ⟨List.ofFn λi=>Classical.choose (hch i),⟨some a,cap,by rw [List.length_ofFn],by rw [List.length_ofFn];exact hl,by rw [List.length_ofFn];exact hlim,λi hi=>?_⟩,λx hx=>?_⟩
   ·rw [List.length_ofFn] at hi;obtain ⟨b,off,e1,e2,_⟩:=Classical.choose_spec (hch ⟨i,hi⟩);refine ⟨b,off,by rw [e1],?_⟩;rw [List.getElem_ofFn];exact e2
   ·obtain ⟨i,rfl⟩:=List.mem_ofFn.1 hx;obtain ⟨_,_,_,_,e3⟩:=Classical.choose_spec (hch i);exact e3
theorem RT{H:Type}{en:TypeId×Value->H}{t:TypeId}(hl:laidOutB P=true)(hr:P.readableRec t=true)(hrow:t<P.types.size){W':World}{v:Value}{d:DataW H}{ps:List MemPlace}(h:DataW.Trod en P W 0 (λ_=>true) true t v d ps)
  (hk:∀(b:Nat)(o:Obj),W.heap[b]? =some o->W'.heap[b]? =some o) (hlt:∀x ∈ ps,x.block<W.heap.size):DataW.Trod en P W' 0 (λb=>decide (b<W.heap.size)) true t v d ps:=by
 let W2:World:={ W' with os:=W.os,tape:=W.tape,output:=W.output };have hsz:W.heap.size<=W'.heap.size:=by
  rcases Nat.lt_or_ge W'.heap.size W.heap.size with x | x
  ·have:=hk W'.heap.size _ (Array.getElem?_eq_getElem x)
   rw [Array.getElem?_eq_none (Nat.le_refl _)] at this;cases this
  ·exact x
 have hb:Below W.heap.size W W2:=⟨rfl,rfl,rfl,hsz,λk hk'=>by
  show W'.heap[k]? =_;rw [Array.getElem?_eq_getElem hk'];exact hk k _ (Array.getElem?_eq_getElem hk')⟩
 exact DataW.Trod.of_heap (w:=W2) (w':=W') rfl (Below.trod hl hr hrow h hb hlt)
theorem kept_but{W':World}(hk:∀(b:Nat)(o:Obj),W.heap[b]? =some o->W'.heap[b]? =some o)(ho:W'.os=W.os)(hp:W'.output=W.output)(may:MemPlace->Prop):W.keptBut W' may:=by
 refine ⟨ho,hp,λi hi=>?_⟩;rw [hk i _ (Array.getElem?_eq_getElem hi),Array.getElem?_eq_getElem hi];split <;> simp_all
end
end Go.Ns
namespace Go.Ns
open Go.Conc
theorem V5{P:Program}{E:GN P}{O:Nat->Value}{ds:List Deferred}{h:GH}{T:(Nat->Value)->List Deferred->GH->Prop}{dst:Option Nat}{ty:TypeId}{pos:String}{af:Array Edge}{gd:Option (Nat×Bool)}{V:Type}
  {s x:TypeId} {o1 o2:Operand} {h0:GH} {w:Value} {r e n bytes:Nat} {enc:V->Array Value} {ys:List V} (ht:IV P s x=some (e,n,bytes)) (h1:AO O o1=.slice (some ⟨r,0,none⟩) 0 0) (h2:AO O o2=w)
  (hv:AR h0 h (.slice (some ⟨r,0,none⟩) 0 0) e n enc ([]:List V)) (hw:AD h w n enc ys) (l0:∀q,h q=none->h0 q=none) (hb:(2*(([]:List V).length+ys.length)+512)*bytes<=2 ^ 48) (hfine:∀y ∈ ys,(enc y).toList.all (·.oneCell')=true)
  (k:∀v' h',AR h0 h' v' e n enc ys->HE h h' (.slice (some ⟨r,0,none⟩) 0 0) v'->h.Le h'->T (putS O dst v') ds h'):BR E ⟨dst,.call ⟨.builtin .append,#[o1,o2],#[s,x]⟩,ty,pos,af,gd⟩ O ds h T:=
 OJ ht h1 h2 hv hw l0 hb hfine λv' h' o g1 g2 g3=>k v' h' o ⟨g1,g2⟩ (.of λb y hb=>by
  by_cases e:b=r
  ·subst e;rcases hv with ⟨q,_⟩ | ⟨b1,cap,c,q,_,q2,q3,_⟩
   ·cases q
   ·simp only [Value.slice.injEq,Option.some.injEq,Addr.mk.injEq,and_true] at q;obtain ⟨rfl,_,rfl⟩:=q;obtain ⟨c',q5,q6⟩:=g3 b c rfl q2;rw [q2] at hb;cases hb;rw [q5,Array.eq_empty_of_size_eq_zero (show c.size=0 by omega),Array.eq_empty_of_size_eq_zero (show c'.size=0 by omega)]
  ·exact g1 b y hb λq=>e (by simpa [Cc] using q.symm))
section
variable {n i:Nat} {l kn rest:List Int}
end
section
variable {n:Nat} {a b:List Sl}
end
section
variable {l:List Int} {i q:Nat}
end
section
variable {bag kinds:Int} {ps:List ByteArray} {ws:List AB} {js:List AM} {ns:List AK} {l:List Int} {p:AH} {i:Nat}
end
section
variable {F G:AH->Int} {l:List AH}
end
section
variable {bag kinds:Int} {ps:List ByteArray} {ws:List AB} {js:List AM} {ns:List AK} {l:List Int} {i k:Nat}
end
end Go.Ns
namespace Go.Ns
section
variable {bag kinds:Int} {ps:List ByteArray} {ws:List AB} {js:List AM} {ns:List AK} {r l:List Int} {i k:Nat} {s:Int}
end
end Go.Ns
namespace Go.Ns
section
variable {a b c:List Int} {x y:Int}
end
section
variable {jobs l r:List Int} {f n:Nat}
end
section
variable {g pre:List (List Int)} {x:List Int}
end
section
variable {G:List Int->Int} {l:List (List Int)}
end
end Go.Ns
namespace Go.Ns
open Go.Conc Go Go.RowKit
section
variable {P:Program} {E:GN P} {O:Nat->Value} {ds:List Deferred} {h:GH} {T:(Nat->Value)->List Deferred->GH->Prop} {dst:Option Nat} {ty:TypeId} {pos:String} {af:Array Edge} {gd:Option (Nat×Bool)}
end
section
variable {ns:List AK} {l:List Int} {k:Nat} {h:GH}
end
section
variable {bag kinds:Int} {ps:List ByteArray} {ws:List AB} {js:List AM} {ns:List AK}
theorem Xq(b:BT bag kinds ps ws js ns):BH bag kinds ps ws js ns=0:=by
 refine B0 (k:=5) (λj hj=>?_) (Nat.le_refl _)
 match j with
 | 0=>exact if_neg (by have:=b.hbag;have:=b.hkin;omega)
 | 1=>exact (if_neg (by have:=b.plen;omega)).trans (B0 b.place (Nat.le_refl _))
 | 2=>exact (LO (by have:=b.wlen;omega) b.way (Nat.le_refl _)).trans b.led
 | 3=>exact (if_neg (by have:=b.jlen;omega)).trans (B0 b.job (Nat.le_refl _))
 | 4=>exact (if_neg (by have:=b.nlen;omega)).trans (B0 b.note (Nat.le_refl _))
 | j+5=>omega
theorem UY(hz:BH bag kinds ps ws js ns=0):Ki bag kinds ps ws js ns=((AE ws js ns).length:Int):=if_pos hz
end
end Go.Ns
namespace Go.Ns
open Go.Conc
def timed(ws:List AB)(i:Nat)(lo hi:Int):List AB:=ws.set i ⟨(ws.getD i AB.z).a,(ws.getD i AB.z).b,lo,hi⟩
def RU(x:AB):Int×Int:=(x.a,x.b)
section
variable {ws ws':List AB} {js:List AM} {ns:List AK} {i k np:Nat} {lo hi n:Int} {p q:AH} {ag:AH->Bool}
theorem Ea:(timed ws i lo hi).length=ws.length:=List.length_set
theorem J6(k:Nat):(timed ws i lo hi).getD k AB.z=if k=i/\i<ws.length then ⟨(ws.getD i AB.z).a,(ws.getD i AB.z).b,lo,hi⟩ else ws.getD k AB.z:=by
 unfold timed;rw [List.getD_eq_getElem?_getD,List.getElem?_set];by_cases h:i=k
 ·subst h;by_cases h2:i<ws.length
  ·rw [if_pos rfl,if_pos h2,if_pos ⟨rfl,h2⟩];rfl
  ·rw [if_pos rfl,if_neg h2,if_neg (λq=>h2 q.2),B2 aA];rfl
 ·rw [if_neg h,if_neg (λq=>h q.1.symm),<-List.getD_eq_getElem?_getD]
theorem UZ:(timed ws i lo hi).map RU=ws.map RU:=by
 apply List.ext_getElem
 ·rw [List.length_map,List.length_map,Ea]
 ·intro k h1 h2;rw [List.getElem_map,List.getElem_map];have e:=J6 (ws:=ws) (i:=i) (lo:=lo) (hi:=hi) k;rw [List.length_map] at h1 h2;rw [DP AB.z h1,DP AB.z h2] at e;rw [e];split
  ·rename_i c
   obtain ⟨rfl,c⟩:=c;rw [DP AB.z h2];rfl
  ·rfl
theorem PS:∀{ws ws':List AB}(c:Hc),ws'.map RU=ws.map RU->ws'.foldl Eg c=ws.foldl Eg c
 | [],[],c,_=>rfl
 | x ::ws,y ::ws',c,h=>by
  rw [List.map_cons,List.map_cons] at h;have h1:=(List.cons.inj h).1;have e:Eg c y=Eg c x:=by
   unfold Eg;rw [show y.a=x.a from congrArg Prod.fst h1,show y.b=x.b from congrArg Prod.snd h1]
  rw [List.foldl_cons,List.foldl_cons,e];exact PS _ (List.cons.inj h).2
 | [],_ ::_,c,h=>(by cases h)
 | _ ::_,[],c,h=>(by cases h)
theorem RV(h:ws'.map RU=ws.map RU):∀n c,D4 ws' n c=D4 ws n c
 | 0,c=>rfl
 | n+1,c=>by
  show D4 ws' n (ws'.foldl Eg c)=D4 ws n (ws.foldl Eg c);rw [PS c h];exact RV h n _
theorem led_ab(h:ws'.map RU=ws.map RU):FB np ws'=FB np ws:=by
 unfold FB;rw [RV h]
theorem any_ab{f:Int×Int->Bool}:∀{ws ws':List AB}(k:Nat),ws'.map RU=ws.map RU->(ws'.take k).any (λy=>f (RU y))=(ws.take k).any (λy=>f (RU y)):=λ{ws ws'} k h=>by
 have e:∀l:List AB,l.any (λy=>f (RU y))=(l.map RU).any f:=λl=>by rw [List.any_map];rfl
 rw [e,e,List.map_take,List.map_take,h]
theorem wayAt_ab(h:ws'.map RU=ws.map RU)(hk:k<ws.length)(h0:C7 np ws k=0)(hs:FT (ws'.getD k AB.z).low (ws'.getD k AB.z).high 30 2):C7 np ws' k=0:=by
 have hl:ws'.length=ws.length:=by have:=congrArg List.length h;simpa using this
 have e:RU (ws'.getD k AB.z)=RU (ws.getD k AB.z):=by
  have:(ws'.map RU).getD k (0,0)=(ws.map RU).getD k (0,0):=by rw [h]
  rw [DP (0,0) (by rw [List.length_map];omega),DP (0,0) (by rw [List.length_map];omega),List.getElem_map,List.getElem_map] at this;rw [DP AB.z aA,DP AB.z hk];exact this
 have ea:(ws'.getD k AB.z).a=(ws.getD k AB.z).a:=congrArg Prod.fst e;have eb:(ws'.getD k AB.z).b=(ws.getD k AB.z).b:=congrArg Prod.snd e;have f:=any_ab (f:=λz=>decide (z.1=(ws.getD k AB.z).a/\z.2=(ws.getD k AB.z).b)) k h;have f2:(ws'.take k).any (λy=>decide (y.a=(ws.getD k AB.z).a/\y.b=(ws.getD k AB.z).b))=(ws.take k).any (λy=>decide (y.a=(ws.getD k AB.z).a/\y.b=(ws.getD k AB.z).b)):=f;unfold C7 at h0 ⊢;rw [ea,eb,f2];split at h0
 ·rename_i a;exact absurd h0 a
 ·rename_i a
  rw [if_neg a];split at h0
  ·cases h0
  ·rename_i b
   rw [if_neg b];split at h0
   ·cases h0
   ·rename_i c
    rw [if_neg c,if_neg (λq=>q hs)]
theorem BT.timed{bag kinds:Int}{ps:List ByteArray}(b:BT bag kinds ps ws js ns)(hs:FT lo hi 30 2):BT bag kinds ps (timed ws i lo hi) js ns:=
 { b with
  wlen:=by rw [Ea];exact b.wlen
  way:=λk hk=>by
   rw [Ea] at hk;refine wayAt_ab UZ hk (b.way k hk) ?_;rw [J6];split
   ·exact hs
   ·have:=(Hn b.way k hk).time
    unfold FT;omega
  led:=by rw [led_ab UZ];exact b.led
  note:=λk hk=>by rw [Ea];exact b.note k hk }
theorem N3(h:k≠i):CH (timed ws i lo hi) js k=CH ws js k/\EF (timed ws i lo hi) js k=EF ws js k:=by
 have e:=J6 (ws:=ws) (i:=i) (lo:=lo) (hi:=hi) k;rw [if_neg (λq=>h q.1)] at e;unfold CH EF;rw [Ea,e];exact ⟨rfl,rfl⟩
theorem Xr(h:i<ws.length):CH (timed ws i n n) js i=n/\EF (timed ws i n n) js i=n:=by
 unfold CH EF;rw [Ea,if_pos h,if_pos h,J6,if_pos ⟨rfl,h⟩];exact ⟨rfl,rfl⟩
theorem KP:∀(f k:Nat)(p:AH),i<k->∀q ∈ B6 ag ws js f k p,q.ways i=p.ways i
 | 0,k,p,_,q,hq=>by rw [List.mem_singleton.1 hq]
 | f+1,k,p,hk,q,hq=>by
  obtain ⟨m,_,hq⟩:=List.mem_flatMap.1 hq;split at hq
  ·cases hq
  ·rw [KP f (k+1) _ aA q hq];unfold AH.put;split
   ·show (if i=k then m else p.ways i)=_;rw [if_neg aA]
   ·rfl
theorem KQ:∀(f k:Nat)(p:AH),i<k->B6 ag (timed ws i lo hi) js f k p=B6 ag ws js f k p
 | 0,_,_,_=>rfl
 | f+1,k,p,hk=>by
  rw [C2,C2,(N3 aA).1,(N3 aA).2];congr 1;funext m;unfold Bv;rw [Ea,KQ f (k+1) _ aA]
theorem NS{β:Type}{F:Int->List β}:∀{l:List Int},l.Nodup->n ∈ l->(∀m ∈ l,m≠n->F m=[])->l.flatMap F=F n
 | x ::l,hd,hm,h0=>by
  rw [List.flatMap_cons];have hd2:=List.nodup_cons.1 hd;by_cases e:x=n
  ·subst e;rw [List.flatMap_eq_nil_iff.2 λm hm2=>h0 m (List.mem_cons_of_mem _ hm2) λq=>hd2.1 (q▸hm2),List.append_nil]
  ·rw [h0 x List.mem_cons_self e,List.nil_append];exact NS hd2.2 ((List.mem_cons.1 hm).resolve_left λq=>e q.symm) λm hm2=>h0 m (List.mem_cons_of_mem _ hm2)
theorem Ua(lo hi:Int):(Gx lo hi).Nodup:=by
 unfold Gx Cj;refine List.nodup_iff_pairwise_ne.2 ?_;rw [List.pairwise_map];exact List.nodup_range.imp λ{a b} h e=>h aA
theorem Y4(n:Int):Gx n n=[n]:=by
 unfold Gx;rw [show (n-n+1).toNat=1 by omega];show [n+((0:Nat):Int)]=[n];rw [show n+((0:Nat):Int)=n by omega]
theorem Jl(hi:i<ws.length)(hn:(ws.getD i AB.z).low<=n/\n<=(ws.getD i AB.z).high):∀(f k:Nat)(p:AH),k<=i->k+f=ws.length+js.length->B6 ag (timed ws i n n) js f k p=(B6 ag ws js f k p).filter (λx=>decide (x.ways i=n))
 | 0,k,p,h1,h2=>aA
 | f+1,k,p,h1,h2=>by
  rw [C2,C2,List.filter_flatMap];by_cases e:k=i
  ·subst e;rw [(Xr hi).1,(Xr hi).2,Y4,List.flatMap_cons,List.flatMap_nil,List.append_nil];have all:∀m,∀q ∈ Bv ag ws js f k p m,q.ways k=m:=λm q hq=>by
    unfold Bv at hq;split at hq
    ·cases hq
    ·rw [KP f (k+1) _ aA q hq];unfold AH.put;rw [if_pos hi];show (if k=k then m else p.ways k)=m;rw [if_pos rfl]
   rw [NS (n:=n) (Ua _ _) ?_ ?_]
   ·rw [List.filter_eq_self.2 λq hq=>decide_eq_true (all n q hq)];unfold Bv;rw [Ea,KQ f (k+1) _ aA]
   ·rw [L7];unfold CH EF;rw [if_pos hi,if_pos hi];exact hn
   ·intro m _ hm;exact List.filter_eq_nil_iff.2 λq hq=>by rw [all m q hq];simpa using hm
  ·rw [(N3 e).1,(N3 e).2];congr 1;funext m;unfold Bv;rw [Ea];split
   ·rfl
   ·exact Jl hi hn f (k+1) _ aA aA
theorem Ub(hi:i<ws.length)(hn:(ws.getD i AB.z).low<=n/\n<=(ws.getD i AB.z).high):AE (timed ws i n n) js ns=(AE ws js ns).filter (λx=>decide (x.ways i=n)):=by
 unfold AE;rw [Ea,if_pos (.inl aA),if_pos (.inl aA)];exact Jl hi hn _ 0 _ (Nat.zero_le _) aA
end
section
variable {ws:List AB} {js:List AM} {ns:List AK} {i k:Nat} {n:Int}
end
section
variable {bag kinds:Int} {ps:List ByteArray} {ws:List AB} {js:List AM} {ns:List AK} {i:Nat} {lo hi x:Int}
theorem Ko(hz:BH bag kinds ps ws js ns=0)(hs:FT lo hi 30 2):BH bag kinds ps (timed ws i lo hi) js ns=0:=Xq ((CN hz).timed hs)
theorem V6(hz:BH bag kinds ps ws js ns=0)(hi:i<ws.length):∀x ∈ AE ws js ns,(ws.getD i AB.z).low<=x.ways i/\x.ways i<=(ws.getD i AB.z).high:=λx hx=>RS hx hi
end
end Go.Ns
namespace Go.Ns
open Go.Conc
structure Uc(x y:AM):Prop where
 p:x.place=y.place
 lo:x.low=y.low
 hi:x.high=y.high
 du:x.due=y.due
 ps:x.parts=y.parts
structure Ud(x y:AK):Prop where
 ws:x.ways=y.ways
 lo:x.low=y.low
 hi:x.high=y.high
section
variable {ws:List AB} {js js':List AM} {ns ns':List AK} {bag kinds:Int} {ps:List ByteArray} {i:Nat} {pq:List AH}
theorem PT(js:List AM)(f:Nat->Value)(n k:Nat):Uc ((Gb js f n).getD k AM.z) (js.getD k AM.z):=by
 by_cases h:k<js.length
 ·rw [MO,Gq h];split
  ·exact ⟨rfl,rfl,rfl,rfl,rfl⟩
  ·exact ⟨rfl,rfl,rfl,rfl,rfl⟩
 ·rw [B2 (by rw [H4];omega),B2 aA];exact ⟨rfl,rfl,rfl,rfl,rfl⟩
theorem PU(ns:List AK)(f:Nat->Value)(n k:Nat):Ud ((HI ns f n).getD k AK.z) (ns.getD k AK.z):=by
 by_cases h:k<ns.length
 ·rw [MP,Gq h];split
  ·exact ⟨rfl,rfl,rfl⟩
  ·exact ⟨rfl,rfl,rfl⟩
 ·rw [B2 (by rw [H5];omega),B2 aA];exact ⟨rfl,rfl,rfl⟩
theorem PW(hl:ns'.length=ns.length)(h:∀k,Ud (ns'.getD k AK.z) (ns.getD k AK.z))(p:AH):CR ns' p=CR ns p:=by
 have e:∀l:List AK,CR l p=(l.map λx=>(x.ways,x.low,x.high)).all λz=>decide (z.2.1<=Ek p z.1/\Ek p z.1<=z.2.2):=λl=>by
  unfold CR;rw [List.all_map];rfl
 rw [e,e];congr 1;apply List.ext_getElem
 ·rw [List.length_map,List.length_map,hl]
 ·intro k h1 h2;rw [List.length_map] at h1 h2;have s:=h k;rw [DP AK.z h1,DP AK.z h2] at s;rw [List.getElem_map,List.getElem_map,s.ws,s.lo,s.hi]
theorem KR{ag ag':AH->Bool}(ha:∀p,ag' p=ag p)(h:∀k,Uc (js'.getD k AM.z) (js.getD k AM.z)):∀(f k:Nat)(p:AH),B6 ag' ws js' f k p=B6 ag ws js f k p
 | 0,_,_=>rfl
 | f+1,k,p=>by
  have e:CH ws js' k=CH ws js k/\EF ws js' k=EF ws js k:=by
   unfold CH EF;rw [(h _).lo,(h _).hi];exact ⟨rfl,rfl⟩
  rw [C2,C2,e.1,e.2];congr 1;funext m;unfold Bv;rw [ha,KR ha h f]
theorem V7(hj:js'.length=js.length)(h:∀k,Uc (js'.getD k AM.z) (js.getD k AM.z))(hl:ns'.length=ns.length)(h2:∀k,Ud (ns'.getD k AK.z) (ns.getD k AK.z)):AE ws js' ns'=AE ws js ns:=by
 unfold AE;rw [PW hl h2,hj,KR (PW hl h2) h]
theorem tours_re(f g:Nat->Value):AE ws (Gb js f js.length) (HI ns g ns.length)=AE ws js ns:=V7 (H4 ..) (PT _ _ _) (H5 ..) (PU _ _ _)
theorem BT.same(b:BT bag kinds ps ws js ns)(hj:js'.length=js.length)(h:∀k,Uc (js'.getD k AM.z) (js.getD k AM.z))(hl:ns'.length=ns.length)(h2:∀k,Ud (ns'.getD k AK.z) (ns.getD k AK.z)):BT bag kinds ps ws js' ns':=
 { b with
  jlen:=by rw [hj];exact b.jlen
  job:=λk hk=>by
   have:=b.job k aA
   unfold FU at this ⊢;rw [(h k).p,(h k).lo,(h k).hi,(h k).du,(h k).ps];exact this
  nlen:=by rw [hl];exact b.nlen
  note:=λk hk=>by
   have:=b.note k aA
   unfold Dr at this ⊢;rw [(h2 k).ws,(h2 k).lo,(h2 k).hi];exact this }
theorem Xs(hz:BH bag kinds ps ws js ns=0)(f g:Nat->Value):BH bag kinds ps ws (Gb js f js.length) (HI ns g ns.length)=0:=Xq ((CN hz).same (H4 ..) (PT _ _ _) (H5 ..) (PU _ _ _))
def V8(pq:List AH)(i k:Nat):Nat:=(pq.filter λx=>decide (x.ways i=(k:Int))).length
def Ic(pq:List AH)(i:Nat):Nat->Nat
 | 0=>0
 | k+1=>Ic pq i k+V8 pq i k
theorem RW(k:Nat):Ic pq i (k+1)=Ic pq i k+V8 pq i k:=rfl
theorem mCnt_le(k:Nat):V8 pq i k<=pq.length:=List.length_filter_le _ _
theorem TA(h:∀x ∈ pq,0<=x.ways i):∀k,Ic pq i k=(pq.filter λx=>decide (x.ways i<(k:Int))).length
 | 0=>by
  rw [List.filter_eq_nil_iff.2 λx hx=>by have:=h x hx;simp;omega];rfl
 | k+1=>by
  have ih:=TA h k;unfold Ic V8;rw [ih];clear ih h
  induction pq with
  | nil=>rfl
  | cons x l ih=>
   rw [List.filter_cons,List.filter_cons,List.filter_cons];by_cases h1:x.ways i<(k:Int)
   ·rw [if_pos (decide_eq_true h1),if_neg (by simp;omega),if_pos (by simp;omega)];simp only [List.length_cons];omega
   ·by_cases h2:x.ways i=(k:Int)
    ·rw [if_neg (by simpa using h1),if_pos (decide_eq_true h2),if_pos (by simp;omega)];simp only [List.length_cons];omega
    ·rw [if_neg (by simpa using h1),if_neg (by simpa using h2),if_neg (by simp;omega)];exact ih
theorem mSum_all(h:∀x ∈ pq,0<=x.ways i/\x.ways i<=30):Ic pq i 31=pq.length:=by
 rw [TA (λx hx=>(h x hx).1),List.filter_eq_self.2 λx hx=>decide_eq_true (by have:=h x hx;omega)]
theorem mSum_le(h:∀x ∈ pq,0<=x.ways i)(k:Nat):Ic pq i k<=pq.length:=by rw [TA h];exact List.length_filter_le _ _
theorem Ue{k:Nat}(hi:i<ws.length)(h:(ws.getD i AB.z).low<=(k:Int)/\(k:Int)<=(ws.getD i AB.z).high):(AE (timed ws i (k:Int) (k:Int)) js ns).length=V8 (AE ws js ns) i k:=by
 rw [Ub hi h];rfl
theorem cnt_bad{k:Nat}(hi:i<ws.length)(h:¬(((ws.getD i AB.z).low<=(k:Int)/\(k:Int)<=(ws.getD i AB.z).high)/\(0:Int)<((AE (timed ws i (k:Int) (k:Int)) js ns).length:Int))):V8 (AE ws js ns) i k=0:=by
 by_cases c:(ws.getD i AB.z).low<=(k:Int)/\(k:Int)<=(ws.getD i AB.z).high
 ·have:=Ue (js:=js) (ns:=ns) hi c;omega
 ·unfold V8;rw [List.filter_eq_nil_iff.2 λx hx=>?_];· rfl
  have:=RS hx hi
  simp;omega
theorem RX{x y:Int}(bk:BT bag kinds ps ws js ns)(hi:i<ws.length)(h:max (ws.getD i AB.z).low x<=min (ws.getD i AB.z).high y):FT (max (ws.getD i AB.z).low x) (min (ws.getD i AB.z).high y) 30 2:=by
 have:=(Hn bk.way i hi).time
 unfold FT;omega
theorem Y5{k:Nat}(hz:BH bag kinds ps ws js ns=0)(hi:i<ws.length)(h:((ws.getD i AB.z).low<=(k:Int)/\(k:Int)<=(ws.getD i AB.z).high)/\(0:Int)<((AE (timed ws i (k:Int) (k:Int)) js ns).length:Int)) :
  max (ws.getD i AB.z).low (k:Int)=(k:Int)/\min (ws.getD i AB.z).high (k:Int)=(k:Int)/\AZ bag kinds ps (timed ws i (max (ws.getD i AB.z).low (k:Int)) (min (ws.getD i AB.z).high (k:Int))) js ns 0=0:=by
 have e1:max (ws.getD i AB.z).low (k:Int)=(k:Int):=aA
 have e2:min (ws.getD i AB.z).high (k:Int)=(k:Int):=aA
 have sp:=RX (x:=(k:Int)) (y:=(k:Int)) (CN hz) hi aA;refine ⟨e1,e2,?_⟩;rcases UX (Ko (i:=i) hz sp) with q | q
 ·exact q.1
 ·have:=q.2;rw [e1,e2] at this;omega
theorem meas_bad{k:Nat}(hi:i<ws.length)(h:¬(((ws.getD i AB.z).low<=(k:Int)/\(k:Int)<=(ws.getD i AB.z).high)/\(0:Int)<((AE (timed ws i (k:Int) (k:Int)) js ns).length:Int))) :
  min (ws.getD i AB.z).high (k:Int)<max (ws.getD i AB.z).low (k:Int)\/¬AZ bag kinds ps (timed ws i (max (ws.getD i AB.z).low (k:Int)) (min (ws.getD i AB.z).high (k:Int))) js ns 0=0:=by
 by_cases c:(ws.getD i AB.z).low<=(k:Int)/\(k:Int)<=(ws.getD i AB.z).high
 ·right;have e1:max (ws.getD i AB.z).low (k:Int)=(k:Int):=aA
  have e2:min (ws.getD i AB.z).high (k:Int)=(k:Int):=aA
  rw [e1,e2];intro q
  have:=(EU q).2.2
  omega
 ·by_cases d:min (ws.getD i AB.z).high (k:Int)<max (ws.getD i AB.z).low (k:Int)
  ·exact .inl d
  ·omega
theorem Y6(hz:BH bag kinds ps ws js ns=0)(h:¬AZ bag kinds ps ws js ns 0=0):AZ bag kinds ps ws js ns 0=9:=(UX hz).elim (λq=>absurd q.1 h) (λq=>q.1)
end
end Go.Ns
namespace Go.Ns
open Go.Conc
universe u
theorem Z{V:Sort u}{a:V}:a=a:=rfl
theorem Lr{h:GH}:GH.Le h h:=GH.Le.refl h
theorem Ln{h h':GH}(l:h.Le h'){r:Nat}(hr:h' r=none):h r=none:=l.nothing hr
theorem CP{h:GH}{b r:Nat}{p:Bool}{o:Obj}(hb:h b=some (p,o))(hr:h r=none):b≠r:=GH.ne_of hb hr
theorem Nb{a b:Nat}(h:Nat.ble a b=true):a<=b:=Nat.le_of_ble_eq_true h
theorem Dn{p:Prop}[Decidable p](h:¬¬p):p:=Decidable.not_not.1 h
theorem Et{V:Sort u}{a b c:V}(x:a=b)(y:b=c):a=c:=x.trans y
theorem Kl{h0 h:GH}(k:KeepD (λb=>h0 b=none) h0 h):h0.Le h:=k.leOf
theorem Bx{h:GH}{b:Nat}{p:Bool}{c:Array Value}{t:TypeId}{f:Nat×Nat}(hb:h b=some (p,.cells c t f)){n:Nat}(hn:c.size=n):AX h b 0 n c:=AX.box hb hn
abbrev lE(v:Value):Law2:=λ_ u _=>u=v
abbrev lF(v:Value):QS:=λu _=>u=v
abbrev zP:Array Value:=#[.int .i64 0,.int .i64 0,.slice none 0 0,.slice none 0 0,.slice none 0 0,.slice none 0 0,.map none]
section
variable {P:Program} {E:GN P} {O:Nat->Value} {ds:List Deferred} {h:GH} {Q:Post} {T:(Nat->Value)->List Deferred->GH->Prop}
variable {dst:Option Nat} {ty:TypeId} {pos:String} {af:Array Edge} {ops:Array Oper} {o:Oper} {l:List Oper}
theorem Sq{x y:Code}(a:Tr E x O ds h (λe σ' ds' h'=>match e with | .normal=>Tr E y σ' ds' h' Q | e=>Q e σ' ds' h')):Tr E (.seq x y) O ds h Q:=tr_seq a
theorem Rg{id:Nat}{l:List Oper}(a:DM E l.toArray l O ds h Q):Tr E (.region id l.toArray false) O ds h Q:=X5 a
theorem Nl(q:Q .normal O ds h):DM E ops [] O ds h Q:=trL_nil q
abbrev Rt:=@tr_ret
abbrev Bk:=@tr_block
abbrev Sk:=@tr_skip
abbrev Xt:=@tr_exit
def plainB(N:Nat)(o:Oper):Bool:=o.guard.isNone && !C4 o.op && C1 o.dst N
theorem Pl(hp:plainB E.N o=true)(x:BR E o O ds h λσ' ds' h'=>DM E ops l σ' ds' h' Q):DM E ops (o ::l) O ds h Q:=by
 simp only [plainB,Bool.and_eq_true,Option.isNone_iff_eq_none,Bool.not_eq_true'] at hp;exact GQ hp.1.1 hp.1.2 hp.2 x
theorem Mv{x:Operand}(v:Value)(hp:C1 dst E.N=true)(hx:AO O x=v)(k:DM E ops l (putS O dst v) ds h Q):DM E ops (⟨dst,.move x,ty,pos,af,none⟩ ::l) O ds h Q:=GQ rfl rfl hp (SE hx k)
theorem As{x:Operand}(v:Value)(hp:C1 dst E.N=true)(hx:AO O x=v)(k:DM E ops l (putS O dst v) ds h Q):DM E ops (⟨dst,.assign x,ty,pos,af,none⟩ ::l) O ds h Q:=GQ rfl rfl hp (L2 hx k)
theorem Ld{t:TypeId}{x:Operand}{b off:Nat}(v:Value)(hp:C1 dst E.N=true)(hx:AO O x=.pointer (some ⟨b,off,none⟩))(hr:Rd P h t b off v)(k:DM E ops l (putS O dst v) ds h Q):DM E ops (⟨dst,.load t x,ty,pos,af,none⟩ ::l) O ds h Q:=
 GQ rfl rfl hp (Ca hx hr k)
theorem Fa{s:TypeId}{x:Operand}{f o b off:Nat}(hf:Dv P s f=some o)(hp:C1 dst E.N=true)(hx:AO O x=.pointer (some ⟨b,off,none⟩))(k:DM E ops l (putS O dst (.pointer (some ⟨b,off+o,none⟩))) ds h Q) :
  DM E ops (⟨dst,.fieldAddr s x f,ty,pos,af,none⟩ ::l) O ds h Q:=GQ rfl rfl hp (AF hf hx k)
theorem Pk{c a b:Operand}(t:Bool)(v:Value)(hp:C1 dst E.N=true)(hc:AO O c=.bool t)(hv:(if t then AO O a else AO O b)=v)(k:DM E ops l (putS O dst v) ds h Q):DM E ops (⟨dst,.pick c a b,ty,pos,af,none⟩ ::l) O ds h Q:=
 GQ rfl rfl hp (Av hc hv k)
theorem Ad{xt yt:TypeId}{x y:Operand}(a b:Int)(hp:C1 dst E.N=true)(hx:AO O x=.int .i64 a)(hy:AO O y=.int .i64 b)(hr: -9223372036854775808<=a+b/\a+b<=9223372036854775807)(k:DM E ops l (putS O dst (.int .i64 (a+b))) ds h Q) :
  DM E ops (⟨dst,.binOp .add xt x y yt,ty,pos,af,none⟩ ::l) O ds h Q:=GQ rfl rfl hp (Dc hx hy hr k)
def skipB(N:Nat)(ops:Array Oper)(o:Oper)(j d:Nat)(is:Bool):Bool:=(match o.guard with
 | some (i,w)=>i==j && w !=is
 | none=>false) && (match ops[j]? with
 | some oj=>(match oj.dst with
  | some e=>e==d
  | none=>false)
 | none=>false) && Nat.blt d N && C1 o.dst N
theorem Gs(j d:Nat){is:Bool}(hv:O d=.bool is)(hs:skipB E.N ops o j d is=true)(x:DM E ops l (putS O o.dst undef) ds h Q):DM E ops (o ::l) O ds h Q:=by
 simp only [skipB,Bool.and_eq_true] at hs;obtain ⟨⟨⟨h1,h2⟩,h3⟩,h4⟩:=hs;cases hg:o.guard with
 | none=>rw [hg] at h1;cases h1
 | some q=>
  obtain ⟨i,w⟩:=q;rw [hg] at h1;simp only [Bool.and_eq_true,beq_iff_eq,bne_iff_ne,ne_eq] at h1;obtain ⟨rfl,hne⟩:=h1;cases hj:ops[i]? with
  | none=>rw [hj] at h2;cases h2
  | some oj=>
   cases hd:oj.dst with
   | none=>simp [hj,hd] at h2
   | some e=>
    obtain rfl:e=d:=by simpa [hj,hd] using h2
    exact N9 hg hj hd hv h3 hne h4 x
def goB(N:Nat)(ops:Array Oper)(o:Oper)(j d:Nat)(is:Bool):Bool:=(match o.guard with
 | some (i,w)=>i==j && w==is
 | none=>false) && (match ops[j]? with
 | some oj=>(match oj.dst with
  | some e=>e==d
  | none=>false)
 | none=>false) && Nat.blt d N && !C4 o.op && C1 o.dst N
theorem Gg(j d:Nat){is:Bool}(hv:O d=.bool is)(hs:goB E.N ops o j d is=true)(x:BR E o O ds h λσ' ds' h'=>DM E ops l σ' ds' h' Q):DM E ops (o ::l) O ds h Q:=by
 simp only [goB,Bool.and_eq_true,Bool.not_eq_true'] at hs;obtain ⟨⟨⟨⟨h1,h2⟩,h3⟩,h5⟩,h4⟩:=hs;cases hg:o.guard with
 | none=>rw [hg] at h1;cases h1
 | some q=>
  obtain ⟨i,w⟩:=q;rw [hg] at h1;simp only [Bool.and_eq_true,beq_iff_eq] at h1;obtain ⟨rfl,rfl⟩:=h1;cases hj:ops[i]? with
  | none=>rw [hj] at h2;cases h2
  | some oj=>
   cases hd:oj.dst with
   | none=>simp [hj,hd] at h2
   | some e=>
    obtain rfl:e=d:=by simpa [hj,hd] using h2
    exact trL_opg hg hj hd hv h3 (.inr h5) h4 x
end
section
variable {S:Nat->Prop} {Pre:Nat->GH->Prop} {Φ:List Law2} {cl:List Nat} {k d:Nat} {h h':GH} {O:Nat->Value} {ds:List Deferred} {v:Value}
theorem fL{Φ:List QS}(p:LB Φ k v h):ds=ds/\GH.Le h h/\∃w,putS O (some d) v=putS O (some d) w/\LB Φ k w h:=⟨rfl,GH.Le.refl _,_,rfl,p⟩
theorem K1{R:GH->GH->Prop}{Φ:List QS}{a:Value}(x:F3 R Φ):F3 R (lF a ::Φ):=⟨λ_ _ _ _ y=>y,x⟩
theorem K2{R:GH->GH->Prop}{Φ:List QS}{a b:Value}(x:F3 R Φ):F3 R (lF a ::lF b ::Φ):=K1 (K1 x)
theorem K4{R:GH->GH->Prop}{Φ:List QS}{a b c d:Value}(x:F3 R Φ):F3 R (lF a ::lF b ::lF c ::lF d ::Φ):=K2 (K2 x)
theorem K8{R:GH->GH->Prop}{Φ:List QS}{a b c d a' b' c' d':Value}(x:F3 R Φ):F3 R (lF a ::lF b ::lF c ::lF d ::lF a' ::lF b' ::lF c' ::lF d' ::Φ):=K4 (K4 x)
end
end Go.Ns
namespace Go.Ns
open Go.Conc
section
variable {P:Program} {E:GN P} {O:Nat->Value} {ds:List Deferred} {h:GH} {Q:Post} {T:(Nat->Value)->List Deferred->GH->Prop}
variable {dst:Option Nat} {ty:TypeId} {pos:String} {af:Array Edge} {ops:Array Oper} {o:Oper} {l:List Oper} {gd:Option (Nat×Bool)}
theorem Mz{x:Operand}(v:Value)(e:(C1 dst E.N,AO O x)=(true,v))(k:DM E ops l (putS O dst v) ds h Q):DM E ops (⟨dst,.move x,ty,pos,af,none⟩ ::l) O ds h Q:=Mv v (congrArg Prod.fst e) (congrArg Prod.snd e) k
theorem Az{x:Operand}(v:Value)(e:(C1 dst E.N,AO O x)=(true,v))(k:DM E ops l (putS O dst v) ds h Q):DM E ops (⟨dst,.assign x,ty,pos,af,none⟩ ::l) O ds h Q:=As v (congrArg Prod.fst e) (congrArg Prod.snd e) k
theorem Lz{t:TypeId}{x:Operand}{b off:Nat}(v:Value)(e:(C1 dst E.N,AO O x)=(true,.pointer (some ⟨b,off,none⟩)))(hr:Rd P h t b off v)(k:DM E ops l (putS O dst v) ds h Q):DM E ops (⟨dst,.load t x,ty,pos,af,none⟩ ::l) O ds h Q:=
 Ld v (congrArg Prod.fst e) (congrArg Prod.snd e) hr k
theorem Fz{s:TypeId}{x:Operand}{f o b off:Nat}(hf:Dv P s f=some o)(e:(C1 dst E.N,AO O x)=(true,.pointer (some ⟨b,off,none⟩)))(k:DM E ops l (putS O dst (.pointer (some ⟨b,off+o,none⟩))) ds h Q) :
  DM E ops (⟨dst,.fieldAddr s x f,ty,pos,af,none⟩ ::l) O ds h Q:=Fa hf (congrArg Prod.fst e) (congrArg Prod.snd e) k
theorem Pz{c a b:Operand}(t:Bool)(v:Value)(e:(C1 dst E.N,AO O c,(if t then AO O a else AO O b))=(true,.bool t,v))(k:DM E ops l (putS O dst v) ds h Q):DM E ops (⟨dst,.pick c a b,ty,pos,af,none⟩ ::l) O ds h Q:=
 Pk t v (congrArg Prod.fst e) (congrArg (λq=>q.2.1) e) (congrArg (λq=>q.2.2) e) k
theorem Yd{xt yt:TypeId}{x y:Operand}{a b:Int}(e:(C1 dst E.N,AO O x,AO O y)=(true,.int .i64 a,.int .i64 b))(hr: -9223372036854775808<=a+b/\a+b<=9223372036854775807)(k:DM E ops l (putS O dst (.int .i64 (a+b))) ds h Q) :
  DM E ops (⟨dst,.binOp .add xt x y yt,ty,pos,af,none⟩ ::l) O ds h Q:=Ad a b (congrArg Prod.fst e) (congrArg (λq=>q.2.1) e) (congrArg (λq=>q.2.2) e) hr k
theorem Mo{x:Operand}(v:Value)(hx:AO O x=v)(k:T (putS O dst v) ds h):BR E ⟨dst,.move x,ty,pos,af,gd⟩ O ds h T:=SE hx k
theorem Lo{t:TypeId}{x:Operand}{b off:Nat}(v:Value)(hx:AO O x=.pointer (some ⟨b,off,none⟩))(hr:Rd P h t b off v)(k:T (putS O dst v) ds h):BR E ⟨dst,.load t x,ty,pos,af,gd⟩ O ds h T:=Ca hx hr k
theorem Ex{x:Operand}{n:Nat}{vs:Array Value}(v:Value)(e:(AO O x,vs[n]?)=(.tuple vs,some v))(k:T (putS O dst v) ds h):BR E ⟨dst,.extract x n,ty,pos,af,gd⟩ O ds h T:=VD (congrArg Prod.fst e) (congrArg Prod.snd e) k
theorem Bo{t:TypeId}{x:Operand}{v:Value}(c:Array Value)(hx:AO O x=v)(hc:v.cells=c)
  (k:∀r h',h r=none->h.Le h'->h' r=some (true,.cells c t (0,0))->(∀b,b≠r->h' b=h b)->T (putS O dst (.pointer (some ⟨r,0,none⟩))) ds h'):BR E ⟨dst,.box t x,ty,pos,af,gd⟩ O ds h T:=SH hx hc k
theorem So{t:TypeId}{a x:Operand}{b off n:Nat}{g:Bool}{c:Array Value}{et:TypeId}(v:Value)(c':Array Value)(ht:Ch P t=some (g,n))(e:(AO O a,AO O x)=(.pointer (some ⟨b,off,none⟩),v))(hb:h b=some (true,.cells c et (0,0)))
  (e2:(v.cells.size,Value.fine v)=(n,true)) (hn:off+n<=c.size) (hc:Bp c off v.cells.toList=c') (k:∀h',h' b=some (true,.cells c' et (0,0))->(∀x,x≠b->h' x=h x)->T (putS O dst undef) ds h') :
  BR E ⟨dst,.store t a x,ty,pos,af,gd⟩ O ds h T:=Ab ht (congrArg Prod.fst e) (congrArg Prod.snd e) hb (congrArg Prod.fst e2) (congrArg Prod.snd e2) hn hc k
theorem Ot{fn:Func}{R:Value->GH->Prop}{t:Tmp}(v:Value)(e:(fn.results,O t)=(#[.tmp t],v))(x:R v h):GP P fn O R [] h:=IU (congrArg Prod.fst e) (congrArg Prod.snd e) x
theorem Ou{fn:Func}{R:Value->GH->Prop}{t u:Tmp}(v v':Value)(e:(fn.results,O t,O u)=(#[.tmp t,.tmp u],v,v'))(x:R (.tuple #[v,v']) h):GP P fn O R [] h:=outs2 (congrArg Prod.fst e) (congrArg (λq=>q.2.1) e) (congrArg (λq=>q.2.2) e) x
theorem Sr{id:Nat}{y:Code}(a:DM E l.toArray l O ds h (λe σ' ds' h'=>match e with | .normal=>Tr E y σ' ds' h' Q | e=>Q e σ' ds' h')):Tr E (.seq (.region id l.toArray false) y) O ds h Q:=Sq (Rg a)
theorem S2{id:Nat}{y z:Code}(a:DM E l.toArray l O ds h (λe σ' ds' h'=>match e with | .normal=>Tr E y σ' ds' h' (λe σ' ds' h'=>match e with | .normal=>Tr E z σ' ds' h' Q | e=>Q e σ' ds' h') | e=>(λe σ' ds' h'=>match e with | .normal=>Tr E z σ' ds' h' Q | e=>Q e σ' ds' h') e σ' ds' h')) :
  Tr E (.seq (.seq (.region id l.toArray false) y) z) O ds h Q:=Sq (Sq (Rg a))
theorem Zr{V:Type}{a b:V}:a=b\/a=a:=.inr rfl
theorem M2{x x':Operand}{dst':Option Nat}{ty':TypeId}{pos':String}{af':Array Edge}(v v':Value)(e:(C1 dst E.N,AO O x,C1 dst' E.N,AO (putS O dst v) x')=(true,v,true,v'))(k:DM E ops l (putS (putS O dst v) dst' v') ds h Q):DM E ops (⟨dst,.move x,ty,pos,af,none⟩ ::⟨dst',.move x',ty',pos',af',none⟩ ::l) O ds h Q:=
 Mv v (congrArg Prod.fst e) (congrArg (λq=>q.2.1) e) (Mv v' (congrArg (λq=>q.2.2.1) e) (congrArg (λq=>q.2.2.2) e) k)
theorem A2{x x':Operand}{dst':Option Nat}{ty':TypeId}{pos':String}{af':Array Edge}(v v':Value)(e:(C1 dst E.N,AO O x,C1 dst' E.N,AO (putS O dst v) x')=(true,v,true,v'))(k:DM E ops l (putS (putS O dst v) dst' v') ds h Q):DM E ops (⟨dst,.assign x,ty,pos,af,none⟩ ::⟨dst',.assign x',ty',pos',af',none⟩ ::l) O ds h Q:=
 As v (congrArg Prod.fst e) (congrArg (λq=>q.2.1) e) (As v' (congrArg (λq=>q.2.2.1) e) (congrArg (λq=>q.2.2.2) e) k)
theorem Ct{W:Wk P}{f:FuncId}{fn:Func}{c:Code}{args:Array Value}{R:Value->GH->Prop}(hf:P.funcs[f]? =some fn)(e:(fn.body,Nat.ble args.size fn.ntmps)=(some c,true))
  (x:Tr ⟨W,f,none,fn.ntmps⟩ c (λi=>args.getD i undef) [] h (λe O ds h'=>(e=.normal\/e=.ret)/\GP P fn O R ds h')):AW W f args h R:=VC hf (congrArg Prod.fst e) (Nat.le_of_ble_eq_true (congrArg Prod.snd e)) x
end
section
variable {P:Program} {E:GN P} {l:List Oper} {n:Nat} {fl:Bool} {hs:GH} {ds:List Deferred} {Lw:Nat->Value->GH->Prop} {F:(Nat->Value)->GH->Prop} {π:List Nat} {O:Nat->Value} {h:GH} {m k g d:Nat} {dst:Option Nat} {op:Op} {ty:TypeId} {pos:String} {af:Array Edge} {v:Value} {w is:Bool} {og:Oper}
theorem Rz(e:(KB m,l[k]?)=((.r,k),some ⟨dst,op,ty,pos,af,none⟩))(x:SM E ⟨dst,op,ty,pos,af,none⟩ O ds h v)(y:TD E l n fl hs ds Lw F (dK π) (putS O dst v) h):TD E l n fl hs ds Lw F (dK (m ::π)) O h:=tR (congrArg Prod.fst e) (congrArg Prod.snd e) x y
theorem Rm{x:Operand}(v:Value)(e:(KB m,l[k]?,AO O x)=((.r,k),some ⟨dst,.move x,ty,pos,af,none⟩,v))(y:TD E l n fl hs ds Lw F (dK π) (putS O dst v) h):TD E l n fl hs ds Lw F (dK (m ::π)) O h:=
 tR (congrArg Prod.fst e) (congrArg (λq=>q.2.1) e) (SE (congrArg (λq=>q.2.2) e) vz) y
theorem Rl{t:TypeId}{x:Operand}{b off:Nat}(v:Value)(e:(KB m,l[k]?,AO O x)=((.r,k),some ⟨dst,.load t x,ty,pos,af,none⟩,.pointer (some ⟨b,off,none⟩)))(hr:Rd P h t b off v)(y:TD E l n fl hs ds Lw F (dK π) (putS O dst v) h):TD E l n fl hs ds Lw F (dK (m ::π)) O h:=
 tR (congrArg Prod.fst e) (congrArg (λq=>q.2.1) e) (Ca (congrArg (λq=>q.2.2) e) hr vz) y
theorem Py(e:(KB m,l[k]?)=((.p,k),some ⟨dst,op,ty,pos,af,none⟩))(x:∀hx,SM E ⟨dst,op,ty,pos,af,none⟩ O ds hx v)(y:TD E l n fl hs ds Lw F (dK π) (putS O dst v) h):TD E l n fl hs ds Lw F (dK (m ::π)) O h:=tP (congrArg Prod.fst e) (congrArg Prod.snd e) x y
theorem Ry(e:(KB m,l[k]?,l[g]?,og.dst)=((.r,k),some ⟨dst,op,ty,pos,af,some (g,w)⟩,some og,some d))(h3:O d=.bool w)(x:SM E ⟨dst,op,ty,pos,af,some (g,w)⟩ O ds h v)
  (y:TD E l n fl hs ds Lw F (dK π) (putS O dst v) h):TD E l n fl hs ds Lw F (dK (m ::π)) O h:=tRg (congrArg Prod.fst e) (congrArg (λq=>q.2.1) e) (congrArg (λq=>q.2.2.1) e) (congrArg (λq=>q.2.2.2) e) h3 x y
theorem Sz{kd:Kd}(e:(KB m,l[k]?,l[g]?,og.dst)=((kd,k),some ⟨dst,op,ty,pos,af,some (g,w)⟩,some og,some d))(h3:O d=.bool is)(hne:(is==w)=false)
  (y:TD E l n fl hs ds Lw F (dK π) (putS O dst undef) h) (hl:(kd !=Kd.l)=true:=by rfl):TD E l n fl hs ds Lw F (dK (m ::π)) O h:=tS (congrArg Prod.fst e) (congrArg (λq=>q.2.1) e) (congrArg (λq=>q.2.2.1) e) (congrArg (λq=>q.2.2.2) e) h3 hne y hl
end
end Go.Ns
namespace Go.Ns
open Go.Conc
abbrev J(x:Int):Value:=.int .i64 x
abbrev Pt(b:Nat):Value:=.pointer (some ⟨b,0,none⟩)
abbrev Sc(b:Nat)(n c:Nat):Value:=.slice (some ⟨b,0,none⟩) n c
abbrev Qc:Array Value:=#[J 0,J 0,.slice none 0 0,.slice none 0 0,.slice none 0 0,.slice none 0 0,.slice none 0 0,.map none]
abbrev Qd(a:List AB)(b:List AM)(c:List AK)(d:Nat):Array Value:=#[J (((AE a b c).getD (((d:Int)-1).toNat) AH.zero).ways 0),J (((AE a b c).getD (((d:Int)-1).toNat) AH.zero).ways 1),J (((AE a b c).getD (((d:Int)-1).toNat) AH.zero).ways 2),J (((AE a b c).getD (((d:Int)-1).toNat) AH.zero).ways 3),J (((AE a b c).getD (((d:Int)-1).toNat) AH.zero).ways 4)]
abbrev Qe(a:List AB)(b:List AM)(c:List AK)(d:Nat):Array Value:=#[J (((AE a b c).getD d AH.zero).ways 0),J (((AE a b c).getD d AH.zero).ways 1),J (((AE a b c).getD d AH.zero).ways 2),J (((AE a b c).getD d AH.zero).ways 3),J (((AE a b c).getD d AH.zero).ways 4)]
abbrev Qf(a:List AB)(b:Nat):Array Value:=#[J ((a.getD b AB.z).a),J ((a.getD b AB.z).b),J ((a.getD b AB.z).low),J ((a.getD b AB.z).high)]
abbrev Qg(a:ByteArray)(b:Nat):=decide (¬(((97<=((bytesOf a).getD b 0))/\(((bytesOf a).getD b 0)<=122))\/(((0<(b:Int))/\(48<=((bytesOf a).getD b 0)))/\(((bytesOf a).getD b 0)<=57))))
abbrev Qh(a:Int):=KC (KC a (FM a 13)) ((KC a (FM a 13)) / 128)
abbrev Qi:Value:=.slice none 0 0
abbrev Qj(a:List AK)(b:Nat):Array Value:=#[(a.getD b AK.z).wv,J ((a.getD b AK.z).low),J ((a.getD b AK.z).high)]
abbrev Qk(a:ByteArray)(b:Nat):=(bytesOf a).getD b 0
abbrev Ql(a:List AM)(b:Nat):=decide ((¬(((0<=((a.getD b AM.z).low)/\((a.getD b AM.z).low)<=((a.getD b AM.z).high))/\((a.getD b AM.z).high)<=30)/\((a.getD b AM.z).high)-((a.getD b AM.z).low)<2))\/(¬(0<=((a.getD b AM.z).due)/\((a.getD b AM.z).due)<=200)))
abbrev Qm(a:List AB)(b:Nat):=(a.getD b AB.z).b
abbrev Qn(a:List AB)(b:Nat):=(a.getD b AB.z).a
abbrev Qo(a:List AM)(b:Nat):Array Value:=#[J ((a.getD b AM.z).place),J ((a.getD b AM.z).low),J ((a.getD b AM.z).high),J ((a.getD b AM.z).due),(a.getD b AM.z).pv]
abbrev Qp:Array Value:=#[J 0,J 0,.slice none 0 0,.slice none 0 0,.slice none 0 0,.slice none 0 0]
abbrev Qq(a:List AH)(b:Nat):=(a.drop (1)).getD b AH.zero
abbrev Qr(a:List Value)(b:Array Int)(c:Nat)(d:Nat):=Bq a ((b.setIfInBounds c (b[d]!)).setIfInBounds d (b[c]!))
abbrev Qs(a:Nat)(b:Array Int)(c:Nat):=Sc a b.size c
abbrev Qt(a:List AM)(b:Nat):=(a.getD b AM.z).high
abbrev Qu(a:List ByteArray)(b:List AB)(c:List AM)(d:List AK):=decide ((((20<(a.length:Int))\/(20<(b.length:Int)))\/(20<(c.length:Int)))\/(20<(d.length:Int)))
abbrev Qv(a:Int)(b:Int):=decide ((¬(0<=a/\a<=9))\/(¬(0<=b/\b<=3)))
abbrev Qw(a:Int)(b:Int):Value:=.bool (decide (a<=b))
abbrev Qx(a:List AB)(b:List AM)(c:List AK)(d:Nat):Value:=.agg (Ai ((AE a b c).getD d AH.zero))
abbrev Qy(a:Int)(b:Int)(c:Int)(d:Int):=decide ((((0<=a)/\(a<=b))/\(b<=c))/\((b-a)<d))
abbrev Qz(a:List ByteArray)(b:List AB)(c:Nat):=J (B5 a.length [(b.getD c AB.z).a,(b.getD c AB.z).b])
abbrev Q10(a:Nat)(b:Nat)(c:Array Int)(d:Nat):=decide (((a:Int)<=(b:Int))/\(¬((c[b]!)<(c[d]!))))
abbrev Xu(a:List AH):=a.getD 0 AH.zero
abbrev U6(a:List AM)(b:List Int):=Ak a.length b
abbrev Q13(a:List AM)(b:List Int)(c:Int):=(a.getD ((b.getD (c.toNat) 0).toNat) AM.z).due
abbrev Nn(a:List Int)(b:Nat):=J (a.getD b 0)
abbrev Xv(a:List ByteArray)(b:Int)(c:Int):=B5 a.length [b,c]
abbrev Q16(a:List AK)(b:Nat):=(a.getD b AK.z).high
abbrev Q17(a:List AB)(b:Nat):=(a.getD b AB.z).high
abbrev Q18(a:List AK)(b:Nat):=(a.getD b AK.z).low
abbrev Q19(a:List AK)(b:Nat):Array Value:=#[J ((a.getD b AK.z).low),J ((a.getD b AK.z).high)]
abbrev Xw(a:List AM)(b:Int):=GC a.length b
abbrev Q1b(a:List AB)(b:Nat):Array Value:=#[J ((a.getD b AB.z).low),J ((a.getD b AB.z).high)]
abbrev Q1c(a:List AB)(b:Nat):=(a.getD b AB.z).low
abbrev Q1d(a:List AK)(b:Nat)(c:Nat):=((a.getD b AK.z).ways).getD c 0
abbrev Q1e(a:List AM)(b:Nat):=(a.getD b AM.z).low
abbrev Q1f(a:Int)(b:Int):=decide (((0<=a/\a<=b)/\b<=30)/\((b-a)<2))
abbrev Q1g(a:List Value)(b:Array Int)(c:Nat)(d:Nat):=Bq a (b.setIfInBounds c (b[d]!))
abbrev Q1h(a:Nat):=J ((2*(a:Int))+1)
abbrev Q1i(a:Nat)(b:Int)(c:Array Int)(d:Nat):=decide (((((2*(a:Int))+1)+1)<b)/\((c[(d+((2*a)+1))]!)<(c[((d+((2*a)+1))+1)]!)))
abbrev Q1j(a:List AM)(b:Nat):=(a.getD b AM.z).due
abbrev Q1k(a:List AK)(b:Nat):=(a.getD b AK.z).wv
abbrev Q1l(a:List AM)(b:List Int)(c:Int):=Ey a.length b c
abbrev Q1m(a:Int)(b:Int)(c:Int):=decide ((a<=b)/\(b<=c))
abbrev Q1n(a:Nat)(b:Nat):Value:=.bool (decide ((a:Int)<=(b:Int)))
abbrev Q1o(a:List AK)(b:Nat):=Aq (a.getD b AK.z)
abbrev Q1p(a:Nat)(b:Nat):=J ((a:Int)-(b:Int))
abbrev Q1q(a:Int)(b:Int)(c:Int)(d:Int):=decide (((a<=b)/\(b<=c))/\(c<=d))
abbrev TT(a:Int)(b:Int)(c:Value)(d:Value)(e:Value)(f:Value):Array Value:=#[.agg #[J a,J b,c,d,e,f]]
abbrev Q1s(a:Nat)(b:Nat)(c:Array Int):=decide (((a:Int)<(b:Int))/\((c[b]!)<(c[((b:Int)-1).toNat]!)))
abbrev Q1t(a:List AB)(b:Nat):=Ax (a.getD b AB.z)
abbrev Q1u(a:Nat):=J (((2*(a:Int))+1)+1)
abbrev Q1v(a:Nat)(b:Array Int)(c:Nat):=decide ((0<(a:Int))/\(¬((b[((a:Int)-1).toNat]!)<(b[c]!))))
abbrev Q1w(a:ByteArray):=decide (((a.size:Int)<1)\/(10<(a.size:Int)))
abbrev Q1x(a:List AB)(b:List AB):=decide (¬(a.length:Int)=(b.length:Int))
abbrev Q1y(a:List AM)(b:List AM):=decide (¬(a.length:Int)=(b.length:Int))
abbrev Q1z:Value:=.func (.func 60) #[] #[]
abbrev Q20(a:Int):=decide ((97<=a)/\(a<=122))
abbrev Q21(a:Array Int)(b:Nat)(c:Nat):=decide (¬((a[b]!)<(a[c]!)))
abbrev Q22(a:List AK)(b:List AK):=decide (¬(a.length:Int)=(b.length:Int))
abbrev Q23(a:Int):=decide (¬(0<=a/\a<=3))
abbrev Q24(a:List Int)(b:Nat)(c:List Int):=J (SU (a.getD b 0) (c.getD b 0))
abbrev Q25(a:List Sl)(b:Nat):=((a.drop (1)).getD b Sl.z).1
abbrev Q26(a:Int):=decide ((48<=a)/\(a<=57))
abbrev Q27(a:Nat):Value:=.func (.func 90) #[] #[Pt a]
abbrev Q28(a:Nat):Value:=.func (.func 77) #[] #[Pt a]
abbrev Q29:=Ai AH.zero
abbrev Q2a(a:Nat)(b:Nat):Value:=.func (.func 46) #[] #[Pt a,Pt b]
abbrev Q2b(a:Nat)(b:Nat):Value:=.func (.func 82) #[] #[Pt a,Pt b]
abbrev Q2c(a:List AM)(b:List Int)(c:Nat):=J (GC a.length (b.getD c 0))
end Go.Ns
namespace Go.Ns
open Go.Conc Go.Proofs Go.Proofs.Tryz
theorem FX:IV prog 106 106=some (42,1,24):=aB
theorem Uf:IV prog 22 22=some (9,1,16):=aB
theorem NT:IV prog 23 23=some (39,4,32):=aB
theorem Ug:IV prog 24 24=some (54,5,56):=aB
theorem Jm:IV prog 25 25=some (83,3,40):=aB
theorem Df:IV prog 42 42=some (3,1,8):=aB
theorem Uh:IV prog 45 45=some (31,2,16):=aB
theorem Ui:IV prog 89 89=some (101,9,72):=aB
theorem Y7:arrOf prog 136=some (5,false,1):=aB
theorem Eb:Mq prog 118=some (4,1):=aB
theorem FF:Mq prog 157=some (4,4):=aB
theorem Id:Mq prog 98=some (5,1):=aB
theorem EV:Mq prog 99=some (4,1):=aB
theorem fx_bt3:LS prog 3=some 8:=aB
theorem fx_bt4:LS prog 4=some 1:=aB
theorem RY:AN Tryz.f10=true:=aB
theorem V9:AN Tryz.f100=true:=aB
theorem WA:AN Tryz.f101=true:=aB
theorem Kp:AN Tryz.f102=true:=aB
theorem PX:AN Tryz.f103=true:=aB
theorem WB:AN Tryz.f104=true:=aB
theorem WC:AN Tryz.f105=true:=aB
theorem PY:AN Tryz.f106=true:=aB
theorem JC:AN Tryz.f107=true:=aB
theorem Kq:AN Tryz.f108=true:=aB
theorem PZ:AN Tryz.f109=true:=aB
theorem RZ:AN Tryz.f11=true:=aB
theorem Pa:AN Tryz.f110=true:=aB
theorem Pb:AN Tryz.f111=true:=aB
theorem JD:AN Tryz.f112=true:=aB
theorem Pc:AN Tryz.f113=true:=aB
theorem Kr:AN Tryz.f114=true:=aB
theorem WD:AN Tryz.f115=true:=aB
theorem WE:AN Tryz.f116=true:=aB
theorem WF:AN Tryz.f117=true:=aB
theorem WG:AN Tryz.f118=true:=aB
theorem Pd:AN Tryz.f119=true:=aB
theorem MU:AN Tryz.f12=true:=aB
theorem WH:AN Tryz.f120=true:=aB
theorem WI:AN Tryz.f121=true:=aB
theorem WJ:AN Tryz.f122=true:=aB
theorem WK:AN Tryz.f123=true:=aB
theorem WL:AN Tryz.f124=true:=aB
theorem Cy:AN Tryz.f125=true:=aB
theorem WM:AN Tryz.f126=true:=aB
theorem WN:AN Tryz.f127=true:=aB
theorem WO:AN Tryz.f129=true:=aB
theorem EI:AN Tryz.f13=true:=aB
theorem WP:AN Tryz.f130=true:=aB
theorem Pe:AN Tryz.f131=true:=aB
theorem WQ:AN Tryz.f132=true:=aB
theorem WR:AN Tryz.f133=true:=aB
theorem Ks:AN Tryz.f134=true:=aB
theorem Pf:AN Tryz.f135=true:=aB
theorem Kt:AN Tryz.f136=true:=aB
theorem WT:AN Tryz.f153=true:=aB
theorem WU:AN Tryz.f154=true:=aB
theorem WV:AN Tryz.f155=true:=aB
theorem WW:AN Tryz.f156=true:=aB
theorem WX:AN Tryz.f157=true:=aB
theorem WY:AN Tryz.f158=true:=aB
theorem WZ:AN Tryz.f159=true:=aB
theorem Y8:AN Tryz.f16=true:=aB
theorem Wa:AN Tryz.f160=true:=aB
theorem Wb:AN Tryz.f161=true:=aB
theorem Wc:AN Tryz.f162=true:=aB
theorem Pg:AN Tryz.f163=true:=aB
theorem Wd:AN Tryz.f164=true:=aB
theorem We:AN Tryz.f165=true:=aB
theorem Wf:AN Tryz.f166=true:=aB
theorem Wg:AN Tryz.f167=true:=aB
theorem Wh:AN Tryz.f168=true:=aB
theorem Wi:AN Tryz.f169=true:=aB
theorem Y9:AN Tryz.f17=true:=aB
theorem Wj:AN Tryz.f170=true:=aB
theorem ZA:AN Tryz.f18=true:=aB
theorem ZB:AN Tryz.f19=true:=aB
theorem ZC:AN Tryz.f20=true:=aB
theorem ZD:AN Tryz.f21=true:=aB
theorem MV:AN Tryz.f23=true:=aB
theorem ZE:AN Tryz.f25=true:=aB
theorem ZF:AN Tryz.f28=true:=aB
theorem Fp:AN Tryz.f29=true:=aB
theorem fx_call30:AN Tryz.f30=true:=aB
theorem Ra:AN Tryz.f31=true:=aB
theorem Rb:AN Tryz.f32=true:=aB
theorem ZG:AN Tryz.f33=true:=aB
theorem ZH:AN Tryz.f34=true:=aB
theorem ZI:AN Tryz.f35=true:=aB
theorem ZJ:AN Tryz.f36=true:=aB
theorem ZK:AN Tryz.f37=true:=aB
theorem ZL:AN Tryz.f38=true:=aB
theorem ZM:AN Tryz.f39=true:=aB
theorem ZN:AN Tryz.f40=true:=aB
theorem ZO:AN Tryz.f41=true:=aB
theorem Ie:AN Tryz.f42=true:=aB
theorem ZP:AN Tryz.f43=true:=aB
theorem Fq:AN Tryz.f44=true:=aB
theorem DD:AN Tryz.f45=true:=aB
theorem Rc:AN Tryz.f46=true:=aB
theorem MW:AN Tryz.f47=true:=aB
theorem MX:AN Tryz.f48=true:=aB
theorem ZQ:AN Tryz.f49=true:=aB
theorem Fs:AN Tryz.f50=true:=aB
theorem If:AN Tryz.f51=true:=aB
theorem Ft:AN Tryz.f54=true:=aB
theorem MY:AN Tryz.f55=true:=aB
theorem J7:AN Tryz.f56=true:=aB
theorem Re:AN Tryz.f57=true:=aB
theorem Rf:AN Tryz.f58=true:=aB
theorem Rh:AN Tryz.f59=true:=aB
theorem Fu:AN Tryz.f60=true:=aB
theorem Ri:AN Tryz.f61=true:=aB
theorem Rj:AN Tryz.f62=true:=aB
theorem Rk:AN Tryz.f63=true:=aB
theorem ZR:AN Tryz.f64=true:=aB
theorem ZS:AN Tryz.f65=true:=aB
theorem Dh:AN Tryz.f66=true:=aB
theorem Ig:AN Tryz.f67=true:=aB
theorem MZ:AN Tryz.f68=true:=aB
theorem Ma:AN Tryz.f69=true:=aB
theorem ZT:AN Tryz.f70=true:=aB
theorem ZU:AN Tryz.f71=true:=aB
theorem ZV:AN Tryz.f72=true:=aB
theorem ZW:AN Tryz.f73=true:=aB
theorem ZX:AN Tryz.f74=true:=aB
theorem ZY:AN Tryz.f75=true:=aB
theorem ZZ:AN Tryz.f76=true:=aB
theorem Rn:AN Tryz.f77=true:=aB
theorem Ro:AN Tryz.f78=true:=aB
theorem Rp:AN Tryz.f79=true:=aB
theorem Za:AN Tryz.f80=true:=aB
theorem Rq:AN Tryz.f81=true:=aB
theorem Rr:AN Tryz.f82=true:=aB
theorem Mb:AN Tryz.f83=true:=aB
theorem Ih:AN Tryz.f84=true:=aB
theorem Rs:AN Tryz.f85=true:=aB
theorem Ru:AN Tryz.f86=true:=aB
theorem Mc:AN Tryz.f87=true:=aB
theorem J8:AN Tryz.f88=true:=aB
theorem Zb:AN Tryz.f89=true:=aB
theorem fx_call9:AN Tryz.f9=true:=aB
theorem Rv:AN Tryz.f90=true:=aB
theorem Zc:AN Tryz.f91=true:=aB
theorem Rw:AN Tryz.f92=true:=aB
theorem Zd:AN Tryz.f93=true:=aB
theorem Ze:AN Tryz.f94=true:=aB
theorem Zf:AN Tryz.f95=true:=aB
theorem Zg:AN Tryz.f96=true:=aB
theorem Zh:AN Tryz.f97=true:=aB
theorem Zi:AN Tryz.f98=true:=aB
theorem Zj:AN Tryz.f99=true:=aB
theorem G3:prog.eqGuardType prog.depth 31=false:=aB
theorem fx_eqg39:prog.eqGuardType prog.depth 39=false:=aB
theorem Uj:prog.eqGuardType prog.depth 98=false:=aB
theorem Ec:En prog 106=some 1:=aB
theorem Md:En prog 146=some 1:=aB
theorem Zk:En prog 206=some 1:=aB
theorem FY:En prog 22=some 1:=aB
theorem C8:En prog 23=some 4:=aB
theorem EW:En prog 24=some 5:=aB
theorem GE:En prog 25=some 3:=aB
theorem AQ:En prog 42=some 1:=aB
theorem Uk:En prog 45=some 2:=aB
theorem GF:En prog 89=some 9:=aB
theorem Lg:∀a:FD,ckP prog 4 103 (Ev a)=true:=by intros;kernel_rfl
theorem Lh:∀a b:FD,OL prog 4 103 (Ev a) (Ev b)=some ((a.1.1==b.1.1 && (a.1.2.1==b.1.2.1 && (a.1.2.2.1==b.1.2.2.1 && (a.1.2.2.2.1==b.1.2.2.2.1 && (a.1.2.2.2.2==b.1.2.2.2.2 && true))))) && (a.2.1==b.2.1 && (a.2.2==b.2.2 && true))):=by intros;kernel_rfl
theorem Cp:Dv prog 101 0=some 0:=aB
theorem Jn:Dv prog 101 1=some 5:=aB
theorem Ul:Dv prog 145 0=some 0:=aB
theorem Um:Dv prog 145 1=some 1:=aB
theorem Ht:Dv prog 27 0=some 0:=aB
theorem Fh:Dv prog 27 1=some 1:=aB
theorem B8:Dv prog 27 2=some 2:=aB
theorem Ar:Dv prog 27 3=some 3:=aB
theorem Be:Dv prog 27 4=some 4:=aB
theorem Bj:Dv prog 27 5=some 5:=aB
theorem Cd:Dv prog 31 0=some 0:=aB
theorem Ce:Dv prog 31 1=some 1:=aB
theorem CS:Dv prog 39 0=some 0:=aB
theorem Cf:Dv prog 39 1=some 1:=aB
theorem D6:Dv prog 39 2=some 2:=aB
theorem Gc:Dv prog 54 0=some 0:=aB
theorem Hu:Dv prog 54 1=some 1:=aB
theorem Ge:Dv prog 54 2=some 3:=aB
theorem Dl:Dv prog 54 3=some 4:=aB
theorem Dm:Dv prog 83 0=some 0:=aB
theorem Gf:Dv prog 83 1=some 1:=aB
theorem A3:Dv prog 88 0=some 0:=aB
theorem D7:Dv prog 92 0=some 0:=aB
theorem Hv:Dv prog 92 1=some 6:=aB
theorem JE:Dv prog 92 2=some 7:=aB
theorem Wl:(prog.info? 145).isSome=true:=aB
theorem fx_infs3:(prog.info? 3).isSome=true:=aB
theorem fx_infs4:(prog.info? 4).isSome=true:=aB
theorem Wm:(prog.info? 145).map (·.zero)=some (some (.agg #[.int .i64 0,.bool false])):=aB
theorem fx_infz3:(prog.info? 3).map (·.zero)=some (some (.int .i64 0)):=aB
theorem fx_infz4:(prog.info? 4).map (·.zero)=some (some (.bool false)):=aB
theorem Ku:L5 prog 156=some .u64:=aB
theorem Wn:L5 prog 177=some .u64:=aB
theorem FZ:L5 prog 3=some .i64:=aB
theorem G4:L5 prog 5=some .u8:=aB
theorem Me:LC prog 121=some (3,3):=aB
theorem Li:LC prog 90=some (103,3):=aB
theorem Mf:∀a:Int,ckP prog 3 3 (Do a)=true:=by intros;kernel_rfl
theorem Mg:∀a b:Int,OL prog 3 3 (Do a) (Do b)=some (a==b):=by intros;kernel_rfl
theorem Ah:prog.follows .mixedOrders=true:=aB
theorem Un:(prog.info? 3).bind (·.zero)=some (.int .i64 0):=aB
theorem TB:(prog.info? 3).bind (·.zero)=some (.int .i64 0):=aB
theorem Lj:Eo prog 103=some [(0,5),(5,1),(6,1)]:=aB
theorem fx_pl145:Eo prog 145=some [(0,1),(1,1)]:=aB
theorem N4:Eo prog 27=some [(0,1),(1,1),(2,1),(3,1),(4,1),(5,1)]:=aB
theorem HV:Eo prog 31=some [(0,1),(1,1)]:=aB
theorem TC:Eo prog 39=some [(0,1),(1,1),(2,2)]:=aB
theorem TE:Eo prog 54=some [(0,1),(1,2),(3,1),(4,1)]:=aB
theorem TF:Eo prog 83=some [(0,1),(1,2)]:=aB
theorem H6:Eo prog 88=some [(0,6)]:=aB
theorem H7:Eo prog 92=some [(0,6),(6,1),(7,1)]:=aB
theorem Uo:s2bOf prog 9 206=some 5:=aB
theorem Ii:DU prog 106=some (1,#[.slice none 0 0],42):=aB
theorem Zl:DU prog 146=some (1,#[.bool false],4):=aB
theorem Up:DU prog 22=some (1,#[.string ⟨#[]⟩],9):=aB
theorem Ph:DU prog 23=some (4,#[.int .i64 0,.int .i64 0,.int .i64 0,.int .i64 0],39):=aB
theorem Uq:DU prog 24=some (5,#[.int .i64 0,.int .i64 0,.int .i64 0,.int .i64 0,.slice none 0 0],54):=aB
theorem Lk:DU prog 25=some (3,#[.slice none 0 0,.int .i64 0,.int .i64 0],83):=aB
theorem Bi:DU prog 42=some (1,#[.int .i64 0],3):=aB
theorem Ur:DU prog 45=some (2,#[.int .i64 0,.int .i64 0],31):=aB
theorem fx_sel89:DU prog 89=some (9,#[.int .i64 0,.int .i64 0,.int .i64 0,.int .i64 0,.int .i64 0,.int .i64 0,.int .i64 0,.int .i64 0,.int .i64 0],101):=aB
theorem GG:KA prog 106=true:=aB
theorem fx_sl146:KA prog 146=true:=aB
theorem fx_sl206:KA prog 206=true:=aB
theorem DH:KA prog 22=true:=aB
theorem C9:KA prog 23=true:=aB
theorem EN:KA prog 24=true:=aB
theorem EO:KA prog 25=true:=aB
theorem BM:KA prog 42=true:=aB
theorem TG:KA prog 45=true:=aB
theorem GI:KA prog 89=true:=aB
theorem EP:OF prog 9=true:=aB
theorem Cg:Ch prog 101=some (true,9):=aB
theorem GJ:Ch prog 106=some (false,1):=aB
theorem Ll:Ch prog 112=some (false,1):=aB
theorem fx_ty136:Ch prog 136=some (true,5):=aB
theorem Lm:Ch prog 141=some (false,1):=aB
theorem Lp:Ch prog 142=some (false,1):=aB
theorem Pi:Ch prog 143=some (false,1):=aB
theorem fx_ty145:Ch prog 145=some (true,2):=aB
theorem fx_ty158:Ch prog 158=some (false,1):=aB
theorem Jo:Ch prog 159=some (false,1):=aB
theorem E0:Ch prog 177=some (false,1):=aB
theorem DQ:Ch prog 22=some (false,1):=aB
theorem BY:Ch prog 23=some (false,1):=aB
theorem Cq:Ch prog 24=some (false,1):=aB
theorem Cw:Ch prog 25=some (false,1):=aB
theorem Af:Ch prog 27=some (true,6):=aB
theorem AJ:Ch prog 3=some (false,1):=aB
theorem At:Ch prog 31=some (true,2):=aB
theorem FG:Ch prog 39=some (true,4):=aB
theorem Gh:Ch prog 4=some (false,1):=aB
theorem Bf:Ch prog 42=some (false,1):=aB
theorem fx_ty5:Ch prog 5=some (false,1):=aB
theorem Gr:Ch prog 54=some (true,5):=aB
theorem El:Ch prog 83=some (true,3):=aB
theorem Cb:Ch prog 88=some (true,6):=aB
theorem H8:Ch prog 89=some (false,1):=aB
theorem Jp:Ch prog 9=some (false,1):=aB
theorem N5:Ch prog 90=some (false,1):=aB
theorem A4:Ch prog 92=some (true,8):=aB
theorem H9:Ch prog 98=some (true,5):=aB
theorem Zm:(prog.underlying 156).isSome=true:=aB
theorem Fv:(prog.underlying 175).isSome=true:=aB
theorem N6:(prog.underlying 3).isSome=true:=aB
theorem HW:(prog.underlying 5).isSome=true:=aB
theorem Jq:prog.underlying 141=some (.chan .both 145):=aB
theorem Jr:prog.underlying 142=some (.chan .both 3):=aB
theorem Js:prog.underlying 143=some (.chan .both 4):=aB
theorem Fi:B1 prog 101=some #[.int .i64 0,.int .i64 0,.int .i64 0,.int .i64 0,.int .i64 0,.int .i64 0,.int .i64 0,.int .i64 0,.int .i64 0]:=aB
theorem JF:B1 prog 103=some #[.int .i64 0,.int .i64 0,.int .i64 0,.int .i64 0,.int .i64 0,.int .i64 0,.int .i64 0]:=aB
theorem Pj:B1 prog 106=some #[.slice none 0 0]:=aB
theorem Wo:B1 prog 112=some #[.nilFunc]:=aB
theorem Pm:B1 prog 118=some #[.bool false,.bool false,.bool false,.bool false]:=aB
theorem Wp:B1 prog 141=some #[.chan none]:=aB
theorem Wq:B1 prog 142=some #[.chan none]:=aB
theorem Wr:B1 prog 143=some #[.chan none]:=aB
theorem Pn:B1 prog 145=some #[.int .i64 0,.bool false]:=aB
theorem Ws:B1 prog 157=some #[.int .i64 0,.int .i64 0,.int .i64 0,.int .i64 0,.int .i64 0,.int .i64 0,.int .i64 0,.int .i64 0,.int .i64 0,.int .i64 0,.int .i64 0,.int .i64 0,.int .i64 0,.int .i64 0,.int .i64 0,.int .i64 0]:=aB
theorem Wt:B1 prog 159=some #[.nilFunc]:=aB
theorem Wu:B1 prog 177=some #[.int .u64 0]:=aB
theorem Cz:B1 prog 27=some #[.int .i64 0,.int .i64 0,.slice none 0 0,.slice none 0 0,.slice none 0 0,.slice none 0 0]:=aB
theorem fx_zero3:B1 prog 3=some #[.int .i64 0]:=aB
theorem Bb:B1 prog 31=some #[.int .i64 0,.int .i64 0]:=aB
theorem Fw:B1 prog 39=some #[.int .i64 0,.int .i64 0,.int .i64 0,.int .i64 0]:=aB
theorem fx_zero4:B1 prog 4=some #[.bool false]:=aB
theorem fx_zero42:B1 prog 42=some #[.slice none 0 0]:=aB
theorem Gi:B1 prog 54=some #[.int .i64 0,.int .i64 0,.int .i64 0,.int .i64 0,.slice none 0 0]:=aB
theorem Fx:B1 prog 83=some #[.slice none 0 0,.int .i64 0,.int .i64 0]:=aB
theorem Du:B1 prog 88=some #[.int .i64 0,.int .i64 0,.slice none 0 0,.slice none 0 0,.slice none 0 0,.slice none 0 0]:=aB
theorem Zn:B1 prog 89=some #[.slice none 0 0]:=aB
theorem fx_zero9:B1 prog 9=some #[.string ⟨#[]⟩]:=aB
theorem BK:B1 prog 92=some #[.int .i64 0,.int .i64 0,.slice none 0 0,.slice none 0 0,.slice none 0 0,.slice none 0 0,.slice none 0 0,.map none]:=aB
end Go.Ns
namespace Go.Ns
open Go.Conc Go.Proofs Go.Proofs.Tryz
attribute [local irreducible] BR DM Tr AW Bw BW
variable {W:Wk prog} {h:GH} (d m:Int) (gs:List Good) (gsv:Value) (ms:List Cu) (msv:Value) (cs:List CG) (csv:Value)
theorem IR(a:List Int)(av:Value)(b:List Int)(bv:Value)(ha:AD h av 1 eI a)(hb:AD h bv 1 eI b):AW W 87 #[av,bv] h (λv h'=>v=(.bool (decide (a=b)):Value)/\h.Le h'):=by
 have ad:=ha.len;have ae:=hb.len;refine Ct func87 Z (Sr (Az (.bool false) Z (Nl (S2 (Mz av Z (Pl Z (AP BM ha Z (Mz bv Z (Pl Z (AP BM hb Z (Pl Z (A5 Z Z (Nl (AU Z (λar=>?_) (λar=>?_)))))))))))))))
 ·exact Sr (Az (.bool false) Z (Nl (Rt (⟨Zr,Ot (.bool false) Z (⟨(by (rw [decide_eq_false (ne_len aA)];done)),Lr⟩)⟩))))
 ·refine Sk (S2 (Az (J 0) Z (Nl (Bk (Ac (λnn σ' ds' h'=>∃(k:Nat),nn=a.length-k/\(k<=a.length)/\(a.take k=b.take k)/\ds'=[]/\GH.Le h h'/\σ' 0=av/\σ' 1=bv/\σ' 5=J k) ⟨0,Z,aA,(by rfl),Z,Lr,Z,Z,Z⟩ (λnn _ _ _ au=>?_))))));obtain ⟨k,rfl,hk,hs,x8,x9,af,aq,ac⟩:=au;subst x8;refine S2 (Mv (J k) Z ac (Mv av Z af (Pl Z (AP BM (ha.le x9) Z (Pl Z (Ao Z Z (Nl (AU Z (λag=>?_) (λag=>?_)))))))))
  ·refine Sk (Sq (Bk (Sq (Bd 8 false [1,6,10,16,21,26,30,36] Ah aB (Rz Z (Mo av af vz) (Rz Z (Mo (J k) ac vz) ?_))))));have ah:(0:Int)<=(k:Int):=aA
   have ai:(k:Int)<((a.length:Nat):Int):=aA
   refine tI Z Z AQ ha Z Z ah ai λaw aa aj=>have ak:AX _ aw aa 1 (eI (a.getD k 0)):=AX.getD 0 aj;Rl (Nn a k) Z (BP AJ (ak.le x9) Z) (Rz Z (Mo bv aq vz) (Rz Z (Mo (J k) ac vz) ?_));have al:(0:Int)<=(k:Int):=aA
   have am:(k:Int)<((b.length:Nat):Int):=aA
   refine tI Z Z AQ hb Z Z al am λax ab an=>have ao:AX _ ax ab 1 (eI (b.getD k 0)):=AX.getD 0 an;Rl (Nn b k) Z (BP AJ (ao.le x9) Z) (tN (Pl Z (A5 Z Z (Nl (AU Z (λap=>?_) (λap=>?_))))))
   ·exact Sr (Az (.bool false) Z (Nl (Rt (⟨Zr,Ot (.bool false) Z (⟨(by (rw [decide_eq_false (ne_getD (k:=k) (d:=0) ‹_›)])),x9⟩)⟩))))
   ·exact Sk (Rg (Mv (J k) Z ac (Yd Z aA (Az (J ((k:Int)+1)) Z (Nl (⟨_,aA,k+1,Z,aA,(by exact OW 0 hs aA aA aF),Z,x9,af,aq,Z⟩))))))
  ·exact Xt (Sr (Az (.bool true) Z (Nl (Rt (⟨Zr,Ot (.bool true) Z (⟨(by (rw [decide_eq_true (SS hs hk ‹_› aA)];done)),x9⟩)⟩)))))
theorem Po(a:List Int)(av:Value)(n:Int)(ha:AD h av 1 eI a):AW W 23 #[av,J n] h (λv h'=>v=(.bool (decide (n ∈ a)):Value)/\h.Le h'):=by
 have ab:=ha.len;refine Ct func23 Z (Sr (Az (.bool false) Z (Nl (S2 (Az (J 0) Z (Nl (Bk (Ac (λnn σ' ds' h'=>∃(k:Nat),nn=a.length-k/\(k<=a.length)/\(¬n ∈ a.take k)/\ds'=[]/\GH.Le h h'/\σ' 0=av/\σ' 1=J n/\σ' 5=J k) ⟨0,Z,aA,aD,Z,Lr,Z,Z,Z⟩ (λnn _ _ _ aj=>?_)))))))));obtain ⟨k,rfl,hk,hs,x6,x7,x8,x9,ac⟩:=aj;subst x6;refine S2 (Mv (J k) Z ac (Mv av Z x8 (Pl Z (AP BM (ha.le x7) Z (Pl Z (Ao Z Z (Nl (AU Z (λad=>?_) (λad=>?_)))))))))
 ·refine Sk (Sq (Bk (Sr (Mv av Z x8 (Mv (J k) Z ac ?_)))));have ae:(0:Int)<=(k:Int):=aA
  have af:(k:Int)<((a.length:Nat):Int):=aA
  refine Pl Z (Aa AQ ha Z Z ae af λak aa ag=>have ah:AX _ ak aa 1 (eI (a.getD k 0)):=AX.getD 0 ag;Lz (Nn a k) Z (BP AJ (ah.le x7) Z) (Mv (J n) Z x9 (Pl Z (CK Z Z (Nl (AU Z (λai=>?_) (λai=>?_)))))))
  ·exact Sr (Az (.bool true) Z (Nl (Rt (⟨Zr,Ot (.bool true) Z (⟨(by (rw [decide_eq_true (has_hit (k:=k) ‹_› ‹_›)];done)),x7⟩)⟩))))
  ·exact Sk (Rg (Mv (J k) Z ac (Yd Z aA (Az (J ((k:Int)+1)) Z (Nl (⟨_,aA,k+1,Z,aA,(by exact has_next ‹_› hs ‹_›),Z,x7,x8,x9,Z⟩))))))
 ·exact Xt (Sr (Az (.bool false) Z (Nl (Rt (⟨Zr,Ot (.bool false) Z (⟨(by (rw [decide_eq_false (has_end (k:=k) ‹_› hs)])),x7⟩)⟩)))))
theorem IA(n:Int)(lo:Int)(hi:Int):AW W 29 #[J n,J lo,J hi] h (λv h'=>v=(.bool (decide (lo<=n/\n<=hi)):Value)/\h=h'):=by
 refine Ct func29 Z (Sr (Az (.bool false) Z (Nl (BF (λσ' ds' h'=>ds'=[]/\h=h'/\σ' 6=.bool (Q1m lo n hi)) ?_ ?_))))
 ·refine Rg (Mz (J n) Z (Mz (J lo) Z (Pl Z (CW Z Z (Mz (Qw lo n) Z (A0 (p:=lo<=n) ?_ ?_))))))
  ·intro aa;exact Gg 3 10 (AC Z aa) Z (Mo (J n) Z (Gg 3 10 (AC Z aa) Z (Mo (J hi) Z (Gg 3 10 (AC Z aa) Z (DX Z Z (Pk true (Qw n hi) Z (AC Z aa) Z (Az (Qw n hi) Z (Nl (⟨Z,Z,Et (b:=(.bool (decide (n<=hi)):Value)) Z (congrArg Value.bool (by (simp [aa];done):decide (n<=hi)=(Q1m lo n hi)))⟩)))))))))
  ·intro aa;exact Gs 3 10 (AA Z aa) Z (Gs 3 10 (AA Z aa) Z (Gs 3 10 (AA Z aa) Z (Pk false (.bool false) Z (AA Z aa) Z (Az (.bool false) Z (Nl (⟨Z,Z,Et (b:=(.bool false:Value)) Z (congrArg Value.bool (by (simp [aa];done):false=(Q1m lo n hi)))⟩))))))
 ·rintro _ _ _ ⟨ac,ab,ad⟩;subst ac;subst ab;exact Rt (⟨Zr,IU Z (v:=.bool (Q1m lo n hi)) ad (⟨(by rfl),Z⟩)⟩)
theorem NU(xl:Int)(xh:Int)(lo:Int)(hi:Int):AW W 106 #[.agg #[J xl,J xh],J lo,J hi] h (λv h'=>v=(.bool (decide ((lo<=xl/\xl<=xh)/\xh<=hi)):Value)/\h.Le h'):=by
 refine Ct func106 Z (Sr (Pl Z (Bo #[J xl,J xh] Z Z λ_ h2 _ ae ad _=>Az (.bool false) Z (Nl (BF (λσ' ds' h'=>ds'=[]/\h2=h'/\σ' 6=.bool (Q1q lo xl xh hi)) ?_ ?_)))))
 ·refine Rg (Fz Cd Z (Lz (J xl) Z (Rd.one AJ ad Z) (Mz (J lo) Z (Pl Z (CW Z Z (Mz (Qw lo xl) Z (A0 (p:=lo<=xl) ?_ ?_)))))))
  ·intro aa;refine Gg 4 11 (AC Z aa) Z (AF Ce Z (Gg 4 11 (AC Z aa) Z (Lo (J xh) Z (Rd.one AJ ad Z) (Gg 4 11 (AC Z aa) Z (AF Cd Z (Gg 4 11 (AC Z aa) Z (Lo (J xl) Z (Rd.one AJ ad Z) (Gg 4 11 (AC Z aa) Z (CW Z Z (Pk true (Qw xl xh) Z (AC Z aa) Z (Mz (Qw xl xh) Z (A0 (p:=xl<=xh) ?_ ?_))))))))))))
   ·intro ab;exact Gg 11 18 (AC Z ab) Z (AF Ce Z (Gg 11 18 (AC Z ab) Z (Lo (J xh) Z (Rd.one AJ ad Z) (Gg 11 18 (AC Z ab) Z (Mo (J hi) Z (Gg 11 18 (AC Z ab) Z (DX Z Z (Pk true (Qw xh hi) Z (AC Z ab) Z (Az (Qw xh hi) Z (Nl (⟨Z,Z,Et (b:=(.bool (decide (xh<=hi)):Value)) Z (congrArg Value.bool (by (simp [aa,ab];done):decide (xh<=hi)=(Q1q lo xl xh hi)))⟩)))))))))))
   ·intro ab;exact Gs 11 18 (AA Z ab) Z (Gs 11 18 (AA Z ab) Z (Gs 11 18 (AA Z ab) Z (Gs 11 18 (AA Z ab) Z (Pk false (.bool false) Z (AA Z ab) Z (Az (.bool false) Z (Nl (⟨Z,Z,Et (b:=(.bool false:Value)) Z (congrArg Value.bool (by (simp [aa,ab];done):false=(Q1q lo xl xh hi)))⟩)))))))
  ·intro aa;exact Gs 4 11 (AA Z aa) Z (Gs 4 11 (AA Z aa) Z (Gs 4 11 (AA Z aa) Z (Gs 4 11 (AA Z aa) Z (Gs 4 11 (AA Z aa) Z (Pk false (.bool false) Z (AA Z aa) Z (Mz (.bool false) Z (Gs 11 18 Z Z (Gs 11 18 Z Z (Gs 11 18 Z Z (Gs 11 18 Z Z (Pz false (.bool false) Z (Az (.bool false) Z (Nl (⟨Z,Z,Et (b:=(.bool false:Value)) Z (congrArg Value.bool (by (simp [aa];done):false=(Q1q lo xl xh hi)))⟩))))))))))))))
 ·rintro _ _ _ ⟨af,ac,ag⟩;subst af;subst ac;exact Rt (⟨Zr,IU Z (v:=.bool (Q1q lo xl xh hi)) ag (⟨(by rfl),ae⟩)⟩)
theorem Us(c:Int):AW W 117 #[.int .u8 c] h (λv h'=>v=(.bool (decide (Er c)):Value)/\h=h'):=by
 refine Ct func117 Z (Sr (Az (.bool false) Z (Nl (BF (λσ' ds' h'=>ds'=[]/\h=h'/\σ' 2=.bool (Q20 c)) ?_ ?_))))
 ·refine Rg (Mz (.int .u8 c) Z (Pl Z (CW Z Z (Mz (.bool (decide (97<=c))) Z (A0 (p:=97<=c) ?_ ?_)))))
  ·intro aa;exact Gg 2 5 (AC Z aa) Z (Mo (.int .u8 c) Z (Gg 2 5 (AC Z aa) Z (DX Z Z (Pk true (.bool (decide (c<=122))) Z (AC Z aa) Z (Az (.bool (decide (c<=122))) Z (Nl (⟨Z,Z,Et (b:=(.bool (decide (c<=122)):Value)) Z (congrArg Value.bool (by (simp [aa];done):decide (c<=122)=(Q20 c)))⟩)))))))
  ·intro aa;exact Gs 2 5 (AA Z aa) Z (Gs 2 5 (AA Z aa) Z (Pk false (.bool false) Z (AA Z aa) Z (Az (.bool false) Z (Nl (⟨Z,Z,Et (b:=(.bool false:Value)) Z (congrArg Value.bool (by (simp [aa];done):false=(Q20 c)))⟩)))))
 ·rintro _ _ _ ⟨ac,ab,ad⟩;subst ac;subst ab;exact Rt (⟨Zr,IU Z (v:=.bool (Q20 c)) ad (⟨(by rfl),Z⟩)⟩)
theorem Wv(c:Int):AW W 118 #[.int .u8 c] h (λv h'=>v=(.bool (decide (E7 c)):Value)/\h=h'):=by
 refine Ct func118 Z (Sr (Az (.bool false) Z (Nl (BF (λσ' ds' h'=>ds'=[]/\h=h'/\σ' 2=.bool (Q26 c)) ?_ ?_))))
 ·refine Rg (Mz (.int .u8 c) Z (Pl Z (CW Z Z (Mz (.bool (decide (48<=c))) Z (A0 (p:=48<=c) ?_ ?_)))))
  ·intro aa;exact Gg 2 5 (AC Z aa) Z (Mo (.int .u8 c) Z (Gg 2 5 (AC Z aa) Z (DX Z Z (Pk true (.bool (decide (c<=57))) Z (AC Z aa) Z (Az (.bool (decide (c<=57))) Z (Nl (⟨Z,Z,Et (b:=(.bool (decide (c<=57)):Value)) Z (congrArg Value.bool (by (simp [aa];done):decide (c<=57)=(Q26 c)))⟩)))))))
  ·intro aa;exact Gs 2 5 (AA Z aa) Z (Gs 2 5 (AA Z aa) Z (Pk false (.bool false) Z (AA Z aa) Z (Az (.bool false) Z (Nl (⟨Z,Z,Et (b:=(.bool false:Value)) Z (congrArg Value.bool (by (simp [aa];done):false=(Q26 c)))⟩)))))
 ·rintro _ _ _ ⟨ac,ab,ad⟩;subst ac;subst ab;exact Rt (⟨Zr,IU Z (v:=.bool (Q26 c)) ad (⟨(by rfl),Z⟩)⟩)
theorem QG(xs:List Int)(xsv:Value)(fv:Value)(p:Int->Bool)(hxs:AD h xsv 1 eI xs)(hf:∀x ∈ xs,∀h1,h.Le h1->Bw W fv #[J x] h1 λv h2=>v=.bool (p x)/\h1.Le h2):AW W 169 #[xsv,fv] h (λv h'=>v=(J (idxOf p xs):Value)/\h.Le h'):=by
 have ac:=hxs.len;refine Ct func169 Z (Sr (Az (J 0) Z (Nl (S2 (Mz xsv Z (Pl Z (AP BM hxs Z (Mz (J 0) Z (Nl (Bk (Ac (λnn σ' ds' h'=>∃(k:Nat),nn=xs.length-k/\(k<=xs.length)/\((xs.take k).any p=false)/\ds'=[]/\GH.Le h h'/\σ' 0=xsv/\σ' 1=fv/\σ' 7=J (xs.length:Int)/\σ' 8=J k) ⟨0,Z,aA,aD,Z,Lr,Z,Z,Z,Z⟩ (λnn _ _ _ am=>?_))))))))))));obtain ⟨k,rfl,hk,hs,x6,x7,x8,x9,al,ad⟩:=am;subst x6;refine Sr (Pl Z (Ao ad al (Nl (Sq (AU Z (λae=>?_) (λae=>?_))))))
 ·refine Sk (Sq (Bk (Sr (Mv (J k) Z ad (Az (J k) Z (Nl (Sr (Mv fv Z x9 (Mv xsv Z x8 (Mz (J k) Z ?_))))))))));have af:(0:Int)<=(k:Int):=aA
  have ag:(k:Int)<((xs.length:Nat):Int):=aA
  refine Pl Z (Aa AQ hxs Z Z af ag λan ab ah=>have ai:AX _ an ab 1 (eI (xs.getD k 0)):=AX.getD 0 ah;Lz (Nn xs k) Z (BP AJ (ai.le x7) Z) (Pl Z (Kb Z (vs:=#[J (xs.getD k 0)]) (by simp only [List.map_toArray,List.map_cons,List.map_nil,AO] <;> rfl) ((hf (xs.getD k 0) (CB aA) _ x7).mono λ_ _ aj=>?_))));obtain ⟨rfl,aa⟩:=aj;refine Nl (CV Z (λak=>?_) (λak=>?_))
  ·exact Sr (Mz (J k) Z (Az (J k) Z (Nl (Rt (⟨Zr,Ot (J k) Z (⟨(by (rw [Hb (k:=k) aA hs ‹_›];done)),(x7.trans aa)⟩)⟩)))))
  ·exact Sk (Rg (Ad _ _ Z ad Z aA (Mz (J ((k:Int)+1)) Z (Nl (⟨_,aA,k+1,Z,aA,(by exact ER (d:=0) aA hs ‹_›),Z,(x7.trans aa),x8,x9,al,Z⟩)))))
 ·exact Xt (Sr (Az (J (-1)) Z (Nl (Rt (⟨Zr,Ot (J (-1)) Z (⟨(by (rw [GV (k:=k) aA hs])),x7⟩)⟩)))))
theorem Ij(xs:List Int)(xsv:Value)(fv:Value)(p:Int->Bool)(hxs:AD h xsv 1 eI xs)(hf:∀x ∈ xs,∀h1,h.Le h1->Bw W fv #[J x] h1 λv h2=>v=.bool (p x)/\h1.Le h2):AW W 163 #[xsv,fv] h (λv h'=>v=(.bool (xs.any p):Value)/\h.Le h'):=by
 have aa:=hxs.len;refine Ct func163 Z (Sr (Az (.bool false) Z (Nl (Sr (Mz xsv Z (Mz fv Z (Pl Z (AS func169 Wi Z Z ((QG xs xsv fv p hxs (λx hx h1 l1=>hf x hx h1 (GH.Le.trans Lr l1))).mono λ_ _ ac=>?_)))))))));obtain ⟨rfl,ab⟩:=ac;exact Pl Z (CW Z Z (Az (.bool (decide (0<=(idxOf p xs)))) Z (Nl (Rt (⟨Zr,Ot (.bool (decide (0<=(idxOf p xs)))) Z (⟨(by rw [show decide (0<=idxOf p xs)=xs.any p from by rw [Bool.eq_iff_iff];simp [E8]]),ab⟩)⟩)))))
end Go.Ns
