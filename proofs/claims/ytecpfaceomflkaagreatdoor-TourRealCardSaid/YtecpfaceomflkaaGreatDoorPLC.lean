/- Rules and walks, part 3 of 7. No conditions. -/
import Derived.Carry
import Derived.Conc.LeavingOf
import Derived.LaidMore
import Derived.OpenShut
import Derived.Test.YtecpfaceomflkaaGreatDoorPLB
set_option linter.unusedVariables false
set_option linter.unusedSimpArgs false
set_option linter.unnecessarySimpa false
set_option linter.unusedSectionVars false
namespace Go.Ns
open Go.Conc
section
variable {P:Program} {E:Gh P} {O:Nat->Value} {ds:List Deferred} {h:GH} {T:(Nat->Value)->List Deferred->GH->Prop} {dst:Option Nat} {ty:TypeId} {pos:String} {af:Array Edge} {gd:Option (Nat×Bool)}
theorem ok_eqlB{xt yt:TypeId}{x y:Operand}{a b:Bool}(hx:AR O x=.bool a)(hy:AR O y=.bool b)(he:PQ P 1 xt (.bool a) (.bool b)=some (a==b))(k:T (putS O dst (.bool (a==b))) ds h):BW E ⟨dst,.binOp .eql xt x y yt,ty,pos,af,gd⟩ O ds h T:=by
 unfold BW execOp;simp only [hx,hy];refine GG (AI _ _ ?_);have hg:∀(Q:Unit->GH->Prop),Q () h->(eqGuard .eql xt x y (.bool a) (.bool b)).gh P h Q:=λQ q=>q;refine hg _ ?_;show Sem.gh P (do pure (Value.bool (<-Op.equal xt (.bool a) (.bool b))):Sem Value) h _;refine AI _ _ ?_;exact JO 1 _ _ _ _ (a==b) h _ aC he k
theorem RJ{t:TypeId}{x o:Operand}{m n b off hi:Nat}(ht:Nw P t=some (m,n))(hx:AR O x=.pointer (some ⟨b,off,none⟩))(ho:∃kd,AR O o=.int kd hi)(h2:hi<=m)(k:T (putS O dst (.slice (some ⟨b,off,none⟩) hi m)) ds h) :
  BW E ⟨dst,.slice t x none (some o) none,ty,pos,af,gd⟩ O ds h T:=by
 obtain ⟨kd,e⟩:=ho;unfold BW execOp;simp only [hx];refine GG ?_;unfold Nw at ht;unfold Instr.sliceAt;cases hu:P.underlying t with
 | none=>rw [hu] at ht;cases ht
 | some d=>
  rw [hu] at ht;cases d <;> first | (cases ht;done) | skip
  rename_i el
  simp only [Option.map_eq_some_iff,Prod.mk.injEq] at ht;obtain ⟨x0,hx0,rfl,rfl⟩:=ht;refine AI _ _ (An hu ?_);dsimp only;refine AI _ _ (Ax ?_);unfold Instr.sliceBounds;simp only [Option.map_some,Option.map_none,e,Bool.false_eq_true,↓reduceIte];refine AI _ _ (AI _ _ (Ax (AI _ _ (DR aA aA (AI _ _ (Ax (Ax ?_)))))));refine AI _ _ (EI hx0 (Ax ?_));simp only [Nat.sub_zero,Nat.zero_mul,JL,Nat.add_zero,ite_self,Int.toNat_natCast];exact k
end
def eBo(b:Bool):Array Value:=#[.bool b]
theorem can_sl{h:GH}{r n:Nat}{p:Bool}{c:Ge}{t:TypeId}{f:Nat×Nat}(hb:h r=some (p,.cells (GP c) t f))(hn:n<=4):AO h (.slice (some ⟨r,0,none⟩) n 4) 1 eBo (Om c n):=by
 refine ⟨some ⟨r,0,none⟩,4,by simp [Om],by simpa [Om] using hn,by simp [Om];omega,λi hi=>⟨r,0,rfl,p,_,t,f,hb,?_,?_⟩⟩
 ·have:i<n:=by simpa [Om] using hi
  show 0+i*1+1<=4;omega
 ·have hi':i<n:=by simpa [Om] using hi
  have h4:i<4:=aA
  have e:(Om c n)[i]=c i:=by simp [Om]
  rw [e]
  match i,h4 with
  | 0,_=>rfl
  | 1,_=>rfl
  | 2,_=>rfl
  | 3,_=>rfl
theorem P3{ws:List AD}{c c':Ge}{np k:Nat}(h:EV ws (np-k) c=c')(hk:np<=k):c=c':=by
 rw [Nat.sub_eq_zero_of_le hk] at h;exact h
theorem U5{ws:List AD}{c c':Ge}{np k:Nat}(h:EV ws (np-k) c=c')(hk:k<np):EV ws (np-(k+1)) (HC ws c)=c':=by
 rw [show np-k=(np-(k+1))+1 by omega] at h;exact h
def BH(ws:List AD)(c:Ge)(k:Nat):Ge:=(ws.take k).foldl GQ c
theorem W6{ws:List AD}{c:Ge}{k:Nat}(hk:k<ws.length):BH ws c (k+1)=GQ (BH ws c k) (ws.getD k AD.z):=by
 unfold BH;rw [Dj AD.z hk,List.foldl_append];rfl
theorem AAH{ws:List AD}{c:Ge}{k:Nat}(hk:ws.length<=k):BH ws c k=HC ws c:=by
 unfold BH HC;rw [List.take_of_length_le hk]
structure AE where
 ways:Nat->Int
 works:Nat->Int
def AE.zero:AE:=⟨λ_=>0,λ_=>0⟩
def Ag(p:AE):Array Value:=#[.int .i64 (p.ways 0),.int .i64 (p.ways 1),.int .i64 (p.ways 2),.int .i64 (p.ways 3),.int .i64 (p.ways 4),
 .int .i64 (p.works 0),.int .i64 (p.works 1),.int .i64 (p.works 2),.int .i64 (p.works 3)]
theorem F9(p:AE):(Value.agg (Ag p)).cells.size=9:=rfl
theorem GA(p:AE):Value.fine (.agg (Ag p))=true:=rfl
theorem Gq(p:AE):0+9<=(Ag p).size:=Nat.le_refl 9
theorem Gr(p q:AE):Bh (Ag p) 0 (Value.agg (Ag q)).cells.toList=Ag q:=by
 simp [Value.cells,Ag,Bh]
def AE.setWay(p:AE)(i:Nat)(n:Int):AE:={ p with ways:=λk=>if k=i then n else p.ways k }
def AE.setWork(p:AE)(i:Nat)(n:Int):AE:={ p with works:=λk=>if k=i then n else p.works k }
theorem Gt{p:AE}{i:Nat}(h:i<5):(Ag p)[0+i*1]? =some (.int .i64 (p.ways i)):=by
 match i,h with
 | 0,_=>rfl
 | 1,_=>rfl
 | 2,_=>rfl
 | 3,_=>rfl
 | 4,_=>rfl
theorem KE{p:AE}{i:Nat}(h:i<4):(Ag p)[5+i*1]? =some (.int .i64 (p.works i)):=by
 match i,h with
 | 0,_=>rfl
 | 1,_=>rfl
 | 2,_=>rfl
 | 3,_=>rfl
theorem RK{p:AE}{i:Nat}{n:Int}(h:i<5):Bh (Ag p) (0+i*1) [.int .i64 n]=Ag (p.setWay i n):=by
 match i,h with
 | 0,_=>rfl
 | 1,_=>rfl
 | 2,_=>rfl
 | 3,_=>rfl
 | 4,_=>rfl
theorem P4{p:AE}{i:Nat}{n:Int}(h:i<4):Bh (Ag p) (5+i*1) [.int .i64 n]=Ag (p.setWork i n):=by
 match i,h with
 | 0,_=>rfl
 | 1,_=>rfl
 | 2,_=>rfl
 | 3,_=>rfl
def AE.put(p:AE)(nw i:Nat)(n:Int):AE:=if i<nw then p.setWay i n else p.setWork (i-nw) n
theorem AE.put_put(p:AE)(nw i:Nat)(n m:Int):(p.put nw i n).put nw i m=p.put nw i m:=by
 unfold AE.put;split
 ·unfold AE.setWay;congr 1;funext k;simp only [];split <;> rfl
 ·unfold AE.setWork;congr 1;funext k;simp only [];split <;> rfl
def Cn(p:AE)(l:List Int):Int:=(l.map λk=>p.ways k.toNat).sum
def CF(ns:List AH)(p:AE):Bool:=ns.all λx=>decide (x.low<=Cn p x.ways/\Cn p x.ways<=x.high)
structure BF(p:AE):Prop where
 ways:∀k,0<=p.ways k/\p.ways k<=30
 works:∀k,0<=p.works k/\p.works k<=30
def O2(ns:List AH)(p:AE)(k:Nat):Bool:=decide ((ns.getD k AH.z).low<=Cn p (ns.getD k AH.z).ways/\Cn p (ns.getD k AH.z).ways<=(ns.getD k AH.z).high)
theorem MQ{p:AE}{l:List Int}{q:Nat}(h:q<l.length):Cn p (l.take (q+1))=Cn p (l.take q)+p.ways (l.getD q 0).toNat:=by
 unfold Cn;rw [Dj 0 h];simp
theorem KF{p:AE}{l:List Int}{q:Nat}(h:l.length<=q):Cn p (l.take q)=Cn p l:=by rw [List.take_of_length_le h]
theorem U6{p:AE}{ns:List AH}{k q:Nat}{s:Int}(hs:s=Cn p ((ns.getD k AH.z).ways.take q))(hq:(ns.getD k AH.z).ways.length<=q)(h:(ns.getD k AH.z).low<=s/\s<=(ns.getD k AH.z).high):O2 ns p k=true:=by
 rw [KF hq] at hs;subst hs;exact decide_eq_true h
theorem W7{p:AE}{ns:List AH}{k:Nat}(h:∀j,j<k->O2 ns p j=true)(hk:ns.length<=k):CF ns p=true:=by
 unfold CF;rw [List.all_eq_true];intro x hx;obtain ⟨i,hi,rfl⟩:=List.mem_iff_getElem.1 hx
 have:=h i aA
 unfold O2 at this;rw [DU AH.z hi] at this;exact this
theorem AAI{p:AE}{ns:List AH}{k q:Nat}{s:Int}(hk:k<ns.length)(hs:s=Cn p ((ns.getD k AH.z).ways.take q))(hq:(ns.getD k AH.z).ways.length<=q)(h:¬((ns.getD k AH.z).low<=s/\s<=(ns.getD k AH.z).high)):CF ns p=false:=by
 rw [KF hq] at hs;subst hs;rw [DU AH.z hk] at h;unfold CF;rw [List.all_eq_false];exact ⟨ns[k],List.getElem_mem hk,by simpa using h⟩
theorem P5{f:Nat->Bool}{k:Nat}(h:∀j,j<k->f j=true)(e:f k=true):∀j,j<k+1->f j=true:=λj hj=>by
 rcases Nat.lt_succ_iff_lt_or_eq.1 hj with q | rfl
 ·exact h j q
 ·exact e
theorem P6{nw:Nat}{ns:List AH}(h:∀k,k<ns.length->DH nw ns k=0)(k:Nat):(ns.getD k AH.z).ways.length<=5/\(∀q,0<=(ns.getD k AH.z).ways.getD q 0/\((ns.getD k AH.z).ways.getD q 0=0\/(ns.getD k AH.z).ways.getD q 0<=(nw:Int)-1)):=by
 rcases Nat.lt_or_ge k ns.length with hk | hk
 ·have e:=h k hk;unfold DH at e;split at e
  ·cases e
  ·split at e
   ·cases e
   ·rename_i h5 h6
    refine ⟨aA,λq=>?_⟩;rcases Nat.lt_or_ge q (ns.getD k AH.z).ways.length with hq | hq
    ·have h7:¬∃x ∈ (ns.getD k AH.z).ways,¬(0<=x/\x<=(nw:Int)-1):=by simpa [List.any_eq_true] using h6
     have h8:0<=(ns.getD k AH.z).ways.getD q 0/\(ns.getD k AH.z).ways.getD q 0<=(nw:Int)-1:=Classical.byContradiction λz=>h7 ⟨_,Be hq,z⟩;exact ⟨h8.1,.inr h8.2⟩
    ·rw [Bq hq];exact ⟨Int.le_refl _,.inl rfl⟩
 ·rw [Bq hk];refine ⟨by simp [AH.z],λq=>?_⟩;simp [AH.z]
def CR(ws:List AD)(js:List AK)(i:Nat):Int:=if i<ws.length then (ws.getD i AD.z).low else (js.getD (i-ws.length) AK.z).low
def GB(ws:List AD)(js:List AK)(i:Nat):Int:=if i<ws.length then (ws.getD i AD.z).high else (js.getD (i-ws.length) AK.z).high
def CK(ag:AE->Bool)(ws:List AD)(js:List AK):Nat->Nat->AE->List AE
 | 0,_,p=>[p]
 | f+1,i,p=>(Fe (CR ws js i) (GB ws js i)).flatMap λn=>if i+1=ws.length/\ag (p.put ws.length i n)=false then [] else CK ag ws js f (i+1) (p.put ws.length i n)
def CA(ag:AE->Bool)(ws:List AD)(js:List AK)(f i:Nat)(p:AE)(n:Int):List AE:=
 if i+1=ws.length/\ag (p.put ws.length i n)=false then [] else CK ag ws js f (i+1) (p.put ws.length i n)
theorem EC(ag:AE->Bool)(ws:List AD)(js:List AK)(f i:Nat)(p:AE) :
  CK ag ws js (f+1) i p=(Fe (CR ws js i) (GB ws js i)).flatMap (CA ag ws js f i p):=rfl
def AC(ws:List AD)(js:List AK)(ns:List AH):List AE:=
 if 0<ws.length\/CF ns AE.zero=true then CK (CF ns) ws js (ws.length+js.length) 0 AE.zero else []
def Hb(nw i:Nat):Nat:=if i<nw then 0+i*1 else 5+(i-nw)*1
theorem AAJ{nw i:Nat}(h:i<nw):Hb nw i=0+i*1:=if_pos h
theorem W8{nw i:Nat}(h:¬i<nw):Hb nw i=5+(i-nw)*1:=if_neg h
theorem Ks{p:AE}{nw nj i:Nat}{v:Int}(hw:nw<=5)(hj:nj<=4)(hi:i<nw+nj):(Ag (p.put nw i v))[Hb nw i]? =some (.int .i64 v):=by
 unfold AE.put Hb;split
 ·rw [Gt aA];simp [AE.setWay]
 ·rw [KE aA];simp [AE.setWork]
theorem GS{p:AE}{nw nj i:Nat}{v:Int}(hw:nw<=5)(hj:nj<=4)(hi:i<nw+nj):Bh (Ag p) (Hb nw i) [.int .i64 v]=Ag (p.put nw i v):=by
 unfold AE.put Hb;split
 ·exact RK aA
 ·exact P4 aA
theorem KG{nw nj i:Nat}(hw:nw<=5)(hj:nj<=4)(hi:i<nw+nj):Hb nw i+1<=9:=by unfold Hb;split <;> omega
def AE.zeros(p:AE)(nw i:Nat):Prop:=(∀k,i<=k->k<nw->p.ways k=0)/\∀k,i<=nw+k->p.works k=0
theorem AE.zeros_put{p:AE}{nw i:Nat}(h:p.zeros nw i):p.put nw i 0=p:=by
 obtain ⟨wy,wo⟩:=p;unfold AE.put AE.setWay AE.setWork;split
 ·rename_i hi
  congr 1;funext k;split
  ·rename_i e;subst e;exact (h.1 k (Nat.le_refl _) hi).symm
  ·rfl
 ·rename_i hi
  congr 1;funext k;split
  ·rename_i e;subst e;exact (h.2 (i-nw) aA).symm
  ·rfl
theorem AE.zeros_next{p:AE}{nw i:Nat}{v:Int}(h:p.zeros nw i):(p.put nw i v).zeros nw (i+1):=by
 unfold AE.put;split
 ·refine ⟨λk h1 h2=>?_,λk h1=>h.2 k aA⟩;show (if k=i then v else p.ways k)=0;rw [if_neg aA];exact h.1 k aA h2
 ·refine ⟨λk h1 h2=>h.1 k aA h2,λk h1=>?_⟩;show (if k=i-nw then v else p.works k)=0;rw [if_neg aA];exact h.2 k aA
theorem AE.zeros_zero(nw i:Nat):AE.zero.zeros nw i:=⟨λ_ _ _=>rfl,λ_ _=>rfl⟩
theorem BF.zero:BF AE.zero:=⟨λ_=>(aC:(0:Int)<=0/\(0:Int)<=30),λ_=>(aC:(0:Int)<=0/\(0:Int)<=30)⟩
theorem BF.put{p:AE}(h:BF p){nw i:Nat}{v:Int}(hv:0<=v/\v<=30):BF (p.put nw i v):=by
 unfold AE.put;split
 ·refine ⟨λk=>?_,h.works⟩;show 0<=(if k=i then v else p.ways k)/\(if k=i then v else p.ways k)<=30;split
  ·exact hv
  ·exact h.ways k
 ·refine ⟨h.ways,λk=>?_⟩;show 0<=(if k=i-nw then v else p.works k)/\(if k=i-nw then v else p.works k)<=30;split
  ·exact hv
  ·exact h.works k
section
variable {bag kinds:Int} {ps:List ByteArray} {ws:List AD} {js:List AK} {ns:List AH} {ag:AE->Bool} {p:AE} {all pre:List AE} {f i k:Nat}
theorem A7.few(b:A7 bag kinds ps ws js ns)(hi:i<ws.length+js.length):0<=CR ws js i/\CR ws js i<=GB ws js i/\GB ws js i<=30/\GB ws js i-CR ws js i<2:=by
 unfold CR GB;by_cases h:i<ws.length
 ·rw [if_pos h,if_pos h];exact (HD b.way i h).time
 ·rw [if_neg h,if_neg h];exact (I3 (b.job (i-ws.length) aA)).time
theorem AAK(e:i+1=ws.length)(h:ag (p.put ws.length i (CR ws js i+(k:Int)))=false) :
  pre++(Cj (CR ws js i) (k+1)).flatMap (CA ag ws js f i p)=pre++(Cj (CR ws js i) k).flatMap (CA ag ws js f i p):=by
 rw [N4];unfold CA;rw [if_pos ⟨e,h⟩,List.append_nil]
theorem R2(h:¬(i+1=ws.length/\ag (p.put ws.length i (CR ws js i+(k:Int)))=false)) :
  pre++(Cj (CR ws js i) (k+1)).flatMap (CA ag ws js f i p)=(pre++(Cj (CR ws js i) k).flatMap (CA ag ws js f i p))++CK ag ws js f (i+1) (p.put ws.length i (CR ws js i+(k:Int))):=by
 rw [N4,<-List.append_assoc];congr 1;unfold CA;rw [if_neg h]
theorem OC(hw:CT all pre (CK ag ws js (f+1) i p))(hk:CR ws js i+(k:Int)<=GB ws js i)(h:¬(i+1=ws.length/\ag (p.put ws.length i (CR ws js i+(k:Int)))=false)) :
  CT all (pre++(Cj (CR ws js i) k).flatMap (CA ag ws js f i p)) (CK ag ws js f (i+1) (p.put ws.length i (CR ws js i+(k:Int)))):=by
 rw [EC] at hw
 have:=hw.round hk
 unfold CA at this ⊢;rw [if_neg h] at this;exact this
end
theorem W9{lo hi:Int}(h:hi-lo<2):(Fe lo hi).length<=2:=by unfold Fe Cj;simp;omega
theorem MR{bag kinds:Int}{ps:List ByteArray}{ws:List AD}{js:List AK}{ns:List AH}(b:A7 bag kinds ps ws js ns)(ag:AE->Bool):∀(f i:Nat)(p:AE),i+f=ws.length+js.length->(CK ag ws js f i p).length<=2 ^ f
 | 0,_,_,_=>Nat.le_refl _
 | f+1,i,p,h=>by
  rw [EC];have h1:=(b.few (i:=i) aA).2.2.2;have h2:=Uo (f:=CA ag ws js f i p) (c:=2 ^ f) (l:=Fe (CR ws js i) (GB ws js i)) λx _=>by
   unfold CA;split
   ·exact Nat.zero_le _
   ·exact MR b ag f (i+1) _ aA
  have h3:=Nat.mul_le_mul_right (2 ^ f) (W9 h1);rw [Nat.pow_succ];omega
theorem FN{bag kinds:Int}{ps:List ByteArray}{ws:List AD}{js:List AK}{ns:List AH}(b:A7 bag kinds ps ws js ns):(AC ws js ns).length<=2000000:=by
 unfold AC;split
 ·have h1:=MR b (CF ns) (ws.length+js.length) 0 AE.zero aA;have h2:2 ^ (ws.length+js.length)<=2 ^ 9:=Nat.pow_le_pow_right aA (by have:=b.wlen;have:=b.jlen;omega);omega
 ·exact Nat.zero_le _
def Lc(bag kinds:Int)(ps:List ByteArray)(ws:List AD)(js:List AK)(ns:List AH):Int:=if BS bag kinds ps ws js ns=0 then ((AC ws js ns).length:Int) else 0
section
variable {bag kinds:Int} {ps:List ByteArray} {ws:List AD} {js:List AK} {ns:List AH}
theorem AAL(h:¬BS bag kinds ps ws js ns=0):(.tuple #[.int .i64 0,.int .i64 (BS bag kinds ps ws js ns)]:Value)=.tuple #[.int .i64 (Lc bag kinds ps ws js ns),.int .i64 (BS bag kinds ps ws js ns)]:=by
 unfold Lc;rw [if_neg h]
theorem tHist_ok(h:¬¬BS bag kinds ps ws js ns=0):(.tuple #[.int .i64 ((AC ws js ns).length:Int),.int .i64 0]:Value)=.tuple #[.int .i64 (Lc bag kinds ps ws js ns),.int .i64 (BS bag kinds ps ws js ns)]:=by
 have e:=Decidable.not_not.1 h;unfold Lc;rw [if_pos e,e]
end
section
variable {V:Type} {hB h hc h':GH} {I:List V->(Nat->Prop)->GH->Prop} {S:GH->Prop} {rp:Nat} {T:TypeId} {c c':Array Value} {X0 X:Nat->Prop} {pre l:List V} {v:Value}
theorem En.stoppedI{I':List V->(Nat->Prop)->GH->Prop}{pre':List V}(hv:v=.bool false)(r:∀l',En hB I S pre X0 h l' (.bool false) h'):En hB I' S pre' X0 h l v h':=by
 obtain ⟨ok,X',e,hs,hk,hl,_,h2⟩:=r [];cases e;exact ⟨false,X',hv,hs,hk,hl,(λx=>by cases x),h2⟩
def DW(I:List V->(Nat->Prop)->GH->Prop)(rp:Nat)(T:TypeId)(c:Array Value):List V->(Nat->Prop)->GH->Prop:=λpre X h=>
 ∃X',I pre X' h/\¬X' rp/\(∀b,X b↔X' b\/b=rp)/\h rp=some (true,.cells c T (0,0))
theorem DW.prom(P:GZ hB I):GZ hB (DW I rp T c):=by
 refine ⟨?_,?_⟩
 ·rintro pre X h b ⟨X',i,n,hX,hp⟩ hb;rcases (hX b).1 hb with q | rfl
  ·exact P.dom _ _ _ _ i q
  ·exact ⟨_,_,hp,rfl⟩
 ·rintro pre X h h' ⟨X',i,n,hX,hp⟩ same lB;exact ⟨X',P.stable _ _ _ _ i (λb hb=>same b ((hX b).2 (.inl hb))) lB,n,hX,by rw [same rp ((hX rp).2 (.inr rfl))];exact hp⟩
theorem DW.box(x:DW I rp T c pre X h):h rp=some (true,.cells c T (0,0)):=by obtain ⟨_,_,_,_,e⟩:=x;exact e
theorem DW.mem(x:DW I rp T c pre X h):X rp:=by obtain ⟨X',_,_,hX,_⟩:=x;exact (hX rp).2 (.inr rfl)
theorem Ee.put(P:GZ hB I)(y:Ee hB (DW I rp T c) X0 h pre X hc)(rB:hB rp=none)(nb:h' rp=some (true,.cells c' T (0,0)))(ho:∀b,b≠rp->h' b=hc b):Ee hB (DW I rp T c') X0 h pre X h':=by
 obtain ⟨⟨X',i,n,hX,hp⟩,sub,keep,base⟩:=y;exact ⟨⟨X',P.store i n ho (base.upd rB ho),n,hX,nb⟩,sub,keep.store' (sub rp ((hX rp).2 (.inr rfl))) ho,base.upd rB ho⟩
theorem DW.call{P:Program}{W:Wk P}{yv:Value}{args:Array Value}(x:DW I rp T c pre X hc)(k:∀X',I pre X' hc->By W yv args hc (En hB I S pre X' hc l)):By W yv args hc (En hB (DW I rp T c) S pre X hc l):=by
 have x':=x;obtain ⟨X',i,n,hX,hp⟩:=x;refine (k X' i).mono λv h' r=>?_;obtain ⟨ok,X1,hv,hs,hk,hl,h1,h2⟩:=r;have n1:¬X1 rp:=λq=>(hs rp q).elim n λe=>by rw [hp] at e;cases e
 refine ⟨ok,λb=>X1 b\/b=rp,hv,?_,λb p o hb hn=>hk b p o hb λq=>hn ((hX b).2 (.inl q)),hl,λe=>⟨X1,h1 e,n1,λ_=>Iff.rfl,hk.box hp n rfl⟩,h2⟩;rintro b (q | rfl)
 ·exact (hs b q).imp (λq=>(hX b).2 (.inl q)) id
 ·exact .inl ((hX _).2 (.inr rfl))
theorem DW.start(x:I pre X hc)(hp:hc rp=some (true,.cells c T (0,0)))(n:¬X rp):DW I rp T c pre (λb=>X b\/b=rp) hc:=⟨X,x,n,λ_=>Iff.rfl,hp⟩
theorem DW.final{X0:Nat->Prop}(y:Ee hB I X0 h pre X hc)(hn:h rp=none)(r:En hB (DW I rp T c) S pre (λb=>X b\/b=rp) hc l v h'):En hB I S pre X0 h l v h':=by
 obtain ⟨ok,X1,hv,hs,hk,hl,h1,h2⟩:=r;cases ok with
 | true=>
  obtain ⟨X2,i2,n2,hX2,hp2⟩:=h1 rfl;refine ⟨true,X2,hv,λb q=>?_,?_,hl,λ_=>i2,λe=>by cases e⟩
  ·rcases hs b ((hX2 b).2 (.inl q)) with (q1 | rfl) | q1
   ·exact y.sub b q1
   ·exact absurd q n2
   ·exact subX y.sub y.keep (X1:=λz=>z=b) (λz e=>.inr (by rw [e];exact q1)) b rfl
  ·intro b p o hb hX;obtain ⟨o',e1,e2⟩:=y.keep b p o hb hX;obtain ⟨o2,e3,e4⟩:=hk b p o' e1 (λq=>q.elim (λq=>(y.sub b q).elim hX λe=>by rw [e] at hb;cases hb) λe=>by rw [e,hn] at hb;cases hb);refine ⟨o2,e3,?_⟩;rcases e2 with rfl | e2
   ·exact e4
   ·rcases e4 with rfl | e4
    ·exact .inr e2
    ·exact .inr ⟨e2.1,e4.2⟩
 | false=>
  refine ⟨false,λb=>X0 b\/h b=none,hv,λb q=>q,?_,hl,(λe=>by cases e),λ_=>h2 rfl⟩;intro b p o hb hX;obtain ⟨o',e1,e2⟩:=y.keep b p o hb hX;obtain ⟨o2,e3,e4⟩:=hk b p o' e1 (λq=>q.elim (λq=>(y.sub b q).elim hX λe=>by rw [e] at hb;cases hb) λe=>by rw [e,hn] at hb;cases hb);refine ⟨o2,e3,?_⟩;rcases e2 with rfl | e2
  ·exact e4
  ·rcases e4 with rfl | e4
   ·exact .inr e2
   ·exact .inr ⟨e2.1,e4.2⟩
end
end Go.Ns
namespace Go.Ns
open Go.Conc
abbrev EW:=Nat->Nat->Int
def LB(m:EW):Array Value:=#[.int .i64 (m 0 0),.int .i64 (m 0 1),.int .i64 (m 0 2),.int .i64 (m 0 3),.int .i64 (m 1 0),.int .i64 (m 1 1),.int .i64 (m 1 2),.int .i64 (m 1 3),
 .int .i64 (m 2 0),.int .i64 (m 2 1),.int .i64 (m 2 2),.int .i64 (m 2 3),.int .i64 (m 3 0),.int .i64 (m 3 1),.int .i64 (m 3 2),.int .i64 (m 3 3)]
def EW.zero:EW:=λ_ _=>0
def EW.set(m:EW)(i k:Nat)(v:Int):EW:=λa b=>if a=i/\b=k then v else m a b
theorem KH{m:EW}{i k:Nat}(hi:i<4)(hk:k<4):(LB m)[0+i*4+k*1]? =some (.int .i64 (m i k)):=by
 match i,hi with
 | 0,_=>match k,hk with
  | 0,_=>rfl
  | 1,_=>rfl
  | 2,_=>rfl
  | 3,_=>rfl
 | 1,_=>match k,hk with
  | 0,_=>rfl
  | 1,_=>rfl
  | 2,_=>rfl
  | 3,_=>rfl
 | 2,_=>match k,hk with
  | 0,_=>rfl
  | 1,_=>rfl
  | 2,_=>rfl
  | 3,_=>rfl
 | 3,_=>match k,hk with
  | 0,_=>rfl
  | 1,_=>rfl
  | 2,_=>rfl
  | 3,_=>rfl
theorem MS{m:EW}{i k:Nat}{v:Int}(hi:i<4)(hk:k<4):Bh (LB m) (0+i*4+k*1) [.int .i64 v]=LB (m.set i k v):=by
 match i,hi with
 | 0,_=>match k,hk with
  | 0,_=>rfl
  | 1,_=>rfl
  | 2,_=>rfl
  | 3,_=>rfl
 | 1,_=>match k,hk with
  | 0,_=>rfl
  | 1,_=>rfl
  | 2,_=>rfl
  | 3,_=>rfl
 | 2,_=>match k,hk with
  | 0,_=>rfl
  | 1,_=>rfl
  | 2,_=>rfl
  | 3,_=>rfl
 | 3,_=>match k,hk with
  | 0,_=>rfl
  | 1,_=>rfl
  | 2,_=>rfl
  | 3,_=>rfl
def Lf(i:Nat)(m:EW)(k:Nat):EW:=if¬(i:Int)=(k:Int) then m.set i k 1048576 else m
def HE(i:Nat)(m:EW)(n:Nat):EW:=(List.range n).foldl (Lf i) m
def Io(n:Nat):EW:=(List.range n).foldl (λm i=>HE i m 4) EW.zero
def KI(p:AE)(ws:List AD)(m:EW)(k:Nat):EW:=(m.set (ws.getD k AD.z).a.toNat (ws.getD k AD.z).b.toNat (p.ways k)).set (ws.getD k AD.z).b.toNat (ws.getD k AD.z).a.toNat (p.ways k)
def A0(p:AE)(ws:List AD)(n:Nat):EW:=(List.range n).foldl (KI p ws) (Io 4)
def O3(by_ i:Nat)(m:EW)(k:Nat):EW:=m.set i k (min (m i k) (m i by_+m by_ k))
def Hl(by_ i:Nat)(m:EW)(n:Nat):EW:=(List.range n).foldl (O3 by_ i) m
def OD(by_ np:Nat)(m:EW)(i:Nat):EW:=if m i by_=1048576 then m else Hl by_ i m np
def Ep(by_ np:Nat)(m:EW)(n:Nat):EW:=(List.range n).foldl (OD by_ np) m
def Ch(np:Nat)(m:EW)(n:Nat):EW:=(List.range n).foldl (λm b=>Ep b np m np) m
def Aw(np:Nat)(ws:List AD)(p:AE):EW:=Ch np (A0 p ws ws.length) np
theorem Av{β:Type}(f:β->Nat->β)(b:β)(n:Nat):(List.range (n+1)).foldl f b=f ((List.range n).foldl f b) n:=by rw [List.range_succ,List.foldl_append];rfl
def EW.ok(m:EW):Prop:=∀i k,0<=m i k/\m i k<=1048576
theorem EW.ok_set{m:EW}(h:m.ok){i k:Nat}{v:Int}(hv:0<=v/\v<=1048576):(m.set i k v).ok:=λa b=>by
 unfold EW.set;split
 ·exact hv
 ·exact h a b
theorem EW.ok_zero:EW.zero.ok:=λ_ _=>⟨Int.le_refl 0,(aC:(0:Int)<=1048576)⟩
theorem ID{β:Type}{Q:β->Prop}{f:β->Nat->β}(hf:∀b k,Q b->Q (f b k)):∀{l:List Nat}{b:β},Q b->Q (l.foldl f b)
 | [],_,h=>h
 | x ::l,b,h=>ID hf (l:=l) (hf b x h)
theorem AAM{i:Nat}{m:EW}{k:Nat}(h:m.ok):(Lf i m k).ok:=by
 unfold Lf;split
 ·exact EW.ok_set h aC
 ·exact h
theorem far0K_ok{i:Nat}{m:EW}{n:Nat}(h:m.ok):(HE i m n).ok:=ID (λ_ _=>AAM) h
theorem ZO{n:Nat}:(Io n).ok:=ID (λ_ _ h=>far0K_ok h) EW.ok_zero
theorem AAN{p:AE}{ws:List AD}{m:EW}{k:Nat}(hp:BF p)(h:m.ok):(KI p ws m k).ok:=by
 have:=hp.ways k
 exact EW.ok_set (EW.ok_set h aA) aA
theorem Lg{p:AE}{ws:List AD}{n:Nat}(hp:BF p):(A0 p ws n).ok:=ID (λ_ _ h=>AAN hp h) ZO
theorem XA{b i:Nat}{m:EW}{k:Nat}(h:m.ok):(O3 b i m k).ok:=by
 have h1:=h i k;have h2:=h i b;have h3:=h b k;exact EW.ok_set h aA
theorem ZP{b i:Nat}{m:EW}{n:Nat}(h:m.ok):(Hl b i m n).ok:=ID (λ_ _ h=>XA h) h
theorem farI1_ok{b np:Nat}{m:EW}{i:Nat}(h:m.ok):(OD b np m i).ok:=by
 unfold OD;split
 ·exact h
 ·exact ZP h
theorem O4{b np:Nat}{m:EW}{n:Nat}(h:m.ok):(Ep b np m n).ok:=ID (λ_ _ h=>farI1_ok h) h
theorem U7{np:Nat}{m:EW}{n:Nat}(h:m.ok):(Ch np m n).ok:=ID (λ_ _ h=>O4 h) h
theorem CI{c c':Array Value}(h:c.size=c'.size):Bh c 0 c'.toList=c':=by
 apply Array.toList_inj.1;rw [Ec _ _ _ (by simp [h])];simp [h]
theorem Ip{b:Bool}(h:(!b)=true):b=false:=by cases b <;> simp_all
theorem Iq{b:Bool}(h:(!b)=false):b=true:=by cases b <;> simp_all
abbrev FO:=(Int×Int×Int×Int×Int)×Int×Int
def E6(a:FO):Value:=.agg #[.int .i64 a.1.1,.int .i64 a.1.2.1,.int .i64 a.1.2.2.1,.int .i64 a.1.2.2.2.1,.int .i64 a.1.2.2.2.2,.int .i64 a.2.1,.int .i64 a.2.2]
def U8:FO->Option Int:=λ_=>none
def AE.w5(p:AE):Int×Int×Int×Int×Int:=(p.ways 0,p.ways 1,p.ways 2,p.ways 3,p.ways 4)
theorem FO.eq_iff(a b:FO):((a.1.1==b.1.1 && (a.1.2.1==b.1.2.1 && (a.1.2.2.1==b.1.2.2.1 && (a.1.2.2.2.1==b.1.2.2.2.1 && (a.1.2.2.2.2==b.1.2.2.2.2 && true))))) && (a.2.1==b.2.1 && (a.2.2==b.2.2 && true)))=decide (a=b):=by
 obtain ⟨⟨a1,a2,a3,a4,a5⟩,a6,a7⟩:=a;obtain ⟨⟨b1,b2,b3,b4,b5⟩,b6,b7⟩:=b;rw [Bool.eq_iff_iff];simp [and_assoc]
theorem RL(a:FO):Instr.sameBits 10000 (E6 a) (E6 a)=true:=by
 have hi:∀(n:Nat)(x:Int),Instr.sameBits n (.int .i64 x) (.int .i64 x)=true:=λn x=>by
  cases n <;> (unfold Instr.sameBits;simp)
 unfold E6;show Instr.sameBits (9999+1) _ _=true;unfold Instr.sameBits;simp only [List.zip_cons_cons,List.zip_nil_left,List.all_cons,List.all_nil,hi];simp
def XB(m:EW)(w:Int×Int×Int×Int×Int)(i:Nat)(M:FO->Option Int)(k:Nat):FO->Option Int:=λb=>if b=(w,(i:Int),(k:Int)) then some (m i k) else M b
def GT(m:EW)(w:Int×Int×Int×Int×Int)(i:Nat)(M:FO->Option Int)(n:Nat):FO->Option Int:=(List.range n).foldl (XB m w i) M
def CP(m:EW)(w:Int×Int×Int×Int×Int)(np:Nat)(M:FO->Option Int)(n:Nat):FO->Option Int:=(List.range n).foldl (λM i=>GT m w i M np) M
theorem OE{m:EW}{w:Int×Int×Int×Int×Int}{i k:Nat}{M:FO->Option Int}:∀{n:Nat},k<n->GT m w i M n (w,(i:Int),(k:Int))=some (m i k)
 | 0,h=>absurd h (Nat.not_lt_zero _)
 | n+1,h=>by
  unfold GT;rw [Av];unfold XB;by_cases e:k=n
  ·subst e;rw [if_pos rfl]
  ·rw [if_neg (λq=>e (by have h2:(k:Int)=(n:Int):=congrArg (λz:FO=>z.2.2) q;omega))];exact OE (n:=n) aA
theorem JT{m:EW}{w:Int×Int×Int×Int×Int}{i:Nat}{M:FO->Option Int}{b:FO}(hb:b.1≠w\/b.2.1≠(i:Int)):∀{n:Nat},GT m w i M n b=M b
 | 0=>rfl
 | n+1=>by
  unfold GT;rw [Av];unfold XB;rw [if_neg (λq=>by subst q;rcases hb with h | h <;> exact h rfl)];exact JT hb (n:=n)
theorem OF{m:EW}{w:Int×Int×Int×Int×Int}{np i k:Nat}{M:FO->Option Int}(hk:k<np):∀{n:Nat},i<n->CP m w np M n (w,(i:Int),(k:Int))=some (m i k)
 | 0,h=>absurd h (Nat.not_lt_zero _)
 | n+1,h=>by
  unfold CP;rw [Av];by_cases e:i=n
  ·subst e;exact OE hk
  ·rw [JT (.inr (by show (i:Int)≠(n:Int);omega))];exact OF hk (n:=n) aA
theorem MT{m:EW}{w:Int×Int×Int×Int×Int}{np:Nat}{M:FO->Option Int}{b:FO}(hb:b.1≠w):∀{n:Nat},CP m w np M n b=M b
 | 0=>rfl
 | n+1=>by
  unfold CP;rw [Av,JT (.inl hb)];exact MT hb (n:=n)
theorem w5_at{p q:AE}(e:q.w5=p.w5){k:Nat}(h:k<5):q.ways k=p.ways k:=by
 simp only [AE.w5,Prod.mk.injEq] at e;obtain ⟨e0,e1,e2,e3,e4⟩:=e
 match k,h with
 | 0,_=>exact e0
 | 1,_=>exact e1
 | 2,_=>exact e2
 | 3,_=>exact e3
 | 4,_=>exact e4
theorem P7{p q:AE}{ws:List AD}(e:q.w5=p.w5):∀{n:Nat},n<=5->A0 q ws n=A0 p ws n
 | 0,_=>rfl
 | n+1,h=>by
  have h1:=P7 (ws:=ws) e (n:=n) aA;unfold A0 at h1 ⊢;rw [Av,Av,h1];unfold KI;rw [w5_at e aA]
theorem R3{p q:AE}{ws:List AD}{np:Nat}(hw:ws.length<=5)(e:q.w5=p.w5):Aw np ws q=Aw np ws p:=by
 unfold Aw;rw [P7 e hw]
def Gf(np:Nat)(ws:List AD)(l:List AE)(M:FO->Option Int):Prop:=∀q ∈ l,∀i k:Nat,i<np->k<np->M (q.w5,(i:Int),(k:Int))=some (Aw np ws q i k)
theorem Gf.call{np:Nat}{ws:List AD}{pq:List AE}{k:Nat}{M:FO->Option Int}(h:Gf np ws (pq.take k) M)(hk:k<pq.length)(hw:ws.length<=5) :
  Gf np ws (pq.take (k+1)) (CP (Aw np ws (pq.getD k AE.zero)) (pq.getD k AE.zero).w5 np M np):=by
 intro q hq i j hi hj;by_cases e:q.w5=(pq.getD k AE.zero).w5
 ·rw [e,OF hj hi,R3 hw e]
 ·rw [MT e];rw [Dj AE.zero hk] at hq;rcases List.mem_append.1 hq with h1 | h1
  ·exact h q h1 i j hi hj
  ·rw [List.mem_singleton.1 h1] at e;exact absurd rfl e
theorem Gf.skip{np:Nat}{ws:List AD}{pq:List AE}{k:Nat}{M:FO->Option Int}(h:Gf np ws (pq.take k) M)(hk:k<pq.length)(hw:ws.length<=5)(h0:¬(k:Int)=0)(e:(pq.getD k AE.zero).w5=(pq.getD (k-1) AE.zero).w5) :
  Gf np ws (pq.take (k+1)) M:=by
 intro q hq i j hi hj;rw [Dj AE.zero hk] at hq;rcases List.mem_append.1 hq with h1 | h1
 ·exact h q h1 i j hi hj
 ·rw [List.mem_singleton.1 h1,e,R3 hw e];refine h _ ?_ i j hi hj;rw [DU AE.zero aA];exact List.mem_take_iff_getElem.2 ⟨k-1,aA,rfl⟩
def EL(h:GH)(r np:Nat)(ws:List AD)(pq:List AE):Prop:=∃pm M,MapAt h r pm E6 Du M/\Gf np ws pq M
theorem EL.le{h h':GH}{r np:Nat}{ws:List AD}{pq:List AE}(x:EL h r np ws pq)(l:h.Le h'):EL h' r np ws pq:=by
 obtain ⟨pm,M,⟨es,clk,hb,hl⟩,hM⟩:=x;exact ⟨pm,M,⟨es,clk,l.keep hb rfl,hl⟩,hM⟩
structure Da(hB:GH)(r:Nat)(M:FO->Option Int)(h hc:GH):Prop where
 ok:Cv hc r E6 Du M
 keep:Bc (λb=>b=r) h hc
 base:hB.Le hc
def FRes(hB:GH)(r:Nat)(M:FO->Option Int)(h h':GH):Prop:=Cv h' r E6 Du M/\Bc (λb=>b=r) h h'/\hB.Le h'
section
variable {hB h hc h':GH} {r:Nat} {M M':FO->Option Int}
theorem Cv.some(x:Cv h r E6 Du M):∃o,h r=some (true,o)/\J2 o=false:=by obtain ⟨es,clk,hb,_⟩:=x;exact ⟨_,hb,rfl⟩
theorem Da.start(x:Cv h r E6 Du M)(l:hB.Le h):Da hB r M h h:=⟨x,Bc.refl _ _,l⟩
theorem Da.le(y:Da hB r M h hc)(l:hc.Le h'):Da hB r M h h':=by
 obtain ⟨o,ho,_⟩:=y.ok.some;exact ⟨y.ok.le_other ((l.keep ho rfl).trans ho.symm),y.keep.trans (λ_ q=>.inl q) (l.keepX _),y.base.trans l⟩
theorem Da.store(y:Da hB r M h hc){q:Nat}(hq:h q=none)(qB:hB q=none)(hn:q≠r)(ho:∀b,b≠q->h' b=hc b):Da hB r M h h':=
 ⟨y.ok.le_other (ho r (Ne.symm hn)),y.keep.store hq ho,y.base.upd qB ho⟩
theorem Da.put(y:Da hB r M h hc)(rB:hB r=none)(x:Cv h' r E6 Du M')(ho:∀b,b≠r->h' b=hc b):Da hB r M' h h':=⟨x,y.keep.store' (.inl rfl) ho,y.base.upd rB ho⟩
theorem Da.call(y:Da hB r M h hc)(m:FRes hB r M' hc h'):Da hB r M' h h':=⟨m.1,y.keep.trans (λ_ q=>.inl q) m.2.1,m.2.2⟩
theorem Da.ne(y:Da hB r M h hc){q:Nat}(hq:hc q=none):q≠r:=λe=>by
 obtain ⟨o,ho,_⟩:=y.ok.some;rw [e,ho] at hq;cases hq
theorem Da.nothing(y:Da hB r M h hc){q:Nat}(hq:hc q=none):h q=none:=by
 cases hx:h q with
 | none=>rfl
 | some x=>
  obtain ⟨o',h1,_⟩:=y.keep q x.1 x.2 hx (y.ne hq);rw [h1] at hq;cases hq
theorem OG(x:h r=some (true,.map #[] 0)):Cv h r E6 Du U8:=Cv.empty x
theorem Cv.slDel{V:Type}(x:Cv h r E6 Du M){v:Value}{n:Nat}{enc:V->Array Value}{xs:List V}(y:AO h v n enc xs):AO (h.del r) v n enc xs:=by
 obtain ⟨es,clk,hb,_⟩:=x;exact AO.slDel y hb
theorem Cv.leF(x:Cv h r E6 Du M)(l:h.Le h'):Cv h' r E6 Du M:=by
 obtain ⟨o,ho,e⟩:=x.some;exact x.le_other ((l.keep ho e).trans ho.symm)
theorem Da.res(y:Da hB r M h hc):FRes hB r M h hc:=⟨y.ok,y.keep,y.base⟩
end
theorem OH{bag kinds:Int}{ps:List ByteArray}{ws:List AD}{js:List AK}{ns:List AH}(b:A7 bag kinds ps ws js ns){ag:AE->Bool}:∀{f i:Nat}{p:AE},i+f=ws.length+js.length->BF p->∀q ∈ CK ag ws js f i p,BF q
 | 0,_,p,_,hp,q,hq=>by rw [List.mem_singleton.1 hq];exact hp
 | f+1,i,p,h,hp,q,hq=>by
  rw [EC] at hq;obtain ⟨n,hn,hq⟩:=List.mem_flatMap.1 hq;have h1:=b.few (i:=i) aA;have h2:=Z0.1 hn;unfold CA at hq;split at hq
  ·cases hq
  ·exact OH b (f:=f) aA (hp.put aA) q hq
section
variable {bag kinds:Int} {ps:List ByteArray} {ws:List AD} {js:List AK} {ns:List AH}
theorem HF(b:A7 bag kinds ps ws js ns):∀q ∈ AC ws js ns,BF q:=by
 intro q hq;unfold AC at hq;split at hq
 ·exact OH b aA BF.zero q hq
 ·cases hq
theorem P8(b:A7 bag kinds ps ws js ns)(k:Nat):BF ((AC ws js ns).getD k AE.zero):=by
 rcases Nat.lt_or_ge k (AC ws js ns).length with h | h
 ·exact HF b _ (Be h)
 ·rw [Bq h];exact BF.zero
def Ae(bag kinds:Int)(ps:List ByteArray)(ws:List AD)(js:List AK)(ns:List AH)(s:Int):Int:=
 if¬BS bag kinds ps ws js ns=0 then BS bag kinds ps ws js ns else if¬s=0 then s else if (AC ws js ns).length=0 then 9 else 0
variable {s:Int}
theorem ZQ(h:¬BS bag kinds ps ws js ns=0):Ae bag kinds ps ws js ns s=BS bag kinds ps ws js ns:=if_pos h
theorem ZR(h:¬¬BS bag kinds ps ws js ns=0)(h2:¬s=0):Ae bag kinds ps ws js ns s=s:=by unfold Ae;rw [if_neg h,if_pos h2]
theorem ZS(h:¬¬BS bag kinds ps ws js ns=0)(h2:¬¬s=0)(h3:(AC ws js ns).length=0):Ae bag kinds ps ws js ns s=9:=by unfold Ae;rw [if_neg h,if_neg h2,if_pos h3]
theorem openB_4(h:¬¬BS bag kinds ps ws js ns=0)(h2:¬¬s=0)(h3:¬(AC ws js ns).length=0):Ae bag kinds ps ws js ns s=0:=by unfold Ae;rw [if_neg h,if_neg h2,if_neg h3]
theorem E7(h:Ae bag kinds ps ws js ns s=0):A7 bag kinds ps ws js ns/\s=0/\0<(AC ws js ns).length:=by
 unfold Ae at h;split at h
 ·rename_i a;exact absurd h a
 ·split at h
  ·rename_i a b;exact absurd h b
  ·split at h
   ·cases h
   ·rename_i a b c
    exact ⟨Cg (Decidable.not_not.1 a),Decidable.not_not.1 b,aA⟩
theorem w5_eq{p q:AE}(h:(!((p.ways 0==q.ways 0 && (p.ways 1==q.ways 1 && (p.ways 2==q.ways 2 && (p.ways 3==q.ways 3 && (p.ways 4==q.ways 4 && true)))))))=false):p.w5=q.w5:=by
 simp only [Bool.not_eq_false',Bool.and_eq_true,beq_iff_eq,and_true] at h;obtain ⟨e0,e1,e2,e3,e4⟩:=h;simp only [AE.w5,e0,e1,e2,e3,e4]
theorem Gf.is{h:GH}{r np:Nat}{ws:List AD}{pq:List AE}{M:FO->Option Int}{k:Nat}(x:Cv h r E6 Du M)(hM:Gf np ws (pq.take k) M)(hk:pq.length<=k):EL h r np ws pq:=by
 rw [List.take_of_length_le hk] at hM;exact ⟨true,M,x,hM⟩
theorem R4{a b c d e f w:Value}{r:Nat}(h:w.cells=#[w]):Instr.fill (λx=>#[(0,6),(6,1),(7,1)][x]?) #[.int .i64 0,.int .i64 0,.slice none 0 0,.slice none 0 0,.slice none 0 0,.slice none 0 0,.slice none 0 0,.map none] [(0,.agg #[a,b,c,d,e,f]),(1,w),(2,.map (some r))]=some #[a,b,c,d,e,f,w,.map (some r)]:=by
 have e1:∀cs,(Value.agg cs).cells=cs:=λ_=>rfl;have e2:∀q,(Value.map q).cells=#[.map q]:=λ_=>rfl;simp [Instr.fill,h,e1,e2]
end
end Go.Ns
namespace Go.Ns
open Go.Conc
section
variable {P:Program} {E:Gh P} {O:Nat->Value} {ds:List Deferred} {h:GH} {T:(Nat->Value)->List Deferred->GH->Prop}
variable {dst:Option Nat} {ty:TypeId} {pos:String} {af:Array Edge} {gd:Option (Nat×Bool)}
def MU(P:Program)(e:TypeId):Option Nat:=(P.info? e).map (·.bytes)
theorem Tx(z:Value)(n:Nat):(Array.range n).map (λi=>(#[z]:Array Value)[i%(#[z]:Array Value).size]!)=Array.replicate n z:=by
 apply Array.ext
 ·simp
 ·intro i h1 h2;simp [Nat.mod_one]
theorem Hm{t:TypeId}{l c:Operand}{N by_:Nat}{z:Value}{e:TypeId}(hs:DP P t=some (1,#[z],e))(hby:MU P e=some by_)(hl:AR O l=.int .i64 N)(hc:AR O c=.int .i64 N)(hb:by_*N<=281474976710656)(hN2:N<=16777216)
  (k:∀r h',h r=none->h.Le h'->h' r=some (true,.cells (Array.replicate N z) e (0,0))->(∀b,b≠r->h' b=h b)->T (putS O dst (.slice (some ⟨r,0,none⟩) N N)) ds h'):BW E ⟨dst,.makeSlice t l c,ty,pos,af,gd⟩ O ds h T:=by
 unfold BW execOp;refine GG ?_;unfold DP at hs;unfold Instr.makeSlice;rw [hl,hc];cases hu:P.underlying t with
 | none=>rw [hu] at hs;cases hs
 | some d=>
  rw [hu] at hs;cases d <;> first | (cases hs;done) | skip
  rename_i e'
  simp only at hs;cases ht:CX P e' with
  | none=>rw [ht] at hs;cases hs
  | some x=>
   cases hz:Bz P e' with
   | none=>rw [ht,hz] at hs;cases hs
   | some z'=>
    rw [ht,hz] at hs;simp only [Option.some.injEq,Prod.mk.injEq] at hs;obtain ⟨hx2,rfl,rfl⟩:=hs;refine AI _ _ (An hu ?_);refine AI _ _ (Ax ?_);refine AI _ _ (Ax ?_);unfold MU at hby;unfold Bz at hz;cases hi:P.info? e' with
    | none=>rw [hi] at hz;cases hz
    | some i=>
    rw [hi] at hz hby;simp only [Option.map_some,Option.some.injEq] at hby;simp only [Option.map_eq_some_iff] at hz;obtain ⟨v,hv,hvz⟩:=hz;refine AI _ _ (Cl hi ?_);have hw:IntKind.i64.wrap (N:Int)=N:=IntWalk.i64_in _ aA;simp only [hw,hby];have hb':((by_:Int)*(N:Int))<=281474976710656:=by rw [<-Int.natCast_mul];exact Int.ofNat_le.2 hb
    rw [if_neg (by simp;omega)];simp only [Int.toNat_natCast];have hask:∀(m:Nat)(Q:Unit->GH->Prop),Q () h->(askRoom m).gh P h Q:=λm Q q=>by
     unfold askRoom;split
     ·exact ⟨rfl,q⟩
     ·exact q
    refine AI _ _ (hask _ _ ?_);refine AI _ _ (Gk (by rw [ht];rfl) ?_);dsimp only;rw [hx2,Nat.mul_one];by_cases hN:N=0
    ·subst hN;rw [if_pos rfl];refine AI _ _ (Ax ?_);rw [show (Array.range 0).map (λi=>(#[]:Array Value)[i%(#[]:Array Value).size]!)=Array.replicate 0 z from aD];refine AI _ _ ?_;unfold newRow;refine AI _ _ (λr hr=>?_);exact k r _ hr (GH.Le.new hr _ _) (GH.set_same _ _ _ _) λb hb=>GH.set_ne _ _ _ hb
    rw [if_neg hN];unfold zeroValue;refine AI _ _ (AI _ _ (AI _ _ (Cl hi ?_)));rw [hv];refine Ax ?_;refine AI _ _ (Ax ?_);rw [hvz,Tx];refine AI _ _ ?_;unfold newRow;refine AI _ _ (λr hr=>?_);exact k r _ hr (GH.Le.new hr _ _) (GH.set_same _ _ _ _) λb hb=>GH.set_ne _ _ _ hb
theorem KJ{V:Type}{enc:V->Array Value}{x:V}{z:Value}(he:enc x=#[z]):∀N:Nat,Dc enc (List.replicate N x)=List.replicate N z
 | 0=>rfl
 | N+1=>by
  have:=KJ he N
  unfold Dc at this ⊢;rw [List.replicate_succ,List.flatMap_cons,this,he];rfl
theorem AQ.made{V:Type}{h h':GH}{r N:Nat}{t:TypeId}{enc:V->Array Value}{x:V}{z:Value}(hr:h r=none)(hb:h' r=some (true,.cells (Array.replicate N z) t (0,0)))(hN:N<=16777216)(he:enc x=#[z]) :
  AQ h h' (.slice (some ⟨r,0,none⟩) N N) t 1 enc (List.replicate N x):=
 .inr ⟨r,N,_,by rw [List.length_replicate],hr,hb,aD,aD,by rw [List.length_replicate];omega,by rw [KJ he,List.length_replicate,Nat.mul_one];simp,λy hy=>by rw [(List.mem_replicate.1 hy).2,he];rfl⟩
end
def Ds(nj:Nat)(k:Int):Int:=if¬(0<=k/\k<=(nj:Int)-1) then 6 else 0
def EH(nj:Nat)(l:List Int)(k:Nat):Int:=if¬Ds nj (l.getD k 0)=0 then Ds nj (l.getD k 0) else if (l.take k).any (λx=>decide (l.getD k 0=x))=true then 5 else 0
def Ah(nj:Nat)(l:List Int):Int:=C1 (EH nj l) 0 l.length
def GU(bag kinds:Int)(ps:List ByteArray)(ws:List AD)(js:List AK)(ns:List AH)(l:List Int):Int:=
 if¬BS bag kinds ps ws js ns=0 then BS bag kinds ps ws js ns else Ah js.length l
theorem OI{nj:Nat}{k:Int}(h:Ds nj k=0):0<=k/\k<nj:=by
 unfold Ds at h;split at h
 ·cases h
 ·omega
theorem FP{nj:Nat}{l:List Int}(h:Ah nj l=0)(k:Nat)(hk:k<l.length):0<=l.getD k 0/\l.getD k 0<nj:=by
 have h1:=DS h k (Nat.zero_le _) aA;unfold EH at h1;split at h1
 ·rename_i a;exact absurd h1 a
 ·rename_i a;exact OI (Decidable.not_not.1 a)
def D3(out ps:List Int):Nat->List Int
 | 0=>out
 | i+1=>(D3 out ps i).set i ((D3 out ps i).getD i 0+ps.getD i 0)
def Ba(kinds:Int)(js:List AK)(l:List Int):Nat->List Int
 | 0=>List.replicate kinds.toNat 0
 | q+1=>D3 (Ba kinds js l q) (js.getD (l.getD q 0).toNat AK.z).parts (js.getD (l.getD q 0).toNat AK.z).parts.length
def B2(kinds:Int)(js:List AK)(l:List Int):List Int:=Ba kinds js l l.length
theorem MV(out ps:List Int):∀i,(D3 out ps i).length=out.length
 | 0=>rfl
 | i+1=>by rw [D3,List.length_set,MV out ps i]
theorem P9(out ps:List Int)(hl:ps.length=out.length):∀i,i<=ps.length->∀j,(D3 out ps i).getD j 0=if j<i then out.getD j 0+ps.getD j 0 else out.getD j 0
 | 0,_,j=>by rw [if_neg aA];rfl
 | i+1,h,j=>by
  have e:=P9 out ps hl i aA;have hn:=MV out ps i;unfold D3;rw [List.getD_eq_getElem?_getD,List.getElem?_set];by_cases hij:i=j
  ·subst hij;rw [if_pos rfl,if_pos aA,if_pos aA,Option.getD_some,e i,if_neg aA]
  ·rw [if_neg hij,<-List.getD_eq_getElem?_getD,e j];by_cases h1:j<i
   ·rw [if_pos h1,if_pos aA]
   ·rw [if_neg h1,if_neg aA]
section
variable {bag kinds:Int} {ps:List ByteArray} {ws:List AD} {js:List AK} {ns:List AH} {l:List Int}
theorem Lh(b:A7 bag kinds ps ws js ns){k:Int}(h:0<=k/\k<js.length):JobOK ps.length kinds (js.getD k.toNat AK.z):=I3 (b.job k.toNat aA)
theorem IE(b:A7 bag kinds ps ws js ns):∀q,(Ba kinds js l q).length=kinds.toNat
 | 0=>List.length_replicate
 | q+1=>by rw [Ba,MV,IE b q]
theorem Li(b:A7 bag kinds ps ws js ns)(hr:∀k,k<l.length->0<=l.getD k 0/\l.getD k 0<js.length):∀q,q<=l.length->∀j,0<=(Ba kinds js l q).getD j 0/\(Ba kinds js l q).getD j 0<=5*(q:Int)
 | 0,_,j=>by
  unfold Ba;rw [List.getD_eq_getElem?_getD,List.getElem?_replicate];split <;> simp
 | q+1,h,j=>by
  have e:=Li b hr q aA j;have x:=Lh b (hr q aA);have x2:=x.part j;have x3:=x.len;unfold Ba;rw [P9 _ _ (by rw [IE b q];omega) _ (Nat.le_refl _)];split <;> omega
theorem U9(b:A7 bag kinds ps ws js ns)(hr:∀k,k<l.length->0<=l.getD k 0/\l.getD k 0<js.length){q:Nat}(hq:q<l.length){i:Nat}(hi:i<(js.getD (l.getD q 0).toNat AK.z).parts.length) :
  (D3 (Ba kinds js l q) (js.getD (l.getD q 0).toNat AK.z).parts i).length=(js.getD (l.getD q 0).toNat AK.z).parts.length/\0<=(D3 (Ba kinds js l q) (js.getD (l.getD q 0).toNat AK.z).parts i).getD i 0/\(D3 (Ba kinds js l q) (js.getD (l.getD q 0).toNat AK.z).parts i).getD i 0<=5*(q:Int)/\
  0<=(js.getD (l.getD q 0).toNat AK.z).parts.getD i 0/\(js.getD (l.getD q 0).toNat AK.z).parts.getD i 0<=5:=by
 have x:=Lh b (hr q hq);have e:=Li b hr q aA i;have x3:=x.len;have hl:=IE (l:=l) b q;refine ⟨by rw [MV,hl];omega,?_⟩;rw [P9 _ _ (by rw [hl];omega) i aA,if_neg aA];exact ⟨e.1,e.2,x.part i⟩
theorem QA(b:A7 bag kinds ps ws js ns):(B2 kinds js l).length=kinds.toNat:=IE b _
theorem QB(b:A7 bag kinds ps ws js ns)(hr:∀k,k<l.length->0<=l.getD k 0/\l.getD k 0<js.length)(j:Nat):0<=(B2 kinds js l).getD j 0/\(B2 kinds js l).getD j 0<=5*(l.length:Int):=Li b hr _ (Nat.le_refl _) j
theorem VA(xs:List Int){k:Nat}(h:k<xs.length):(xs.take (k+1)).sum=(xs.take k).sum+xs.getD k 0:=by
 rw [List.take_add_one,List.sum_append,List.getD_eq_getElem?_getD,List.getElem?_eq_getElem h];simp
theorem ZT(xs:List Int){k:Nat}(h:xs.length<=k):(xs.take k).sum=xs.sum:=by rw [List.take_of_length_le h]
theorem VB(h:GU bag kinds ps ws js ns l=0):A7 bag kinds ps ws js ns/\∀k,k<l.length->0<=l.getD k 0/\l.getD k 0<js.length:=by
 unfold GU at h;split at h
 ·rename_i a;exact absurd h a
 ·rename_i a;exact ⟨Cg (Decidable.not_not.1 a),FP h⟩
def R5(bag kinds:Int)(ps:List ByteArray)(ws:List AD)(js:List AK)(ns:List AH)(l:List Int):List Int:=if¬GU bag kinds ps ws js ns l=0 then [] else B2 kinds js l
def ZU(bag kinds:Int)(ps:List ByteArray)(ws:List AD)(js:List AK)(ns:List AH)(l:List Int):Bool:=if¬GU bag kinds ps ws js ns l=0 then false else decide ((B2 kinds js l).sum<=bag)
end
end Go.Ns
namespace Go.Ns
open Go.Conc
section
variable {P:Program} {E:Gh P} {O:Nat->Value} {ds:List Deferred} {h:GH} {T:(Nat->Value)->List Deferred->GH->Prop}
variable {dst:Option Nat} {ty:TypeId} {pos:String} {af:Array Edge} {gd:Option (Nat×Bool)}
theorem Lj{t kt vt:TypeId}{x ix:Operand}{r np:Nat}{ws:List AD}{pq:List AE}{q:AE}{a b:Int}{z:Value}(ht:MF P t=some (kt,vt))(hx:AR O x=.map (some r))(hk:AR O ix=E6 (q.w5,a,b))(hm:EL h r np ws pq)
  (hc:∀a:FO,ckP P 4 kt (E6 a)=true)
  (he:∀a b:FO,PQ P 4 kt (E6 a) (E6 b)=some ((a.1.1==b.1.1 && (a.1.2.1==b.1.2.1 && (a.1.2.2.1==b.1.2.2.1 && (a.1.2.2.2.1==b.1.2.2.2.1 && (a.1.2.2.2.2==b.1.2.2.2.2 && true))))) && (a.2.1==b.2.1 && (a.2.2==b.2.2 && true))))
  (hz:(P.info? vt).bind (·.zero)=some z) (hq:q ∈ pq) (ha:0<=a/\a<np) (hb:0<=b/\b<np)
  (k:T (putS O dst (.int .i64 (Aw np ws q a.toNat b.toNat))) ds h):BW E ⟨dst,.lookup t x ix false,ty,pos,af,gd⟩ O ds h T:=by
 obtain ⟨pm,M,hM,hF⟩:=hm;have e:=hF q hq a.toNat b.toNat aA aA;rw [Int.toNat_of_nonneg ha.1,Int.toNat_of_nonneg hb.1] at e;refine Ro (d:=3) (a:=(q.w5,a,b)) ht hx hk hM rfl (hc _) (λb=>by rw [he,FO.eq_iff]) hz ?_;rw [e];exact k
theorem R6{V:Type}{t:TypeId}{x:Operand}{olo ohi:Option Operand}{n:Nat}{enc:V->Array Value}{xs:List V}{v:Value}{hk:GH}(lo hi:Nat)(ht:Es P t=some n)(hs:AO hk v n enc xs)(hx:AR O x=v)
  (hlo:match olo with | none=>lo=0 | some o=>∃kd,AR O o=.int kd lo) (hhi:match ohi with | none=>hi=xs.length | some o=>∃kd,AR O o=.int kd hi) (h1:lo<=hi) (h2:hi<=xs.length)
  (k:∀v',AO hk v' n enc ((xs.take hi).drop lo)->T (putS O dst v') ds h):BW E ⟨dst,.slice t x olo ohi none,ty,pos,af,gd⟩ O ds h T:=by
 have hs':=hs;obtain ⟨a,cap,rfl,hc,_,_⟩:=hs';exact Ko lo hi ht hc hx hlo hhi h1 h2 (k _ (hs.part h1 h2))
end
def XC(F:AE->Int)(l:List AE):Nat->Int
 | 0=>F (l.getD 0 AE.zero)
 | k+1=>min (XC F l k) (F ((l.drop 1).getD k AE.zero))
def XD(F:AE->Int)(l:List AE):Nat->Int
 | 0=>F (l.getD 0 AE.zero)
 | k+1=>max (XD F l k) (F ((l.drop 1).getD k AE.zero))
def Cq(F:AE->Int)(l:List AE):Int:=XC F l (l.length-1)
def Bu(F:AE->Int)(l:List AE):Int:=XD F l (l.length-1)
theorem AAO{l:List AE}{k:Nat}(h:k<l.length-1):(l.drop 1).getD k AE.zero ∈ l:=List.mem_of_mem_drop (Be (by rw [List.length_drop];exact h))
def Fu(s v:Int):Int:=if s=0 then v else 0
theorem LM(v:Int):Fu 0 v=v:=if_pos rfl
theorem OJ{s v:Int}(h:¬s=0):Fu s v=0:=if_neg h
end Go.Ns
namespace Go.Ns
open Go.Conc
theorem Tz:∀(n m:Nat)(f:Nat->Nat),(∀i,i<m->f i<n)->(∀i j,i<j->j<m->f i≠f j)->m<=n
 | 0,m,f,h,_=>by
  rcases Nat.eq_zero_or_pos m with e | e
  ·omega
  ·exact absurd (h 0 e) (Nat.not_lt_zero _)
 | n+1,m,f,h,d=>by
  rcases Nat.eq_zero_or_pos m with e | e
  ·omega
  ·have x:=Tz n (m-1) (λi=>if f i=n then f (m-1) else f i) (λi hi=>by
    have h1:=h i aA;have h2:=h (m-1) aA;have h3:=d i (m-1) hi aA;show (if f i=n then f (m-1) else f i)<n;split <;> omega) (λi j hij hj=>by
    have h1:=d i j hij aA;have h2:=d i (m-1) aA aA;have h3:=d j (m-1) aA aA;show (if f i=n then f (m-1) else f i)≠(if f j=n then f (m-1) else f j);split <;> split <;> omega)
   omega
theorem H0{nj:Nat}{l:List Int}(h:Ah nj l=0):l.length<=nj:=by
 refine Tz nj l.length (λk=>(l.getD k 0).toNat) (λi hi=>?_) λi j hij hj=>?_
 ·have:=FP h i hi
  show (l.getD i 0).toNat<nj;omega
 ·have hi:=FP h i aA;have hj':=FP h j hj;have h1:=DS h j (Nat.zero_le _) aA;unfold EH at h1;split at h1
  ·rename_i a;exact absurd h1 a
  ·split at h1
   ·cases h1
   ·rename_i a b
    show (l.getD i 0).toNat≠(l.getD j 0).toNat;intro e;refine b (List.any_eq_true.2 ⟨l.getD i 0,?_,decide_eq_true aA⟩);rw [List.mem_iff_getElem];refine ⟨i,by rw [List.length_take];omega,?_⟩;rw [List.getElem_take,List.getD_eq_getElem?_getD,List.getElem?_eq_getElem aA];rfl
def Dq(js:List AK)(l:List Int):Nat->Int
 | 0=>0
 | q+1=>(js.getD (l.getD q 0).toNat AK.z).place
def BY(np:Nat)(ws:List AD)(js:List AK)(p:AE)(l:List Int):Nat->Int
 | 0=>0
 | q+1=>BY np ws js p l q+(Aw np ws p (Dq js l q).toNat (js.getD (l.getD q 0).toNat AK.z).place.toNat+p.works (l.getD q 0).toNat)
def Bf(np:Nat)(ws:List AD)(js:List AK)(p:AE)(l:List Int):Nat->List Int
 | 0=>[]
 | q+1=>Bf np ws js p l q++[BY np ws js p l (q+1)]
def AW(np:Nat)(ws:List AD)(js:List AK)(p:AE)(l:List Int):Int:=BY np ws js p l l.length+Aw np ws p (Dq js l l.length).toNat 0
theorem E8(np:Nat)(ws:List AD)(js:List AK)(p:AE)(l:List Int):∀q,(Bf np ws js p l q).length=q
 | 0=>rfl
 | q+1=>by rw [Bf,List.length_append,E8 np ws js p l q];rfl
theorem IF(np:Nat)(ws:List AD)(js:List AK)(p:AE)(l:List Int):∀q i,i<q->(Bf np ws js p l q).getD i 0=BY np ws js p l (i+1)
 | 0,i,h=>absurd h (Nat.not_lt_zero _)
 | q+1,i,h=>by
  have hl:=E8 np ws js p l q;rw [Bf,List.getD_eq_getElem?_getD];by_cases e:i<q
  ·rw [List.getElem?_append_left aA,<-List.getD_eq_getElem?_getD];exact IF np ws js p l q i e
  ·have e2:i=q:=aA
   subst e2;rw [List.getElem?_append_right aA,hl,Nat.sub_self];rfl
section
variable {bag kinds:Int} {ps:List ByteArray} {ws:List AD} {js:List AK} {ns:List AH} {l:List Int} {p:AE}
theorem NK{np:Nat}(hp:BF p):(Aw np ws p).ok:=U7 (Lg hp)
theorem VC(b:A7 bag kinds ps ws js ns)(hr:∀k,k<l.length->0<=l.getD k 0/\l.getD k 0<js.length):∀q,q<=l.length->0<=Dq js l q/\Dq js l q<ps.length
 | 0,_=>by have:=b.plen;show (0:Int)<=0/\(0:Int)<_;omega
 | q+1,h=>by have:=(Lh b (hr q aA)).place;show 0<=(js.getD (l.getD q 0).toNat AK.z).place/\(js.getD (l.getD q 0).toNat AK.z).place<ps.length;omega
theorem NL(hp:BF p):∀q,0<=BY ps.length ws js p l q/\BY ps.length ws js p l q<=1048606*(q:Int)
 | 0=>⟨Int.le_refl 0,Int.le_refl 0⟩
 | q+1=>by
  have e:=NL hp q;have f:=NK (np:=ps.length) (ws:=ws) hp (Dq js l q).toNat (js.getD (l.getD q 0).toNat AK.z).place.toNat;have w:=hp.works (l.getD q 0).toNat;unfold BY;omega
end
end Go.Ns
namespace Go.Ns
open Go.Conc
theorem EL.store{h h':GH}{q r np:Nat}{ws:List AD}{pq:List AE}(x:EL h r np ws pq)(ho:∀b,b≠q->h' b=h b)(n:r≠q):EL h' r np ws pq:=by
 obtain ⟨pm,M,⟨es,clk,hb,hl⟩,hM⟩:=x;exact ⟨pm,M,⟨es,clk,(ho r n).trans hb,hl⟩,hM⟩
def eSp(x:Int×Int):Array Value:=#[.int .i64 x.1,.int .i64 x.2]
section
variable (np:Nat) (ws:List AD) (js:List AK) (pq:List AE) (l:List Int)
def ZV(i:Nat):Int:=Cq (λx=>BY np ws js x l (i+1)) pq
def VD(i:Nat):Int:=Bu (λx=>BY np ws js x l (i+1)) pq
def HV:Nat->List (Int×Int)
 | 0=>[]
 | q+1=>HV q++[(ZV np ws js pq l q,VD np ws js pq l q)]
theorem JU:∀q,(HV np ws js pq l q).length=q
 | 0=>rfl
 | q+1=>by rw [HV,List.length_append,JU q];rfl
def QC(i:Nat):Bool:=decide (VD np ws js pq l i<=(js.getD (l.getD i 0).toNat AK.z).due)
def B4(bag kinds:Int):Bool:=decide ((B2 kinds js l).sum<=bag) && (List.range l.length).all (QC np ws js pq l)
variable {np ws js pq l}
theorem AAP{q:Nat}(h:¬(js.getD (l.getD q 0).toNat AK.z).due<Bu (λx=>BY np ws js x l ((q:Int).toNat+1)) pq):QC np ws js pq l q=true:=decide_eq_true (Int.not_lt.1 h)
theorem AAQ{q:Nat}(h:(js.getD (l.getD q 0).toNat AK.z).due<Bu (λx=>BY np ws js x l ((q:Int).toNat+1)) pq):QC np ws js pq l q=false:=decide_eq_false (Int.not_le.2 h)
variable {bag kinds:Int}
theorem XE(h:¬(B2 kinds js l).sum<=bag):B4 np ws js pq l bag kinds=false:=by unfold B4;rw [decide_eq_false h];rfl
theorem AAR{k:Nat}(hk:k<l.length)(h:(js.getD (l.getD k 0).toNat AK.z).due<Bu (λx=>BY np ws js x l ((k:Int).toNat+1)) pq):B4 np ws js pq l bag kinds=false:=by
 unfold B4;rw [Bool.and_eq_false_iff];refine .inr (Bool.eq_false_iff.2 λe=>?_)
 have:=List.all_eq_true.1 e k (List.mem_range.2 hk)
 rw [AAQ h] at this;cases this
theorem safe_all{k:Nat}(h:¬¬(B2 kinds js l).sum<=bag)(hs:∀j,j<k->QC np ws js pq l j=true)(hk:l.length<=k):B4 np ws js pq l bag kinds=true:=by
 unfold B4;rw [decide_eq_true (Decidable.not_not.1 h),Bool.true_and];exact List.all_eq_true.2 λj hj=>hs j (by have:=List.mem_range.1 hj;omega)
end
def CU:Nat->List Int
 | 0=>[]
 | k+1=>CU k++[(k:Int)]
theorem C8:∀n,(CU n).length=n
 | 0=>rfl
 | n+1=>by rw [CU,List.length_append,C8 n];rfl
def EM(nj:Nat)(l:List Int)(i:Int):Int:=if¬Ah nj l=0 then Ah nj l else if¬(0<=i/\i<=(l.length:Int)-1) then 1 else 0
theorem VE{nj:Nat}{l:List Int}{i:Int}(h:EM nj l i=0):Ah nj l=0/\0<=i/\i<l.length:=by
 unfold EM at h;split at h
 ·rename_i a;exact absurd h a
 ·rename_i a
  split at h
  ·cases h
  ·exact ⟨Decidable.not_not.1 a,aA⟩
section
variable (bag kinds:Int) (ps:List ByteArray) (ws:List AD) (js:List AK) (ns:List AH) (l:List Int)
def Eg:List (Int×Int):=if¬Ae bag kinds ps ws js ns (Ah js.length l)=0 then [] else HV ps.length ws js (AC ws js ns) l l.length
def ZW:Bool:=if¬Ae bag kinds ps ws js ns (Ah js.length l)=0 then false else B4 ps.length ws js (AC ws js ns) l bag kinds
def Dw(i:Int):Int:=
 if¬Ae bag kinds ps ws js ns (EM js.length l i)=0 then 0 else if (js.getD (l.getD i.toNat 0).toNat AK.z).due<ZV ps.length ws js (AC ws js ns) l i.toNat then 1
 else if VD ps.length ws js (AC ws js ns) l i.toNat<=(js.getD (l.getD i.toNat 0).toNat AK.z).due then 2 else 0
variable {bag kinds ps ws js ns l} {i:Int}
theorem late_yes(h0:Ae bag kinds ps ws js ns (EM js.length l i)=0)(h:(js.getD (l.getD i.toNat 0).toNat AK.z).due<Cq (λx=>BY ps.length ws js x l (i.toNat+1)) (AC ws js ns)):(1:Int)=Dw bag kinds ps ws js ns l i:=by
 unfold Dw;rw [if_neg (λx=>x h0)];exact (if_pos h).symm
theorem late_no(h0:Ae bag kinds ps ws js ns (EM js.length l i)=0)(h:¬(js.getD (l.getD i.toNat 0).toNat AK.z).due<Cq (λx=>BY ps.length ws js x l (i.toNat+1)) (AC ws js ns))
  (h2:Bu (λx=>BY ps.length ws js x l (i.toNat+1)) (AC ws js ns)<=(js.getD (l.getD i.toNat 0).toNat AK.z).due):(2:Int)=Dw bag kinds ps ws js ns l i:=by
 unfold Dw;rw [if_neg (λx=>x h0)];exact ((if_neg h).trans (if_pos h2)).symm
theorem AAS(h0:Ae bag kinds ps ws js ns (EM js.length l i)=0)(h:¬(js.getD (l.getD i.toNat 0).toNat AK.z).due<Cq (λx=>BY ps.length ws js x l (i.toNat+1)) (AC ws js ns))
  (h2:¬Bu (λx=>BY ps.length ws js x l (i.toNat+1)) (AC ws js ns)<=(js.getD (l.getD i.toNat 0).toNat AK.z).due):(0:Int)=Dw bag kinds ps ws js ns l i:=by
 unfold Dw;rw [if_neg (λx=>x h0)];exact ((if_neg h).trans (if_neg h2)).symm
theorem late_bad(h0:¬Ae bag kinds ps ws js ns (EM js.length l i)=0):(0:Int)=Dw bag kinds ps ws js ns l i:=by unfold Dw;rw [if_pos h0]
end
end Go.Ns
namespace Go.Ns
open Go.Conc
def Fv(i:Nat)(pq:List AE):Nat->List Int
 | 0=>[]
 | k+1=>Fv i pq k++[(pq.getD k AE.zero).works i]
theorem HG(i:Nat)(pq:List AE):∀k,(Fv i pq k).length=k
 | 0=>rfl
 | k+1=>by rw [Fv,List.length_append,HG i pq k];rfl
theorem QD{i:Nat}{pq:List AE}{k:Nat}(h:0<k):Fv i pq k≠[]:=λe=>by
 have:=HG i pq k
 rw [e] at this;simp at this;omega
def F1(bag kinds:Int)(ps:List ByteArray)(ws:List AD)(js:List AK)(ns:List AH)(i:Int):List Int:=
 if¬Ae bag kinds ps ws js ns (Ds js.length i)=0 then [] else Do (Ew (Fv i.toNat (AC ws js ns) (AC ws js ns).length))
end Go.Ns
namespace Go.Ns
open Go.Conc
theorem VF{h:GH}{r:Nat}{M:Int->Option Int}(x:Cv h r Du Du M):∃y,h r=some y:=by
 obtain ⟨es,clk,hb,_⟩:=x;exact ⟨_,hb⟩
def D4(ns:List AH)(mask:Int)(k:Nat):List AH:=((List.range k).filter (N6 mask)).map λ(i:Nat)=>ns.getD i AH.z
section
variable {ns:List AH} {mask:Int} {k:Nat} {h:GH}
theorem pickN_t(hb:mask.fdiv (2 ^ k)%2=1):D4 ns mask (k+1)=D4 ns mask k++[ns.getD k AH.z]:=by
 unfold D4;rw [J6 (by unfold N6;rw [decide_eq_true hb]),List.map_append];rfl
theorem pickN_f(hb:¬mask.fdiv (2 ^ k)%2=1):D4 ns mask (k+1)=D4 ns mask k:=by
 unfold D4;rw [J7 (by unfold N6;rw [decide_eq_false hb])]
theorem R7(ns:List AH)(mask:Int)(k:Nat):(D4 ns mask k).length<=k:=by
 unfold D4;rw [List.length_map]
 have:=List.length_filter_le (N6 mask) (List.range k)
 rwa [List.length_range] at this
theorem VG(ns:List AH)(mask:Int)(k q:Nat)(hq:q<(D4 ns mask k).length):∃i,i<k/\(D4 ns mask k).getD q AH.z=ns.getD i AH.z:=by
 have hm:(D4 ns mask k).getD q AH.z ∈ D4 ns mask k:=Be hq;unfold D4 at hm ⊢;obtain ⟨i,hi,e⟩:=List.mem_map.1 hm;exact ⟨i,List.mem_range.1 (List.mem_filter.1 hi).1,e.symm⟩
theorem Ap.pick(x:Ap h ns)(mask:Int)(k:Nat):Ap h (D4 ns mask k):=λq=>by
 by_cases hq:q<(D4 ns mask k).length
 ·obtain ⟨i,_,e⟩:=VG ns mask k q hq;rw [e];exact x i
 ·rw [List.getD_eq_getElem?_getD,List.getElem?_eq_none aA];exact Ap.nil h 0
theorem Ap.fine1(x:Ap h ns)(k:Nat):(CE (ns.getD k AH.z)).toList.all (·.oneCell')=true:=by
 show (((ns.getD k AH.z).wv.oneCell') && (true && (true && true)))=true;rw [(AO.one (x k)).2];rfl
theorem Ap.fine(x:Ap h ns):∀y ∈ ns,(CE y).toList.all (·.oneCell')=true:=λy hy=>by
 obtain ⟨i,hi,e⟩:=List.mem_iff_getElem.1 hy
 have:=x.fine1 i
 rw [List.getD_eq_getElem?_getD,List.getElem?_eq_getElem hi] at this;rw [<-e];exact this
theorem T0{nw:Nat}{ns ns':List AH}{k i:Nat}(e:ns'.getD k AH.z=ns.getD i AH.z):DH nw ns' k=DH nw ns i:=by unfold DH;rw [e]
theorem A7.pick{bag kinds:Int}{ps:List ByteArray}{ws:List AD}{js:List AK}(b:A7 bag kinds ps ws js ns)(mask:Int):A7 bag kinds ps ws js (D4 ns mask ns.length):=
 { b with
  nlen:=Nat.le_trans (R7 ns mask ns.length) b.nlen
  note:=λk hk=>by
   obtain ⟨i,hi,e⟩:=VG ns mask ns.length k hk;rw [T0 e];exact b.note i hi }
end
section
variable (ws:List AD) (js:List AK) (ns:List AH)
def F2(x:Bool×List Int)(l:List Int):Bool:=x.1 && (decide ((x.2.length:Int)<l.length) || (decide ((l.length:Int)=x.2.length) && decide (0<Uq l x.2)))
def CC:Nat->Bool×List Int
 | 0=>(false,[])
 | q+1=>if F2 (CC q) (Dv (q:Int) ns.length)=true then CC q else if (AC ws js (D4 ns (q:Int) ns.length)).length=0 then (true,Dv (q:Int) ns.length) else CC q
variable {ws js ns} {q:Nat}
theorem IV(h:F2 (CC ws js ns q) (Dv (q:Int) ns.length)=true):CC ws js ns (q+1)=CC ws js ns q:=if_pos h
theorem OK(h:F2 (CC ws js ns q) (Dv (q:Int) ns.length)=false)(h2:((AC ws js (D4 ns (q:Int) ns.length)).length:Int)=0):CC ws js ns (q+1)=(true,Dv (q:Int) ns.length):=by
 rw [CC,if_neg (by rw [h];simp),if_pos aA]
theorem OL(h:F2 (CC ws js ns q) (Dv (q:Int) ns.length)=false)(h2:¬((AC ws js (D4 ns (q:Int) ns.length)).length:Int)=0):CC ws js ns (q+1)=CC ws js ns q:=by
 rw [CC,if_neg (by rw [h];simp),if_neg aA]
theorem AAT{x:Bool×List Int}{l:List Int}(h:x.1=false):F2 x l=false:=by unfold F2;rw [h];rfl
theorem AAU{x:Bool×List Int}{l:List Int}(h:¬(x.2.length:Int)<l.length)(h2:¬(l.length:Int)=x.2.length):F2 x l=false:=by
 unfold F2;rw [decide_eq_false h,decide_eq_false h2];simp
theorem AAV{x:Bool×List Int}{l:List Int}(h:¬(x.2.length:Int)<l.length)(h2:¬0<Uq l x.2):F2 x l=false:=by
 unfold F2;rw [decide_eq_false h,decide_eq_false h2];simp
theorem R8{x:Bool×List Int}{l:List Int}(h:x.1=true)(h1:(x.2.length:Int)<l.length):F2 x l=true:=by
 unfold F2;rw [h,decide_eq_true h1];simp
theorem R9{x:Bool×List Int}{l:List Int}(h:x.1=true)(h1:(l.length:Int)=x.2.length)(h2:0<Uq l x.2):F2 x l=true:=by
 unfold F2;rw [h,decide_eq_true h1,decide_eq_true h2];simp
theorem pow_16:∀{n:Nat},n<=4->(1:Int)<=(2:Int) ^ n/\(2:Int) ^ n<=16
 | 0,_=>aC
 | 1,_=>aC
 | 2,_=>aC
 | 3,_=>aC
 | 4,_=>aC
theorem QE:∀q,(CC ws js ns q).2.length<=ns.length
 | 0=>Nat.zero_le _
 | q+1=>by
  have e:=QE q;unfold CC;split
  ·exact e
  ·split
   ·exact Rv _ _
   ·exact e
def D5(bag kinds:Int)(ps:List ByteArray)(ws:List AD)(js:List AK)(ns:List AH):List Int:=
 if¬BS bag kinds ps ws js ns=0 then [] else if (0:Int)<(AC ws js ns).length then [] else (CC ws js ns (2 ^ ns.length)).2
end
section
variable {bag kinds:Int} {ps:List ByteArray} {ws:List AD} {js:List AK} {ns:List AH} {q:Nat}
theorem VH(h:¬BS bag kinds ps ws js ns=0):D5 bag kinds ps ws js ns=[]:=if_pos h
theorem T1(h:(0:Int)<(AC ws js ns).length):D5 bag kinds ps ws js ns=[]:=by
 unfold D5;rw [if_pos h];exact ite_self _
theorem VI(h:BS bag kinds ps ws js ns=0)(h1:¬(0:Int)<(AC ws js ns).length)(hq:¬(q:Int)<(2:Int) ^ ((ns.length:Int)).toNat)(hq2:(q:Int)<=(2:Int) ^ ((ns.length:Int)).toNat):D5 bag kinds ps ws js ns=(CC ws js ns q).2:=by
 have e:((2 ^ ns.length:Nat):Int)=(2:Int) ^ ((ns.length:Int)).toNat:=by rw [Int.toNat_natCast,Int.natCast_pow];rfl
 rw [<-e] at hq hq2
 have:2 ^ ns.length=q:=aA
 unfold D5;rw [if_neg (λx=>x h),if_neg h1,this]
end
section
variable (ws:List AD) (js:List AK) (ns:List AH)
abbrev LC(pq:List AE)(i:Nat):Nat->Int:=λk=>(pq.getD k AE.zero).ways i
def VJ(pq:List AE)(i:Nat):Int:=LL (LC pq i) pq.length
def Hn(pq:List AE)(k:Nat):Int×Int:=askTo (VJ pq) (pq.length:Int) k
theorem SA{pq:List AE}{k:Nat}(h:VJ pq k<(Hn pq k).2):Hn pq (k+1)=((k:Int),VJ pq k):=if_pos h
theorem SB{pq:List AE}{k:Nat}(h:¬VJ pq k<(Hn pq k).2):Hn pq (k+1)=Hn pq k:=if_neg h
def T3(bag kinds:Int)(ps:List ByteArray)(ws:List AD)(js:List AK)(ns:List AH):Int:=if¬Ae bag kinds ps ws js ns 0=0 then 0 else (Hn (AC ws js ns) ws.length).1
def O5(bag kinds:Int)(ps:List ByteArray)(ws:List AD)(js:List AK)(ns:List AH):Int:=if¬Ae bag kinds ps ws js ns 0=0 then 0 else (Hn (AC ws js ns) ws.length).2
end
end Go.Ns
namespace Go.Ns
open Go.Conc
def On(hs:GH)(k0 ln:Nat)(c:Array Value)(t:TypeId)(k:Nat)(v:Value)(h:GH):Prop:=k=k0->∃r,v=.slice (some ⟨r,0,none⟩) ln ln/\hs r=none/\h r=some (true,.cells c t (0,0))
theorem On.mono(hs:GH)(k0 ln:Nat)(c:Array Value)(t:TypeId):∀k v h1 h2,GH.Le h1 h2->On hs k0 ln c t k v h1->On hs k0 ln c t k v h2:=λ_ _ _ _ l x e=>by
 obtain ⟨r,q1,q2,q3⟩:=x e;exact ⟨r,q1,q2,l.keep q3 rfl⟩
theorem NM{P:Program}{E:Gh P}{O:Nat->Value}{ds:List Deferred}{hs hx:GH}{dst:Option Nat}{ty:TypeId}{pos:String}{af:Array Edge}{gd:Option (Nat×Bool)}{t:TypeId}{len n k0 k:Nat}{z cells:Array Value}{e:TypeId}{parts:Array (Nat×Operand)}
  (h0:DP P t=some (n,z,e)) (hl:len*n<=2 ^ 24) (hn:(len*n=0)=False) (hf:Instr.fill (λi=>some (i*n,n)) ((Array.range (len*n)).map (z[·%z.size]!)) (parts.map λ(i,x)=>(i,AR O x)).toList=some cells) (l:hs.Le hx) :
  BW E ⟨dst,.buildSlice t len parts,ty,pos,af,gd⟩ O ds hx λσ' ds' h'=>ds'=ds/\∃v,σ'=putS O dst v/\hx.Le h'/\On hs k0 len cells e k v h':=
 AY h0 hl hn hf λr h' hr le bx _=>⟨rfl,_,rfl,le,λ_=>⟨r,rfl,GH.Le.nothing l hr,bx⟩⟩
def LfW(hs:GH)(k0 ln:Nat)(c:Array Value)(t:TypeId)(n:Nat)(Fr:GH->Prop)(k:Nat)(v:Value)(h:GH):Prop:=On hs k0 ln c t k v h/\(k=n->Fr h)
theorem LfW.mono(hs:GH)(k0 ln:Nat)(c:Array Value)(t:TypeId)(n:Nat){Fr:GH->Prop}(m:∀h1 h2,GH.Le h1 h2->Fr h1->Fr h2):∀k v h1 h2,GH.Le h1 h2->LfW hs k0 ln c t n Fr k v h1->LfW hs k0 ln c t n Fr k v h2:=λ_ _ _ _ l x=>⟨On.mono _ _ _ _ _ _ _ _ _ l x.1,λe=>m _ _ l (x.2 e)⟩
theorem XF{P:Program}{E:Gh P}{O:Nat->Value}{ds:List Deferred}{hs hx:GH}{dst:Option Nat}{ty:TypeId}{pos:String}{af:Array Edge}{gd:Option (Nat×Bool)}{t:TypeId}{len n k0 N:Nat}{z cells:Array Value}{e:TypeId}{parts:Array (Nat×Operand)}{Fr:GH->Prop}(hk:k0≠N)
  (h0:DP P t=some (n,z,e)) (hl:len*n<=2 ^ 24) (hn:(len*n=0)=False) (hf:Instr.fill (λi=>some (i*n,n)) ((Array.range (len*n)).map (z[·%z.size]!)) (parts.map λ(i,x)=>(i,AR O x)).toList=some cells) (l:hs.Le hx) :
  BW E ⟨dst,.buildSlice t len parts,ty,pos,af,gd⟩ O ds hx λσ' ds' h'=>ds'=ds/\∃v,σ'=putS O dst v/\hx.Le h'/\LfW hs k0 len cells e N Fr k0 v h':=
 AY h0 hl hn hf λr h' hr le bx _=>⟨rfl,_,rfl,le,λ_=>⟨r,rfl,GH.Le.nothing l hr,bx⟩,λe=>absurd e hk⟩
theorem tFg{P:Program}{E:Gh P}{l:List Oper}{n:Nat}{fl:Bool}{hs:GH}{ds:List Deferred}{Lw:Nat->Value->GH->Prop}{F:(Nat->Value)->GH->Prop}{π:List Nat}{O:Nat->Value}{h:GH}{m k g d:Nat}{dst:Option Nat}{op:Op}{ty:TypeId}{pos:String}{af:Array Edge}{v:Value}{w:Bool}{og:Oper}
  (hk:LH m=(.p,k)) (ho:l[k]? =some ⟨dst,op,ty,pos,af,some (g,w)⟩) (h1:l[g]? =some og) (h2:og.dst=some d) (h3:O d=.bool w) (x:∀hx,Lw n undef hx->Ta E ⟨dst,op,ty,pos,af,some (g,w)⟩ O ds hx v)
  (y:TD E l n fl hs ds Lw F (dK π) (putS O dst v) h):TD E l n fl hs ds Lw F (dK (m ::π)) O h:=by
 unfold dK;rw [hk];exact ⟨_,true,ho,Hj h1 h2 h3,λe=>(by cases e),λ_=>⟨v,x,y⟩⟩
theorem tWLg{P:Program}{E:Gh P}{l:List Oper}{n:Nat}{hs:GH}{ds:List Deferred}{Lw:Nat->Value->GH->Prop}{F:(Nat->Value)->GH->Prop}{π:List Nat}{O:Nat->Value}{h:GH}{m k g d:Nat}{dst:Option Nat}{op:Op}{ty:TypeId}{pos:String}{af:Array Edge}{w:Bool}{og:Oper}(hk:LH m=(.w,k))(ho:l[k]? =some ⟨dst,op,ty,pos,af,some (g,w)⟩)(h1:l[g]? =some og)(h2:og.dst=some d)(h3:O d=.bool w)
  (x:BW E ⟨dst,op,ty,pos,af,some (g,w)⟩ O ds h λσ' ds' h'=>ds'=ds/\∃v,σ'=putS O dst v/\Lw n undef h'/\TD E l n false hs ds Lw F (dK π) (putS O dst v) h'):TD E l n false hs ds Lw F (dK (m ::π)) O h:=by
 unfold dK;rw [hk];exact ⟨_,true,ho,Hj h1 h2 h3,λe=>(by cases e),λ_ hx hg=>by rw [hg.2 rfl];exact x⟩
def Ty(h:GH)(t:TypeId)(v:Value):Prop:=∀b,CV v=some b->∃p c f,h b=some (p,.cells c t f)
def B0(h:GH)(t:TypeId)(v:Value)(xs:List Int):Prop:=AO h v 1 eI xs/\Ty h t v
theorem B0.le{h h':GH}{t:TypeId}{v:Value}{xs:List Int}(x:B0 h t v xs)(l:h.Le h'):B0 h' t v xs:=⟨x.1.le l,λb hb=>by
 obtain ⟨p,c,f,q⟩:=x.2 b hb;exact ⟨p,c,f,l.keep q rfl⟩⟩
theorem B0.nil(h:GH)(t:TypeId):B0 h t (.slice none 0 0) []:=⟨AO.nil _ _ _,λb hb=>by cases hb⟩
theorem B0.own{h0 h:GH}{t:TypeId}{v:Value}{xs:List Int}(o:AQ h0 h v t 1 eI xs):B0 h t v xs:=⟨o.sl,λb hb=>by
 rcases o with ⟨rfl,_⟩ | ⟨b1,cap,c,rfl,_,h2,_⟩
 ·cases hb
 ·simp only [CV,Option.some.injEq] at hb;subst hb;exact ⟨_,_,_,h2⟩⟩
theorem B0.same{h h':GH}{t:TypeId}{w:Value}{xs:List Int}(x:B0 h t w xs)(key:∀b,CV w=some b->h' b=h b):B0 h' t w xs:=by
 refine ⟨?_,λb hb=>by rw [key b hb];exact x.2 b hb⟩;obtain ⟨a,cap,hv,hc,hm,he⟩:=x.1;refine ⟨a,cap,hv,hc,hm,λi hi=>?_⟩;obtain ⟨b,off,h1,h2⟩:=he i hi;exact ⟨b,off,h1,h2.same (key b (by rw [hv,h1];rfl))⟩
theorem B0.grown{V:Type}{h h' h0:GH}{v v':Value}{t t':TypeId}{n:Nat}{enc:V->Array Value}{ys:List V}(g:Gc h h' v v')(o:AQ h0 h v t' n enc ys)(ne:t'≠t){w:Value}{xs:List Int}(x:B0 h t w xs):B0 h' t w xs:=
 x.same λb hb=>by
  obtain ⟨p,c,f,q⟩:=x.2 b hb;rw [q];refine g.1 b _ q λe=>?_;rcases o with ⟨rfl,_⟩ | ⟨b1,cap,c1,rfl,_,h2,_⟩
  ·cases e
  ·simp only [CV,Option.some.injEq] at e;subst e;rw [q] at h2;cases h2;exact ne rfl
theorem B0.keepX{X:Nat->Prop}{h h':GH}{t:TypeId}{w:Value}{xs:List Int}(x:B0 h t w xs)(k:Bc X h h')(n:∀b,CV w=some b->¬X b):B0 h' t w xs:=
 x.same λb hb=>by
  obtain ⟨p,c,f,q⟩:=x.2 b hb;rw [q];exact k.box q (n b hb) rfl
theorem B0.store{h h':GH}{t t':TypeId}{w:Value}{xs:List Int}{r:Nat}{p:Bool}{c:Array Value}{f:Nat×Nat}(x:B0 h t w xs)(hr:h r=some (p,.cells c t' f))(ne:t'≠t)(ho:∀b,b≠r->h' b=h b):B0 h' t w xs:=
 x.same λb hb=>ho b λe=>by
  obtain ⟨p2,c2,f2,q⟩:=x.2 b hb;rw [e,hr] at q;cases q;exact ne rfl
def B5(h:GH)(t:TypeId)(l:List Sl):Prop:=∀k,B0 h t (l.getD k Sl.z).1 (l.getD k Sl.z).2
theorem B5.le{h h':GH}{t:TypeId}{l:List Sl}(x:B5 h t l)(e:h.Le h'):B5 h' t l:=λk=>(x k).le e
theorem B5.nil(h:GH)(t:TypeId):B5 h t []:=λk=>by
 rw [Bq aD];exact B0.nil _ _
theorem I4{V:Type}(z:V)(a b:List V)(k:Nat):(a++b).getD k z=if k<a.length then a.getD k z else b.getD (k-a.length) z:=by
 simp only [List.getD_eq_getElem?_getD,List.getElem?_append];split <;> rfl
theorem B5.app{h:GH}{t:TypeId}{l l':List Sl}(a:B5 h t l)(b:B5 h t l'):B5 h t (l++l'):=λk=>by
 rw [I4];split
 ·exact a k
 ·exact b _
theorem B5.one{h:GH}{t:TypeId}{x:Sl}(a:B0 h t x.1 x.2):B5 h t [x]:=λk=>by
 cases k with
 | zero=>exact a
 | succ k=>rw [Bq aD];exact B0.nil _ _
theorem B5.fine{h:GH}{t:TypeId}{l:List Sl}(a:B5 h t l):∀y ∈ l,(Jw y).toList.all (·.oneCell')=true:=λy hy=>by
 obtain ⟨i,hi,e⟩:=List.mem_iff_getElem.1 hy;have z:=a i;rw [List.getD_eq_getElem?_getD,List.getElem?_eq_getElem hi] at z;have z2:B0 h t l[i].1 l[i].2:=z;rw [<-e];show ((l[i].1.oneCell') && true)=true;rw [(AO.one z2.1).2];rfl
theorem NN(a b:List Sl):A6 (a++b)=A6 a++A6 b:=by simp [A6]
section
variable {V:Type} {hB:GH} {I:List V->(Nat->Prop)->GH->Prop} {S:GH->Prop} {X0 X X1:Nat->Prop} {h hc h':GH} {pre l:List V} {v v':Value}
def JV(hB:GH)(X0 X:Nat->Prop)(h:GH)(v:Value):Prop:=∀b,CV v=some b->¬X b/\(X0 b\/h b=none)/\hB b=none
theorem Ee.old(y:Ee hB I X0 h pre X hc){b:Nat}(e:hc b=none):X0 b\/h b=none:=by
 by_cases q:X0 b
 ·exact .inl q
 ·refine .inr ?_;cases hb:h b with
  | none=>rfl
  | some x=>
   obtain ⟨o',h1,_⟩:=y.keep b x.1 x.2 hb q;rw [e] at h1;cases h1
theorem Ee.fresh(P:GZ hB I)(y:Ee hB I X0 h pre X hc)(o:∀b,CV v=some b->hc b=none):JV hB X0 X h v:=λb hb=>⟨P.off y.inv (o b hb),y.old (o b hb),y.base.nothing (o b hb)⟩
theorem JV.grown(f:JV hB X0 X h v)(P:GZ hB I)(y:Ee hB I X0 h pre X hc)(g:Gc hc h' v v'):JV hB X0 X h v':=λb hb=>by
 rcases g.2 with e | ⟨⟨r,e1,e2⟩,_⟩
 ·exact f b (e▸hb)
 ·rw [e1] at hb;cases hb;exact ⟨P.off y.inv e2,y.old e2,y.base.nothing e2⟩
theorem Ee.app(P:GZ hB I)(y:Ee hB I X0 h pre X hc)(g:Gc hc h' v v')(f:JV hB X0 X h v):Ee hB I X0 h pre X h':=by
 have lB:hB.Le h':=λb p o hb=>by
  obtain ⟨o1,h1,h2⟩:=y.base b p o hb;exact ⟨o1,g.1 b _ h1 λe=>(by rw [(f b e).2.2] at hb;cases hb),h2⟩
 refine ⟨P.stable _ _ hc h' y.inv (λb hb=>?_) lB,y.sub,λb p o hb hn=>?_,lB⟩
 ·obtain ⟨p,o,h1,_⟩:=P.dom _ _ _ b y.inv hb;rw [h1];exact g.1 b _ h1 λe=>(f b e).1 hb
 ·obtain ⟨o1,h1,h2⟩:=y.keep b p o hb hn;exact ⟨o1,g.1 b _ h1 λe=>(f b e).2.1.elim hn λq=>(by rw [q] at hb;cases hb),h2⟩
theorem Ee.callL(y:Ee hB I X0 h pre X hc)(f:JV hB X0 X h v){u:Value}(r:En hB I S pre (λb=>X b\/CV v=some b) hc l u h') :
  ∃ok X',u=.bool ok/\(∀b,X' b->(X b\/CV v=some b)\/hc b=none)/\Bc (λb=>X b\/CV v=some b) hc h'/\(ok=true->Ee hB I X0 h (pre++l) X' h')/\(ok=false->∀l',En hB I S pre X0 h l' (.bool false) h'):=by
 obtain ⟨ok,X',hv,hs,hk,hl,h1,h2⟩:=r;have s:∀b,(X b\/CV v=some b)->X0 b\/h b=none:=λb q=>q.elim (y.sub b) λe=>(f b e).2.1;have kk:Bc X0 h h':=y.keep.trans s hk;have ss:=subX s y.keep hs;exact ⟨ok,X',hv,hs,hk,λe=>⟨h1 e,ss,kk,hl⟩,λe l'=>⟨false,X',rfl,ss,kk,hl,(λx=>by cases x),λ_=>h2 e⟩⟩
end
structure QF{P:Program}(W:Wk P)(hB:GH)(yv:Value)(t:TypeId)(I:List (List Int)->(Nat->Prop)->GH->Prop)(S:GH->Prop)(all:List (List Int)):Prop where
 prom:GZ hB I
 one:yv.cells=#[yv]
 call:∀pre p post X h v,all=pre++p ::post->I pre X h->hB.Le h->B0 h t v p->(∀b,CV v=some b->¬X b/\hB b=none)->By W yv #[v] h (En hB I S pre (λb=>X b\/CV v=some b) h [p])
section
variable {P:Program} {E:Gh P} {O:Nat->Value} {ds:List Deferred}
theorem SC{t0:TypeId}{all:List (List Int)}{hB hc:GH}{J:List (List Int)->(Nat->Prop)->GH->Prop}{Stop:Code->GH->Prop}{Y0:Nat->Prop}{par:Tmp}{f:Operand}{assign body:Code}{Q:Post}
  (hrd:E.rd=none) (hpar:Nat.blt par E.N=true) (hJ:GZ hB J) (hB0:hB.Le hc) (j0:J [] Y0 hc)
  (hS:∀c (h h':GH) l lo,Stop c h->h l=some (true,.loop lo)->(∀b,b≠l->h' b=h b)->Stop c h')
  (src:∀(yv:Value)(I:List (List Int)->(Nat->Prop)->GH->Prop)(Sp:GH->Prop)(X:Nat->Prop)(h:GH),QF E.wk hB yv t0 I Sp all->hB.Le h->I [] X h->By E.wk (AR O f) #[yv] h λ_ h'=>YEnd hB I Sp all X h h')
  (round:∀(l d:Nat)(lo:Loop)(pre:List (List Int))(p:List Int)(post:List (List Int))(Y:Nat->Prop)(h:GH)(v:Value),all=pre++p ::post->J pre Y h->hB.Le h->hB l=none->¬Y l->h l=some (true,.loop lo)->B0 h t0 v p->(∀b,CV v=some b->¬Y b/\hB b=none)->
   Tr ⟨E.wk,E.fn,some l,E.N⟩ assign (upd O par v) [] h λe σ' ds' h1=>e=.normal/\h1 l=some (true,.loop lo)/\∀h2,h2 l=some (true,.loop { lo with state:=.busy })->(∀b,b≠l->h2 b=h1 b)->
    Tr ⟨E.wk,E.fn,some l,E.N⟩ body σ' ds' h2 (Up hB J Stop (pre++[p]) (λb=>Y b\/CV v=some b) h l lo))
  (fin:∀(d l:Nat)(h':GH),hB.Le h'->hB d=none->hB l=none->hc d=none->h' d=some (true,.deferred (some []))->
   (∀Y,J all Y h'->(∀b,Y b->b≠d)->Q .normal O ({ target:=.collected d,args:=#[] } ::ds) h')/\
   (∀c,Stop c h'->match c with
    | .exit id=>Q (.exit id) O ({ target:=.collected d,args:=#[] } ::ds) h'
    | .ret=>Q .ret O ({ target:=.collected d,args:=#[] } ::ds) h'
    | _=>False)):Tr E (.rangeFunc f #[par] assign body) O ds hc Q:=by
 refine MH hrd λt d l hs hd hl hne=>?_;have hl':hB l=none:=hB0.nothing hl;have hd':hB d=none:=hB0.nothing hd;let lo:Loop:={ state:=.ready,pending:=none,fn:=E.fn,tmps:=t,params:=#[par],assign,body,defers:=d };have nYl:¬Y0 l:=hJ.off j0 hl;have nYd:¬Y0 d:=hJ.off j0 hd;have hL1:((hc.set d true (.deferred (some []))).set l true (.loop lo)) l=some (true,.loop lo):=GH.set_same _ _ _ _;have hL2:((hc.set d true (.deferred (some []))).set l true (.loop lo)) d=some (true,.deferred (some [])):=by rw [GH.set_ne _ _ _ (Ne.symm hne)];exact GH.set_same _ _ _ _
 have hL3:∀b,b≠l->b≠d->((hc.set d true (.deferred (some []))).set l true (.loop lo)) b=hc b:=λb h1 h2=>by rw [GH.set_ne _ _ _ h1,GH.set_ne _ _ _ h2]
 have hLB:hB.Le ((hc.set d true (.deferred (some []))).set l true (.loop lo)):=(hB0.trans (GH.Le.new hd _ _)).trans (GH.Le.new (by rw [GH.set_ne _ _ _ hne];exact hl) _ _);have hI0:N5 J l d lo [] (λb=>Y0 b\/b=l\/b=d) ((hc.set d true (.deferred (some []))).set l true (.loop lo)):=by
  refine ⟨Y0,hJ.stable _ _ hc _ j0 (λb hb=>hL3 b (λe=>nYl (e▸hb)) (λe=>nYd (e▸hb))) hLB,λb=>Iff.rfl,nYl,nYd,hL1,hL2⟩
 have prom:GZ hB (N5 J l d lo):=by
  refine ⟨?_,?_⟩
  ·rintro pre X h b ⟨Y,j,hX,_,_,h1,h2⟩ hb;rcases (hX b).1 hb with h3 | rfl | rfl
   ·exact hJ.dom _ _ _ _ j h3
   ·exact ⟨_,_,h1,rfl⟩
   ·exact ⟨_,_,h2,rfl⟩
  ·rintro pre X h h' ⟨Y,j,hX,n1,n2,h1,h2⟩ same lB;refine ⟨Y,hJ.stable _ _ h h' j (λb hb=>same b ((hX b).2 (.inl hb))) lB,hX,n1,n2,?_,?_⟩
   ·rw [same l ((hX l).2 (.inr (.inl rfl)))];exact h1
   ·rw [same d ((hX d).2 (.inr (.inr rfl)))];exact h2
 have yk:QF E.wk hB (.func (.yield l) #[] #[]) t0 (N5 J l d lo) (Rs Stop l d lo) all:=by
  refine ⟨prom,rfl,?_⟩;rintro pre p post X h v hall ⟨Y,j,hX,n1,n2,h1,h2⟩ lB hsv hvX;have nvl:CV v≠some l:=λe=>by obtain ⟨_,_,_,q⟩:=hsv.2 l e;rw [h1] at q;cases q
  have nvd:CV v≠some d:=λe=>by obtain ⟨_,_,_,q⟩:=hsv.2 d e;rw [h2] at q;cases q
  refine PT h1 rfl ?_;have ef:(lo.params.zip #[v]).foldl (λtmps x=>tmps.setIfInBounds x.1 x.2) lo.tmps=t.setIfInBounds par v:=by simp [lo]
  rw [ef];show BV E.wk l E.fn (t.setIfInBounds par v) assign body h _;have hs':=hs.put hpar v;refine N0 (N:=E.N) hs'.1 ?_;have e0:(λi=>(t.setIfInBounds par v).getD i undef)=upd O par v:=funext hs'.2;rw [e0];refine Ki ?_ (round l d lo pre p post Y h v hall j lB hl' n1 h1 hsv λb hb=>⟨λq=>(hvX b hb).1 ((hX b).2 (.inl q)),(hvX b hb).2⟩);rintro e σ' ds' ha ⟨rfl,ha1,hb⟩;refine ⟨rfl,lo,ha1,rfl,?_⟩;refine Ki ?_ (hb _ (GH.set_same _ _ _ _) λb hb=>GH.set_ne _ _ _ hb);rintro e σ2 ds2 h3 ⟨g1,Y',g2,g3,g4,g5⟩;have hd3:h3 d=some (true,.deferred (some [])):=g3.box h2 (λq=>q.elim (λq=>q.elim n2 nvd) (λe=>hne e.symm)) rfl;have nl:¬Y' l:=λq=>(g2 l q).elim (λq=>q.elim n1 nvl) λe=>by rw [h1] at e;cases e
  have nd:¬Y' d:=λq=>(g2 d q).elim (λq=>q.elim n2 nvd) λe=>by rw [h2] at e;cases e
  have key:∀(lo2:Loop)(ok:Bool),(if ok then J (pre++[p]) Y' (h3.set l true (.loop lo2))/\lo2=lo else Rs Stop l d lo (h3.set l true (.loop lo2)))->En hB (N5 J l d lo) (Rs Stop l d lo) pre (λb=>X b\/CV v=some b) h [p] (.bool ok) (h3.set l true (.loop lo2)):=by
   intro lo2 ok hok;refine ⟨ok,λb=>Y' b\/b=l\/b=d,rfl,?_,?_,?_,?_,?_⟩
   ·rintro b (hb | rfl | rfl)
    ·exact (g2 b hb).imp (λq=>q.imp (λq=>(hX b).2 (.inl q)) id) id
    ·exact .inl (.inl ((hX _).2 (.inr (.inl rfl))))
    ·exact .inl (.inl ((hX _).2 (.inr (.inr rfl))))
   ·intro b q o hb hn;have nb:b≠l:=λe=>hn (.inl ((hX b).2 (.inr (.inl e))));rw [GH.set_ne _ _ _ nb];exact g3 b q o hb λq=>q.elim (λz=>z.elim (λz=>hn (.inl ((hX b).2 (.inl z)))) λz=>hn (.inr z)) nb
   ·exact g4.upd hl' λb hb=>GH.set_ne _ _ _ hb
   ·rintro rfl;simp only [if_true] at hok;obtain ⟨hj,rfl⟩:=hok;exact ⟨Y',hj,λb=>Iff.rfl,nl,nd,GH.set_same _ _ _ _,by rw [GH.set_ne _ _ _ (Ne.symm hne)];exact hd3⟩
   ·rintro rfl;simpa using hok
  have js:∀(lo2:Loop),J (pre++[p]) Y' h3->J (pre++[p]) Y' (h3.set l true (.loop lo2)):=λlo2 hj=>hJ.store hj nl (λb hb=>GH.set_ne _ _ _ hb) (g4.upd hl' λb hb=>GH.set_ne _ _ _ hb);have ss:∀c (lo2:Loop),Stop c h3->Stop c (h3.set l true (.loop lo2)):=λc lo2 hc=>hS c h3 _ l _ hc g1 λb hb=>GH.set_ne _ _ _ hb;refine ⟨_,g1,?_⟩;cases e with
  | normal=>exact key _ true (by simp only [if_true];exact ⟨js _ g5,rfl⟩)
  | exit id=>exact key _ false (by simp only [Bool.false_eq_true,if_false];exact ⟨_,ss _ _ g5,GH.set_same _ _ _ _,by rw [GH.set_ne _ _ _ (Ne.symm hne)];exact hd3⟩)
  | ret=>exact key _ false (by simp only [Bool.false_eq_true,if_false];exact ⟨_,ss _ _ g5,GH.set_same _ _ _ _,by rw [GH.set_ne _ _ _ (Ne.symm hne)];exact hd3⟩)
  | goto _=>exact g5.elim
  | panic _=>exact g5.elim
  | outgrown=>exact g5.elim
 refine (src _ _ _ _ _ yk hLB hI0).mono ?_;rintro v h' ⟨X',hs',hk,hl2,hor⟩;rcases hor with ⟨Y,j,hX,n1,n2,h1,h2⟩ | ⟨c,hst,h1,h2⟩
 ·refine ⟨lo,h1,rfl,?_⟩;show Q .normal O _ _;have hB':=hl2.upd hl' (λb hb=>GH.set_ne h' true (.loop { lo with state:=.exhausted }) hb);refine (fin d l _ hB' hd' hl' hd (by rw [GH.set_ne _ _ _ (Ne.symm hne)];exact h2)).1 Y (hJ.store j n1 (λb hb=>GH.set_ne _ _ _ hb) hB') λb hb e=>n2 (e▸hb)
 ·refine ⟨_,h1,rfl,?_⟩;have hB':=hl2.upd hl' (λb hb=>GH.set_ne h' true (.loop { { lo with state:=.done,pending:=some c } with state:=.exhausted }) hb)
  have:=(fin d l _ hB' hd' hl' hd (by rw [GH.set_ne _ _ _ (Ne.symm hne)];exact h2)).2 c (hS c h' _ l _ hst h1 λb hb=>GH.set_ne _ _ _ hb)
  cases c with
  | exit id=>exact this
  | ret=>exact this
  | _=>exact this.elim
end
def Ho(l:List Int)(k:Int):Bool:=l.any (λx=>decide (k=x))
def BQ(jobs:List Int):Nat->List Int->List (List Int)
 | 0,l=>[l]
 | f+1,l=>l ::jobs.flatMap λk=>if Ho l k=true then [] else BQ jobs f (l++[k])
def CL(jobs:List Int):Nat->List Int->Int->List (List Int)
 | 0,_,_=>[]
 | f+1,l,k=>if Ho l k=true then [] else BQ jobs f (l++[k])
theorem Fp(jobs:List Int)(f:Nat)(l:List Int):BQ jobs f l=l ::jobs.flatMap (CL jobs f l):=by
 cases f with
 | zero=>simp [BQ,CL]
 | succ f=>rfl
def C9(jobs:List Int):List (List Int):=BQ jobs jobs.length []
def Lk(jobs l:List Int):Nat:=(jobs.filter λk=> !Ho l k).length
theorem hasI_app(l:List Int)(k j:Int):Ho (l++[k]) j=(Ho l j || decide (j=k)):=by simp [Ho]
theorem OM{jobs l:List Int}{k:Int}(hk:k ∈ jobs)(h:Ho l k=false):Lk jobs (l++[k])<Lk jobs l:=by
 unfold Lk;have key:∀js:List Int,(js.filter λj=> !Ho (l++[k]) j).length<=(js.filter λj=> !Ho l j).length/\(k ∈ js->(js.filter λj=> !Ho (l++[k]) j).length<(js.filter λj=> !Ho l j).length):=by
  intro js
  induction js with
  | nil=>exact ⟨Nat.le_refl _,λe=>by cases e⟩
  | cons j js ih=>
   obtain ⟨ih1,ih2⟩:=ih;rw [List.filter_cons,List.filter_cons,hasI_app];by_cases e:j=k
   ·subst e;simp only [h,Bool.false_or,decide_true,Bool.not_true,Bool.false_eq_true,if_false,Bool.not_false,if_true,List.length_cons];exact ⟨aA,λ_=>aA⟩
   ·rw [decide_eq_false e,Bool.or_false];split
    ·simp only [List.length_cons];exact ⟨aA,λq=>by have:=ih2 ((List.mem_cons.1 q).resolve_left λz=>e z.symm);omega⟩
    ·exact ⟨ih1,λq=>ih2 ((List.mem_cons.1 q).resolve_left λz=>e z.symm)⟩
 exact (key jobs).2 hk
theorem XG{jobs:List Int}{i:Nat}{F:Int->List (List Int)}(hi:i<jobs.length):(jobs.take (i+1)).flatMap F=(jobs.take i).flatMap F++F (jobs.getD i 0):=by
 rw [Dj 0 hi,List.flatMap_append];simp
theorem CT.job{all pre:List (List Int)}{jobs:List Int}{f i:Nat}{l:List Int}(w:CT all pre (BQ jobs f l))(hi:i<jobs.length):CT all (pre++[l]++(jobs.take i).flatMap (CL jobs f l)) (CL jobs f l (jobs.getD i 0)):=by
 rw [Fp] at w;have w2:CT all pre ([l]++((jobs.take i).flatMap (CL jobs f l)++(CL jobs f l (jobs.getD i 0)++(jobs.drop (i+1)).flatMap (CL jobs f l)))):=by
  rw [<-List.append_assoc (List.flatMap _ _),<-XG hi,<-List.flatMap_append,List.take_append_drop];exact w
 exact (w2.right.right).left
theorem CT.head{all pre:List (List Int)}{jobs:List Int}{f:Nat}{l:List Int}(w:CT all pre (BQ jobs f l)):CT all pre [l]:=by
 rw [Fp] at w;exact CT.left (a:=[l]) w
section
variable {jobs l:List Int} {f f' i:Nat} {k:Int} {all pre:List (List Int)}
theorem XH(hk:k ∈ jobs)(h:Ho l k=false)(hu:Lk jobs l<=f):∃f',f=f'+1:=⟨f-1,by have:=OM hk h;omega⟩
theorem MW(hf:f=f'+1)(h:Ho l k=false):CL jobs f l k=BQ jobs f' (l++[k]):=by
 subst hf;exact if_neg (by rw [h];simp)
theorem RM(h:Ho l k=true):CL jobs f l k=[]:=by
 cases f with
 | zero=>rfl
 | succ f=>exact if_pos h
theorem RN(hi:i<jobs.length)(h:Ho l (jobs.getD i 0)=true):pre++[l]++(jobs.take (i+1)).flatMap (CL jobs f l)=pre++[l]++(jobs.take i).flatMap (CL jobs f l):=by
 rw [XG hi,RM h,List.append_nil]
theorem T4(hi:i<jobs.length)(hf:f=f'+1)(h:Ho l (jobs.getD i 0)=false):pre++[l]++(jobs.take (i+1)).flatMap (CL jobs f l)=(pre++[l]++(jobs.take i).flatMap (CL jobs f l))++BQ jobs f' (l++[jobs.getD i 0]):=by
 rw [XG hi,MW hf h,<-List.append_assoc]
theorem AAW(hi:jobs.length<=i):pre++BQ jobs f l=pre++[l]++(jobs.take i).flatMap (CL jobs f l):=by
 rw [List.take_of_length_le hi,Fp];simp
theorem CT.go(w:CT all pre (BQ jobs f l))(hi:i<jobs.length)(hf:f=f'+1)(h:Ho l (jobs.getD i 0)=false):CT all (pre++[l]++(jobs.take i).flatMap (CL jobs f l)) (BQ jobs f' (l++[jobs.getD i 0])):=by
 have z:=w.job hi
 rwa [MW hf h] at z
end
end Go.Ns
namespace Go.Ns
open Go.Conc
theorem HZ.mem{h:GH}{l:List Sl}(a:HZ h l){x:Sl}(hx:x ∈ l):AO h x.1 1 eI x.2:=by
 obtain ⟨i,hi,e⟩:=List.mem_iff_getElem.1 hx;have z:=a i;rw [List.getD_eq_getElem?_getD,List.getElem?_eq_getElem hi] at z;have z2:AO h l[i].1 1 eI l[i].2:=z;rw [<-e];exact z2
theorem B5.all{h:GH}{t:TypeId}{l:List Sl}(a:B5 h t l):HZ h l:=λk=>(a k).1
theorem B5.drop1{h:GH}{t:TypeId}{l:List Sl}(a:B5 h t l):B5 h t (l.drop 1):=λk=>by
 rw [List.getD_eq_getElem?_getD,List.getElem?_drop,<-List.getD_eq_getElem?_getD];exact a (1+k)
theorem XI{l:List Sl}{k:Nat}(h:k<l.length-1):(l.drop 1).getD k Sl.z ∈ l:=List.mem_of_mem_drop (Be (by rw [List.length_drop];exact h))
section
variable (G:List Int->Int) (l:List (List Int))
def Dh:Nat->List Int×Int
 | 0=>(l.getD 0 [],G (l.getD 0 []))
 | k+1=>if G ((l.drop 1).getD k [])<(Dh k).2 then ((l.drop 1).getD k [],G ((l.drop 1).getD k [])) else Dh k
def DI:List Int:=(Dh G l (l.length-1)).1
end
section
variable {G:List Int->Int} {l:List Sl} {k:Nat}
theorem XJ(l:List Sl):(A6 l).length=l.length:=List.length_map _
theorem ON(hk:k<l.length-1):((A6 l).drop 1).getD k []=((l.drop 1).getD k Sl.z).2:=by
 have e:(A6 l).drop 1=A6 (l.drop 1):=by unfold A6;rw [List.map_drop]
 rw [e,Fy (by rw [List.length_drop];exact hk)]
theorem MX(hk:k<l.length-1)(h:G ((l.drop 1).getD k Sl.z).2<(Dh G (A6 l) k).2):Dh G (A6 l) (k+1)=(((l.drop 1).getD k Sl.z).2,G ((l.drop 1).getD k Sl.z).2):=by
 rw [Dh,ON hk,if_pos h]
theorem MY(hk:k<l.length-1)(h:¬G ((l.drop 1).getD k Sl.z).2<(Dh G (A6 l) k).2):Dh G (A6 l) (k+1)=Dh G (A6 l) k:=by
 rw [Dh,ON hk,if_neg h]
theorem VK(hk:k=l.length-1):DI G (A6 l)=(Dh G (A6 l) k).1:=by unfold DI;rw [XJ,hk]
end
theorem OO{G:List Int->Int}{l:List (List Int)}:∀k,k<l.length->(Dh G l k).1 ∈ l
 | 0,h=>Be h
 | k+1,h=>by
  unfold Dh;split
  ·exact List.mem_of_mem_drop (Be (by rw [List.length_drop];omega))
  ·exact OO k aA
theorem XK{G:List Int->Int}{l:List (List Int)}(h:0<l.length):DI G l ∈ l:=OO _ aA
theorem QG:∀(n k:Nat),k<n->(CU n).getD k 0=(k:Int)
 | 0,k,h=>absurd h (Nat.not_lt_zero _)
 | n+1,k,h=>by
  have hl:=C8 n;rw [CU,List.getD_eq_getElem?_getD];by_cases e:k<n
  ·rw [List.getElem?_append_left aA,<-List.getD_eq_getElem?_getD];exact QG n k e
  ·have e2:k=n:=aA
   subst e2;rw [List.getElem?_append_right aA,hl,Nat.sub_self];rfl
theorem Ll{n:Nat}{x:Int}(h:x ∈ CU n):0<=x/\x<n:=by
 obtain ⟨i,hi,e⟩:=List.mem_iff_getElem.1 h;have hl:=C8 n
 have:=QG n i aA
 rw [List.getD_eq_getElem?_getD,List.getElem?_eq_getElem hi,Option.getD_some,e] at this;omega
theorem KK{jobs:List Int}:∀(f:Nat)(l:List Int),(∀x ∈ l,x ∈ jobs)->∀r ∈ BQ jobs f l,(∀x ∈ r,x ∈ jobs)/\r.length<=l.length+f
 | 0,l,h,r,hr=>by
  rw [BQ,List.mem_singleton] at hr;subst hr;exact ⟨h,Nat.le_refl _⟩
 | f+1,l,h,r,hr=>by
  rw [BQ,List.mem_cons] at hr;rcases hr with rfl | hr
  ·exact ⟨h,aA⟩
  ·obtain ⟨k,hk,hr⟩:=List.mem_flatMap.1 hr;split at hr
   ·cases hr
   ·have:=KK f (l++[k]) (λx hx=>by
     rcases List.mem_append.1 hx with hx | hx
     ·exact h x hx
     ·rw [List.mem_singleton.1 hx];exact hk) r hr
    refine ⟨this.1,?_⟩;have e:=this.2;rw [List.length_append,List.length_singleton] at e;omega
theorem T5{jobs r:List Int}(h:r ∈ C9 jobs):(∀x ∈ r,x ∈ jobs)/\r.length<=jobs.length:=by
 have:=KK jobs.length [] (λx hx=>by cases hx) r h
 simpa using this
def T6(nj:Nat)(l:List Int):Prop:=(∀k,k<l.length->0<=l.getD k 0/\l.getD k 0<nj)/\l.length<=4
theorem KL{n:Nat}{jobs r:List Int}(hj:∀x ∈ jobs,0<=x/\x<(n:Int))(hl:jobs.length<=4)(h:r ∈ C9 jobs):T6 n r:=by
 obtain ⟨h1,h2⟩:=T5 h;exact ⟨λk hk=>hj _ (h1 _ (Be hk)),aA⟩
theorem KM{jobs:List Int}(hj:jobs.length<=4):∀(f:Nat)(l:List Int),f<=4->(BQ jobs f l).length<=5 ^ f*1
 | 0,l,_=>Nat.le_refl _
 | f+1,l,hf=>by
  have key:∀js:List Int,(js.flatMap λk=>if Ho l k=true then [] else BQ jobs f (l++[k])).length<=js.length*5 ^ f:=by
   intro js
   induction js with
   | nil=>simp
   | cons j js ih=>
    rw [List.flatMap_cons,List.length_append,List.length_cons,Nat.add_mul,Nat.one_mul,Nat.add_comm];refine Nat.add_le_add ih ?_;split
    ·exact Nat.zero_le _
    ·have:=KM hj f (l++[j]) aA;omega
  rw [BQ,List.length_cons];have h1:=key jobs;have h2:jobs.length*5 ^ f<=4*5 ^ f:=Nat.mul_le_mul_right _ hj;have h3:1<=5 ^ f:=Nat.one_le_pow _ _ aC;rw [Nat.pow_succ];omega
theorem Hp{jobs:List Int}(hj:jobs.length<=4):(C9 jobs).length<=625:=by
 have h:=KM hj jobs.length [] hj;have h2:5 ^ jobs.length<=5 ^ 4:=Nat.pow_le_pow_right aC hj;unfold C9;omega
end Go.Ns
namespace Go.Ns
open Go.Conc
section
variable {P:Program} {M:Type} {F:NG P M} {i:Option (Cr M)} {O:Nat->Value} {ds:List Deferred} {h:GH} {Q:Ps M}
theorem trI_td{id:Nat}{l:List Oper}(n:Nat)(fl:Bool)(π:List Nat)(hm:P.follows .mixedOrders=true)
  (ok:Pa l (l.take n) 0 [] (λcls=>Pb P F.N l n cls fl (dK π))=true) (x:TD (F.env i) l n fl h ds (λ_ _ _=>True) (λσ' h'=>Ga F l.toArray (l.drop n) i σ' ds h' Q) (dK π) O h):Ol F (.region id l.toArray true) i O ds h Q:=by
 obtain ⟨cls,h1⟩:=H7 ok;intro b k cs L t hb hr hl hs hq;exact ZH (E:=F.env i) n cls fl (dK π) hm (λ_ _ _ _ _ y=>y) trivial h1 x hb hr hs λσ' h' f t' ht'=>f n b k cs L t' (λj=>aD) hb hr hl ht' hq
def JW(P:Program):Frame:={ (default:Frame) with fn:=P.funcs.size,defers:=[],mode:=.panicking [goexitEntry] }
theorem quit_bot:QuitsIn P 1 (G (JW P) []):=.inr ⟨rfl,{ G (JW P) [] with status:=.finished },λw=>by
 show unwind P false (JW P) [] none w=_;have hcat:(JW P).catches P=false:=by
  unfold Frame.catches
  have:P.funcs[(JW P).fn]? =none:=Array.getElem?_eq_none (Nat.le_refl _)
  rw [this];rfl
 have hd:(JW P).defers=[]:=rfl;have hmd:(JW P).mode=.panicking [goexitEntry]:=rfl;unfold unwind;simp only [hd,hmd,hcat]
 rfl,rfl⟩
theorem VL{fn:Func}{f:FuncId}{args:Array Value}{t:Array Value}{ops:Array Oper}(hf:P.funcs[f]? =some fn)(hres:fn.results=#[]):QuitsIn P 4 (G (Ci (Frame.enter P f args .deferred) t [] [.inRegion ops []]) [JW P]):=by
 refine .inr ⟨rfl,G (Ci (Frame.enter P f args .deferred) t [] []) [JW P],λw=>by rw [A8];simp [stepG.exec,Ci,G],?_⟩;refine .inr ⟨rfl,G (Em (Frame.enter P f args .deferred) t [] []) [JW P],λw=>by rw [A8];simp [stepG.exec,Ci,Em,G,Frame.enter],?_⟩;refine .inr ⟨rfl,G (JW P) [],λw=>?_,quit_bot⟩;show unwind P false (Em (Frame.enter P f args .deferred) t [] []) [JW P] none w=_;have hfn:(Em (Frame.enter P f args .deferred) t [] []).fn=f:=rfl;have hk:(Em (Frame.enter P f args .deferred) t [] []).kind=.deferred:=rfl;have hmd:(Em (Frame.enter P f args .deferred) t [] []).mode=.returning:=rfl;have hd:(Em (Frame.enter P f args .deferred) t [] []).defers=[]:=rfl;have r1:∀t,(results fn t).runT P w #[]=(.ok (.tuple #[]) w,#[]):=λt=>by
  unfold results;rw [hres];simp only [Array.mapM_empty];rfl
 unfold unwind;simp only [hd,hmd,hfn,hf,r1,GStep.after,doReturn,hk,seen_none];rfl
def JX(F:NG P M)(R:Code)(args:Array Value)(i:Option (Cr M))(O:Nat->Value)(h:GH):Prop:=∀t,Bb t F.N O->(F.wk i).K (G (Ci (Frame.enter P F.fn args .deferred) t [] [.code R]) [JW P]) h
theorem NO{fn:Func}{c R:Code}{s:Cr M}{ars cap args:Array Value}(hm:F.main=false)(hrd:F.rd=none)(ha:ars++cap=args)(hf:P.funcs[F.fn]? =some fn)(hc:AN fn=true)(hb:fn.body=some (.seq c R))(hN:F.N=fn.ntmps)(hsz:args.size<=fn.ntmps)(hs:¬s.isDone)
  (x:Ol F c (some s) (λi=>args.getD i undef) [] h λi e O ds h=>e=.normal/\ds=[]/\JX F R args i O h):Ff P F.Rep F.W.K s false (born P { target:=.fn (.func F.fn) cap,args:=ars }) h:=by
 have hwk:∀s,(F.wk (some s)).K=ER P false (If P F.Rep F.W.K s false):=λs=>by show ER P F.main (If P F.Rep F.W.K s F.main)=_;rw [hm]
 rw [G8 hs];refine L9 _ _ _ _ rfl λw f=>⟨G (Frame.enter P F.fn args .deferred) [JW P],w,#[],h,?_,Bp.refl f,?_⟩
 ·subst ha;have hi:(invoke (.fn (.func F.fn) cap) ars).runT P w #[]=(.ok (.enter F.fn (ars++cap)) w,#[]):=Tt hf hc w;show callDeferred P (JW P) [] none { target:=.fn (.func F.fn) cap,args:=ars } w=_;unfold callDeferred;rw [if_neg aD];simp only [hi,seen_none];rfl
 have e0:Frame.enter P F.fn args .deferred=Ci (Frame.enter P F.fn args .deferred) (args++Array.replicate (fn.ntmps-args.size) undef) [] [.code (.seq c R)]:=by simp [Frame.enter,Ci,hf,hb]
 rw [e0,<-hwk s];refine Wk.go (Ci (Frame.enter P F.fn args .deferred) (args++Array.replicate (fn.ntmps-args.size) undef) [] (.code c ::.code R ::[])) (λw=>by rw [A8];simp [stepG.exec,Ci,G]) ?_;refine x (Frame.enter P F.fn args .deferred) [.code R] [JW P] (λ_ _ _ _ _=>False) _ rfl hrd.symm (λi=>⟨λ_ _ _ q=>q.elim,λ_ _ _ _ q=>q.elim,λ_ _ _ _ _ _ q=>q.elim⟩) ⟨by rw [hN];simp;omega,λi=>?_⟩ ?_
 ·by_cases hi:i<args.size
  ·simp [Array.getD_eq_getD_getElem?,Array.getElem?_append_left hi]
  ·simp only [Array.getD_eq_getD_getElem?];rw [Array.getElem?_append_right aA,Array.getElem?_eq_none (show args.size<=i by omega),Array.getElem?_replicate];split <;> rfl
 ·rintro i e O ds h' ⟨rfl,rfl,z⟩ t' ht';exact z t' ht'
theorem AAX{fn:Func}{id:Nat}{o1 o2:Oper}{args:Array Value}{c:Nat}{m:M}{v z:Value}{hm:GH}{h1:GH}(hmn:F.main=false)(hrd:F.rd=none)(hf:P.funcs[F.fn]? =some fn)(hres:fn.results=#[])
  (hg1:o1.guard=none) (hd1:C2 o1.dst F.N=true) (hg2:o2.guard=none) (hdf1:C5 o1.op=false) (hdf:C5 o2.op=false) (hd2:C2 o2.dst F.N=true)
  (x:BW (F.env (some (.send c m .done))) o1 O [] h λσ' ds' h'=>ds'=[]/\(∀w,(execOp (AR σ') o2).runT P w #[]=(.ok (.comm #[scase c v z] true .send) w,#[]))/\GH.Split h' h1 hm/\F.Rep c m v hm) :
  JX F (.region id [o1,o2].toArray false) args (some (.send c m .done)) O h:=by
 intro t hs;refine Wk.go (Ci (Frame.enter P F.fn args .deferred) t [] (.inRegion [o1,o2].toArray [0,1] ::[])) (λw=>by rw [A8];simp [stepG.exec,Ci,G,List.range_eq_range',Array.range];rfl) ?_;refine Kj (E:=F.env (some (.send c m .done))) (o:=o1) (rest:=[1]) rfl (by simp [Region.wanted,hg1]) (.inr hdf1) hd1 hs x ?_;rintro σ' ds' h' ⟨rfl,hr,hsp,hrep⟩ t' ht';refine ER.stop ⟨_,[JW P],v,z,hm,h1,rfl,⟨λw fw=>?_,hsp,hrep,4,?_⟩⟩
 ·rw [hmn];exact Tq ht' rfl (by simp [Region.wanted,hg2]) (.inr hdf) (hr w)
 ·rw [C6 (ops:=[o1,o2].toArray) (i:=1) (o:=o2) rfl];exact VL hf hres
theorem AAY{dst:Option Nat}{x:Operand}{tys:Array TypeId}{ty:TypeId}{pos:String}{af:Array Edge}{gd:Option (Nat×Bool)}{ch s r:Nat}{w:World}(hx:AR O x=.chan (some ch))(hw:w.heap[ch]? =some (.chan 0 #[] false s r false)) :
  (execOp (AR O) ⟨dst,.call ⟨.builtin .close,#[x],tys⟩,ty,pos,af,gd⟩).runT P w #[]=(.ok (.value (.tuple #[])) { w with heap:=w.heap.setIfInBounds ch (.chan 0 #[] true s r false) },#[⟨.obj ch,false,true⟩,⟨.obj ch,true,true⟩]):=by
 have q:execOp (AR O) ⟨dst,.call ⟨.builtin .close,#[x],tys⟩,ty,pos,af,gd⟩=builtin .close tys ty (#[x].map fun | .const _=>true | _=>false) (#[x].map (AR O)):=by
  show (resolve (AR O) _ ty).bind _=_;unfold resolve;rfl
 have e:(#[x].map (AR O))=#[Value.chan (some ch)]:=by simp [hx]
 rw [q,e];show Sem.runT P (.getObj ch λo=>_) w #[]=_;unfold Sem.runT;rw [hw];show Sem.runT P (.setObj ch (.chan 0 #[] true s r false) _) w _=_;unfold Sem.runT;rw [hw];rfl
theorem QH{fn:Func}{id:Nat}{o1:Oper}{dst:Option Nat}{xo:Operand}{tys:Array TypeId}{ty:TypeId}{pos:String}{af:Array Edge}{args:Array Value}{c:Nat}(hmn:F.main=false)(hf:P.funcs[F.fn]? =some fn)(hres:fn.results=#[])
  (hg1:o1.guard=none) (hd1:C2 o1.dst F.N=true) (hdf1:C5 o1.op=false)
  (x:BW (F.env (some (.close c .done))) o1 O [] h λσ' ds' _=>ds'=[]/\AR σ' xo=.chan (some c)) :
  JX F (.region id [o1,⟨dst,.call ⟨.builtin .close,#[xo],tys⟩,ty,pos,af,none⟩].toArray false) args (some (.close c .done)) O h:=by
 intro t hs;refine Wk.go (Ci (Frame.enter P F.fn args .deferred) t [] (.inRegion [o1,⟨dst,.call ⟨.builtin .close,#[xo],tys⟩,ty,pos,af,none⟩].toArray [0,1] ::[])) (λw=>by rw [A8];simp [stepG.exec,Ci,G,List.range_eq_range',Array.range];rfl) ?_;refine Kj (E:=F.env (some (.close c .done))) (o:=o1) (rest:=[1]) rfl (by simp [Region.wanted,hg1]) (.inr hdf1) hd1 hs x ?_;rintro σ' ds' h' ⟨rfl,hx⟩ t' ht';refine ER.stop ⟨_,[JW P],Ci (Frame.enter P F.fn args .deferred) (WW t' dst (.tuple #[])) [] [.inRegion [o1,⟨dst,.call ⟨.builtin .close,#[xo],tys⟩,ty,pos,af,none⟩].toArray []],[JW P],rfl,⟨λw s r fw hw=>?_,rfl,4,VL hf hres⟩⟩;rw [hmn,Pu ht' (ops:=[o1,⟨dst,.call ⟨.builtin .close,#[xo],tys⟩,ty,pos,af,none⟩].toArray) (n:=1) (o:=⟨dst,.call ⟨.builtin .close,#[xo],tys⟩,ty,pos,af,none⟩) rfl (by simp [Region.wanted]) (.inr rfl)];simp only [stepG.apply,AAY hx hw,if_true];have hk:((Ci (Frame.enter P F.fn args .deferred) t' [] [.inRegion [o1,⟨dst,.call ⟨.builtin .close,#[xo],tys⟩,ty,pos,af,none⟩].toArray [1]]).kind==CallKind.early)=false:=rfl;rw [C6 (ops:=[o1,⟨dst,.call ⟨.builtin .close,#[xo],tys⟩,ty,pos,af,none⟩].toArray) (i:=1) rfl];simp only [hk,Bool.false_eq_true,if_false];show GStep.go _ _ (seen P _ _++ #[])=_;rw [Wx];rfl
end
end Go.Ns
namespace Go.Ns
open Go.Conc
theorem B5.at{h:GH}{t:TypeId}{l:List Sl}(a:B5 h t l){x:Sl}(hx:x ∈ l):B0 h t x.1 x.2:=by
 obtain ⟨i,hi,e⟩:=List.mem_iff_getElem.1 hx;have z:=a i;rw [List.getD_eq_getElem?_getD,List.getElem?_eq_getElem hi] at z;have z2:B0 h t l[i].1 l[i].2:=z;rw [<-e];exact z2
theorem B5.of{h:GH}{t:TypeId}{l:List Sl}(a:∀x ∈ l,B0 h t x.1 x.2):B5 h t l:=λk=>by
 by_cases hk:k<l.length
 ·exact a _ (Be hk)
 ·rw [Bq aA];exact B0.nil _ _
theorem B5.grown{V:Type}{h h' h0:GH}{v v':Value}{t t':TypeId}{n:Nat}{enc:V->Array Value}{ys:List V}(g:Gc h h' v v')(o:AQ h0 h v t' n enc ys)(ne:t'≠t){l:List Sl}(x:B5 h t l):B5 h' t l:=λk=>(x k).grown g o ne
theorem B5.store{h h':GH}{t t':TypeId}{l:List Sl}{r:Nat}{p:Bool}{c:Array Value}{f:Nat×Nat}(x:B5 h t l)(hr:h r=some (p,.cells c t' f))(ne:t'≠t)(ho:∀b,b≠r->h' b=h b):B5 h' t l:=λk=>(x k).store hr ne ho
theorem B0.storeL{h h':GH}{t:TypeId}{w:Value}{xs:List Int}{r:Nat}{p:Bool}{lo:Loop}(x:B0 h t w xs)(hr:h r=some (p,.loop lo))(ho:∀b,b≠r->h' b=h b):B0 h' t w xs:=
 x.same λb hb=>ho b λe=>by
  obtain ⟨p2,c2,f2,q⟩:=x.2 b hb;rw [e,hr] at q;cases q
def SD(hB:GH)(r:Nat)(T t t0:TypeId)(F:List Int->Bool)(pre:List (List Int))(Y:Nat->Prop)(h:GH):Prop:=
 ∃w l',h r=some (true,.cells #[w] T (0,0))/\AQ hB h w t 1 Jw l'/\A4 w r/\hB r=none/\A6 l'=pre.filter F/\B5 h t0 l'/\∀b,Y b↔b=r\/CV w=some b\/∃x ∈ l',CV x.1=some b
section
variable {hB h h' ha hb:GH} {r:Nat} {T t t0:TypeId} {F:List Int->Bool} {pre:List (List Int)} {p:List Int} {w w' v:Value} {Y:Nat->Prop} {l':List Sl}
theorem QI(hB:GH)(r:Nat)(T t t0:TypeId)(F:List Int->Bool):GZ hB (SD hB r T t t0 F):=by
 refine ⟨?_,?_⟩
 ·rintro pre Y h b ⟨w,l',h1,h2,h3,h0,h5,h6,h4⟩ hb;rcases (h4 b).1 hb with rfl | h7 | ⟨x,hx,h7⟩
  ·exact ⟨_,_,h1,rfl⟩
  ·obtain ⟨c,hc⟩:=h2.cellsAt b h7;exact ⟨_,_,hc,rfl⟩
  ·obtain ⟨q,c,f,hc⟩:=(h6.at hx).2 b h7;exact ⟨_,_,hc,rfl⟩
 ·rintro pre Y h h' ⟨w,l',h1,h2,h3,h0,h5,h6,h4⟩ same lB;refine ⟨w,l',by rw [same r ((h4 r).2 (.inl rfl))];exact h1,h2.keep λb o hb ho=>by rw [same b ((h4 b).2 (.inr (.inl hb)))];exact ho,h3,h0,h5,.of λx hx=>(h6.at hx).same λb hb=>same b ((h4 b).2 (.inr (.inr ⟨x,hx,hb⟩))),h4⟩
theorem OP(x:h r=some (true,.cells #[.slice none 0 0] T (0,0)))(h0:hB r=none):SD hB r T t t0 F [] (λb=>b=r) h:=
 ⟨_,[],x,AQ.nil _ _ _ _ _,A4.nil,h0,rfl,B5.nil _ _,λ_=>⟨.inl,λq=>q.elim id λe=>e.elim (λe=>by cases e) λ⟨_,e,_⟩=>by cases e⟩⟩
theorem SE(hY:∀b,Y b↔b=r\/CV w=some b\/∃x ∈ l',CV x.1=some b)(g:Gc ha hb w w')(hn:∀q,ha q=none->h q=none)(x:h' r=some (true,.cells #[w'] T (0,0)))(o:AQ hB h' w' t 1 Jw (l'++[(v,p)]))(f:A4 w' r)(h0:hB r=none)
  (hl:A6 l'=pre.filter F) (hp:F p=true) (ta:B5 h' t0 (l'++[(v,p)])):∃Y',(∀b,Y' b->(Y b\/CV v=some b)\/h b=none)/\SD hB r T t t0 F (pre++[p]) Y' h':=by
 refine ⟨λb=>b=r\/CV w'=some b\/∃x ∈ l'++[(v,p)],CV x.1=some b,?_,w',_,x,o,f,h0,?_,ta,λ_=>Iff.rfl⟩
 ·rintro b (rfl | hb | ⟨y,hy,hb⟩)
  ·exact .inl (.inl ((hY _).2 (.inl rfl)))
  ·rcases g.2 with e | ⟨⟨q,e1,e2⟩,_⟩
   ·exact .inl (.inl ((hY _).2 (.inr (.inl (by rw [<-e];exact hb)))))
   ·rw [e1] at hb;cases hb;exact .inr (hn _ e2)
  ·rcases List.mem_append.1 hy with hy | hy
   ·exact .inl (.inl ((hY _).2 (.inr (.inr ⟨y,hy,hb⟩))))
   ·rw [List.mem_singleton.1 hy] at hb;exact .inl (.inr hb)
 ·rw [NN,hl,List.filter_append];simp [A6,hp]
theorem XL(hY:∀b,Y b↔b=r\/CV w=some b\/∃x ∈ l',CV x.1=some b)(x:h' r=some (true,.cells #[w] T (0,0)))(o:AQ hB h' w t 1 Jw l')(f:A4 w r)(h0:hB r=none)(hl:A6 l'=pre.filter F)(hp:F p=false)(ta:B5 h' t0 l') :
  ∃Y',(∀b,Y' b->(Y b\/CV v=some b)\/h b=none)/\SD hB r T t t0 F (pre++[p]) Y' h':=
 ⟨Y,λ_ q=>.inl (.inl q),w,l',x,o,f,h0,by rw [hl,List.filter_append];simp [hp],ta,hY⟩
end
def tVal:Dp->Value
 | .job i=>.int .i64 i
 | .res i b=>.agg #[.int .i64 i,.bool b]
 | .tick=>.bool true
def tOK(n:Nat):Dp->Prop
 | .job i=>i<n
 | .res i _=>i<n
 | .tick=>True
def Oo(n:Nat):Nat->Dp->Value->GH->Prop:=λ_ m v hm=>v=tVal m/\tOK n m/\hm=λ_=>none
theorem GH.split_none(h:GH):GH.Split h h (λ_=>none) where
 left:=λb p o hb=>⟨p,hb,id⟩
 right:=λb p o hb=>by cases hb
 one:=λ_ _ _ _ hb=>by cases hb
 two:=λ_ _ _ hb _=>by cases hb
section
variable {cj co cd n k:Nat} {ok:Nat->Bool}
theorem AAZ(h:k<n):some (Ha cj (n-k) k)=some (.send cj (.job k) (Ha cj (n-(k+1)) (k+1))):=by
 rw [show n-k=(n-(k+1))+1 by omega];rfl
theorem feed_end(h:n<=k):some (Ha cj (n-k) k)=some (.close cj .done):=by rw [show n-k=0 by omega];rfl
theorem VM:∀m k,¬(Ha cj m k).isDone
 | 0,_=>id
 | _+1,_=>id
theorem VN:∀m,¬(Fl cj co cd ok m).isDone
 | 0=>id
 | _+1=>id
theorem AAa{m:Nat}:∀o,¬(U3 co cd ok (Fl cj co cd ok m) o).isDone
 | none=>id
 | some (.job _)=>id
 | some (.res _ _)=>id
 | some .tick=>id
theorem SF:∀t,¬(EK co cd t).isDone
 | 0=>id
 | _+1=>id
theorem XM{t:Nat}:∀o,¬(NH (EK co cd t) o).isDone
 | none=>id
 | some (.job _)=>id
 | some (.res _ _)=>id
 | some .tick=>SF t
theorem VO:∀m R,¬(Fm co ok m R).isDone
 | 0,_=>id
 | _+1,_=>id
theorem ZX{c:Prop}[Decidable c]{a b:Cr Dp}(ha:¬a.isDone)(hb:¬b.isDone):¬(if c then a else b).isDone:=by split <;> assumption
theorem AAb{m:Nat}{R:List Nat}:∀o,¬(IT ok R (Fm co ok m) o).isDone
 | none=>ZX id id
 | some (.job _)=>id
 | some .tick=>id
 | some (.res _ _)=>ZX (VO _ _) id
theorem VP:∀m,¬(IC cj co cd n ok m).isDone
 | 0=>id
 | _+1=>id
theorem XN(h:k<3):some (EK co cd (3-k))=some (.recv cd (NH (EK co cd (3-(k+1))))):=by
 rw [show 3-k=(3-(k+1))+1 by omega];rfl
theorem AAc(h:3<=k):some (EK co cd (3-k))=some (.close co .done):=by rw [show 3-k=0 by omega];rfl
theorem AAd(h:k<3):some (IC cj co cd n ok (3-k))=some (.spawn (Fl cj co cd ok (n+1)) (IC cj co cd n ok (3-(k+1)))):=by
 rw [show 3-k=(3-(k+1))+1 by omega];rfl
theorem crew_end(h:3<=k):some (IC cj co cd n ok (3-k))=some (.spawn (EK co cd 3) (Fm co ok (n+1) (List.range n))):=by rw [show 3-k=0 by omega];rfl
end
def T7(n:Nat)(ok:Nat->Bool)(R:List Nat):List Bool:=(List.range n).map λi=>if i ∈ R then false else ok i
theorem ZY(n:Nat)(ok:Nat->Bool)(R:List Nat):(T7 n ok R).length=n:=by unfold T7;rw [List.length_map,List.length_range]
theorem AAe(n:Nat)(ok:Nat->Bool):T7 n ok (List.range n)=List.replicate n false:=by
 unfold T7;refine List.ext_getElem aD λi h1 h2=>?_
 have:i<n:=by simpa using h1
 simp [this]
theorem isL_put{n i:Nat}{ok:Nat->Bool}{R:List Nat}(hR:R.Nodup):(T7 n ok R).set i (ok i)=T7 n ok (R.erase i):=by
 unfold T7;refine List.ext_getElem aD λj h1 h2=>?_;rw [List.getElem_set];simp only [List.getElem_map,List.getElem_range,List.Nodup.mem_erase_iff hR];by_cases e:i=j
 ·subst e;simp
 ·rw [if_neg e]
  have:j≠i:=λq=>e q.symm
  simp [this]
theorem ZZ{n:Nat}{ok:Nat->Bool}{k:Nat}(hk:k<n):(T7 n ok []).getD k false=ok k:=by
 unfold T7;rw [List.getD_eq_getElem?_getD,List.getElem?_map,List.getElem?_range hk];simp
def JY(fl:List Sl)(ok:Nat->Bool):Nat->List Sl
 | 0=>[]
 | k+1=>if ok k=true then JY fl ok k++[fl.getD k Sl.z] else JY fl ok k
theorem selS_t{fl:List Sl}{ok:Nat->Bool}{k:Nat}(h:ok k=true):JY fl ok (k+1)=JY fl ok k++[fl.getD k Sl.z]:=if_pos h
theorem selS_f{fl:List Sl}{ok:Nat->Bool}{k:Nat}(h:ok k=false):JY fl ok (k+1)=JY fl ok k:=if_neg (by rw [h];simp)
theorem VQ(fl:List Sl)(ok:Nat->Bool):∀k,(JY fl ok k).length<=k
 | 0=>Nat.le_refl _
 | k+1=>by
  have:=VQ fl ok k
  unfold JY;split
  ·rw [List.length_append,List.length_singleton];omega
  ·omega
theorem QJ{fl:List Sl}{G:List Int->Bool}:∀k,k<=fl.length->A6 (JY fl (λi=>G (fl.getD i Sl.z).2) k)=((A6 fl).take k).filter G
 | 0,_=>rfl
 | k+1,h=>by
  have ih:=QJ (fl:=fl) (G:=G) k aA;have e:(A6 fl).take (k+1)=(A6 fl).take k++[(fl.getD k Sl.z).2]:=by rw [Dj [] (by rw [CH];omega),Fy (l:=fl) aA]
  unfold JY;rw [e,List.filter_append];by_cases q:G (fl.getD k Sl.z).2=true
  ·rw [if_pos q,NN,ih,List.filter_cons_of_pos q];rfl
  ·rw [if_neg q,ih,List.filter_cons_of_neg q,List.filter_nil,List.append_nil]
end Go.Ns
namespace Go.Ns
open Go.Conc
section
variable {P:Program} {M:Type} {F:NG P M} {i i':Option (Cr M)} {O:Nat->Value} {ds:List Deferred} {h:GH} {Q:Ps M}
theorem trI_ix{c:Code}(e:i=i')(x:Ol F c i' O ds h Q):Ol F c i O ds h Q:=e▸x
theorem JZ{ops:Array Oper}{l:List Oper}(e:i=i')(x:Ga F ops l i' O ds h Q):Ga F ops l i O ds h Q:=e▸x
theorem AAf{c:Code}{Q:Post}(x:Ol F c none O ds h λi e O ds h=>i=none/\Q e O ds h):Tr ⟨F.W,F.fn,F.rd,F.N⟩ c O ds h Q:=by
 intro b k cs L t hb hr hl hs hc;refine x b k cs (λi=>match i with | none=>L | some _=>λ_ _ _ _=>False) t hb hr (λi=>?_) hs λi e σ' ds' h' q t' ht'=>?_
 ·cases i with
  | none=>exact hl
  | some s=>exact ⟨λ_ _ _ x=>x.elim,λ_ _ _ _ x=>x.elim,λ_ _ _ _ _ _ x=>x.elim⟩
 ·obtain ⟨rfl,q⟩:=q;exact hc e σ' ds' h' q t' ht'
theorem trI_end{c:Code}{Q:Post}(x:Tr (F.env none) c O ds h Q):Ol F c none O ds h λi e O ds h=>i=none/\Q e O ds h:=
 I2 (Ki (λ_ _ _ _ q=>⟨rfl,q⟩) x)
variable {dst:Option Nat} {ty:TypeId} {pos:String} {af:Array Edge} {gd:Option (Nat×Bool)}
theorem QK{a x:Operand}{c:Nat}{v:Value}(ha:AR O a=.chan (some c))(hx:AR O x=v)(w:World):(execOp (AR O) ⟨dst,.send a x,ty,pos,af,gd⟩).runT P w #[]=(.ok (.comm #[scase c v (.tuple #[])] true .send) w,#[]):=by
 subst hx;show (Result.ok (Next.comm #[{ chan:=AR O a,send:=some (AR O x),zero:=.tuple #[] }] true .send) w,#[])=_;rw [ha];rfl
theorem run_recv{a:Operand}{c:Nat}{t e:TypeId}{d:ChanDir}{ok:Bool}{z:Value}{inf:TypeInfo}(ht:P.underlying t=some (.chan d e))(hi:P.info? e=some inf)(hz:inf.zero=some z)(ha:AR O a=.chan (some c))(w:World) :
  (execOp (AR O) ⟨dst,.recv t a ok,ty,pos,af,gd⟩).runT P w #[]=(.ok (.comm #[rcase c z] true (.recv ok)) w,#[]):=by
 have h1:(zeroValue e).run P w=.ok z w:=by
  unfold zeroValue typeInfo;simp only [Sem.run_bind,program,hi];simp [Sem.run,hi,hz]
 have h2:(underlying t).run P w=.ok (.chan d e) w:=run_underlying ht w;rw [Sem.runT_eq];unfold execOp;simp [h1,h2,ha,rcase]
theorem NP{a:Operand}{c:Nat}{t e:TypeId}{d:ChanDir}{ok:Bool}{z:Value}(ht:P.underlying t=some (.chan d e))(hz:(P.info? e).map (·.zero)=some (some z))(ha:AR O a=.chan (some c))(w:World) :
  (execOp (AR O) ⟨dst,.recv t a ok,ty,pos,af,gd⟩).runT P w #[]=(.ok (.comm #[rcase c z] true (.recv ok)) w,#[]):=by
 obtain ⟨inf,hi,h2⟩:=Option.map_eq_some_iff.1 hz;exact run_recv ht hi h2 ha w
theorem XO{x:Operand}{f:Fn}{cap:Array Value}{tys:Array TypeId}(hx:AR O x=.func f #[] cap)(w:World):(execOp (AR O) ⟨dst,.go ⟨.value x,#[],tys⟩,ty,pos,af,gd⟩).runT P w #[]=(.ok (.spawn { target:=.fn f cap,args:=#[] }) w,#[]):=by
 have e:resolve (AR O) ⟨.value x,#[],tys⟩ ty=(pure { target:=.fn f cap,args:=#[] }:Sem Deferred):=by
  unfold resolve;simp only [hx,Deferred.ofValue];simp
 unfold execOp;simp only [e];rfl
variable {E:Gh P} {T:(Nat->Value)->List Deferred->GH->Prop}
theorem KN{t e:TypeId}{d:ChanDir}{n:Operand}(ht:P.underlying t=some (.chan d e))(hi0:(P.info? e).isSome=true)(hn:AR O n=.int .i64 0)
  (k:∀r h',h r=none->h.Le h'->h' r=some (true,.chan 0 #[] false 0 0 false)->(∀b,b≠r->h' b=h b)->T (putS O dst (.chan (some r))) ds h'):BW E ⟨dst,.makeChan t n,ty,pos,af,gd⟩ O ds h T:=by
 unfold BW execOp;refine GG ?_;unfold Instr.makeChan;rw [hn];refine AI _ _ (Ax ?_);refine AI _ _ (An ht ?_);simp only [];obtain ⟨inf,hi⟩:=Option.isSome_iff_exists.1 hi0;refine AI _ _ (Cl hi ?_);rw [if_neg (by simp [IntKind.max];decide)];refine AI _ _ ?_;exact λr hr=>k r _ hr (GH.Le.new hr _ _) (GH.set_same _ _ _ _) λb hb=>GH.set_ne _ _ _ hb
end
section
variable {P:Program} {F:NG P Dp} {i i':Option (Cr Dp)} {O:Nat->Value} {ds:List Deferred} {h:GH} {Q:Ps Dp} {ops:Array Oper} {o:Oper} {l:List Oper} {n:Nat} {cj co cd c m k:Nat} {ok:Nat->Bool} {R:List Nat} {z:Value}
theorem JX.ix{X:Code}{args:Array Value}(e:i=i')(x:JX F X args i' O h):JX F X args i O h:=e▸x
theorem Hq:Ga F ops l (some .never) O ds h Q:=λ_ _ _ _ _ _ _ _ _ _ _ _=>ER.stop rfl
theorem GH.join_none(h:GH):h.join (λ_=>none)=h:=by
 funext b;unfold GH.join;cases h b <;> rfl
theorem VR{s:Dp}{nx:Cr Dp}(hR:F.Rep=Oo n)(hg:o.guard=none)(hdf:C5 o.op=false)(hd:C2 o.dst F.N=true)(hr:∀w,(execOp (AR O) o).runT P w #[]=(.ok (.comm #[scase c (tVal s) z] true .send) w,#[]))(hs:tOK n s)(hnx:¬nx.isDone)
  (x:Ga F ops l (some nx) (putS O o.dst undef) ds h Q):Ga F ops (o ::l) (some (.send c s nx)) O ds h Q:=
 AAB hg hdf hd hr (GH.split_none h) (by rw [hR];exact ⟨rfl,hs,rfl⟩) hnx x
theorem NQ{f:Option Dp->Cr Dp}{r:Bool}(hR:F.Rep=Oo n)(hg:o.guard=none)(hdf:C5 o.op=false)(hd:C2 o.dst F.N=true)(hr:∀w,(execOp (AR O) o).runT P w #[]=(.ok (.comm #[rcase c z] true (.recv r)) w,#[]))(hnx:∀o,¬(f o).isDone)
  (x:∀s,tOK n s->Ga F ops l (some (f (some s))) (putS O o.dst (recvd r (tVal s) true)) ds h Q) (y:Ga F ops l (some (f none)) (putS O o.dst (recvd r z false)) ds h Q):Ga F ops (o ::l) (some (.recv c f)) O ds h Q:=
 AAC hg hdf hd hr hnx (λs v hm hrep _=>by
  rw [hR] at hrep;obtain ⟨rfl,h2,rfl⟩:=hrep;rw [GH.join_none];exact x s h2) y
theorem VS(hR:F.Rep=Oo n)(hg:o.guard=none)(hdf:C5 o.op=false)(hd:C2 o.dst F.N=true)(hr:∀w,(execOp (AR O) o).runT P w #[]=(.ok (.comm #[rcase cj z] true (.recv true)) w,#[]))
  (x:∀i,i<n->Ga F ops l (some (.send co (.res i (ok i)) (Fl cj co cd ok m))) (putS O o.dst (.tuple #[.int .i64 i,.bool true])) ds h Q) (y:Ga F ops l (some (.send cd .tick .done)) (putS O o.dst (.tuple #[z,.bool false])) ds h Q) :
  Ga F ops (o ::l) (some (Fl cj co cd ok (m+1))) O ds h Q:=
 NQ (f:=U3 co cd ok (Fl cj co cd ok m)) hR hg hdf hd hr AAa (λs hs=>by
  cases s with
  | job i=>exact x i hs
  | res i b=>exact Hq
  | tick=>exact Hq) y
theorem VT(hR:F.Rep=Oo n)(hg:o.guard=none)(hdf:C5 o.op=false)(hd:C2 o.dst F.N=true)(hr:∀w,(execOp (AR O) o).runT P w #[]=(.ok (.comm #[rcase cd z] true (.recv false)) w,#[]))(hk:k<3)
  (x:Ga F ops l (some (EK co cd (3-(k+1)))) (putS O o.dst (.bool true)) ds h Q):Ga F ops (o ::l) (some (EK co cd (3-k))) O ds h Q:=
 JZ (XN hk) (NQ (f:=NH (EK co cd (3-(k+1)))) hR hg hdf hd hr XM (λs _=>by
  cases s with
  | job i=>exact Hq
  | res i b=>exact Hq
  | tick=>exact x) Hq)
theorem AAg(hR:F.Rep=Oo n)(hg:o.guard=none)(hdf:C5 o.op=false)(hd:C2 o.dst F.N=true)(hr:∀w,(execOp (AR O) o).runT P w #[]=(.ok (.comm #[rcase co z] true (.recv true)) w,#[]))
  (x:∀i,i<n->i ∈ R->Ga F ops l (some (Fm co ok m (R.erase i))) (putS O o.dst (.tuple #[.agg #[.int .i64 i,.bool (ok i)],.bool true])) ds h Q) (y:R=[]->Ga F ops l (some .stop) (putS O o.dst (.tuple #[z,.bool false])) ds h Q) :
  Ga F ops (o ::l) (some (Fm co ok (m+1) R)) O ds h Q:=
 NQ (f:=IT ok R (Fm co ok m)) hR hg hdf hd hr AAb (λs hs=>by
  cases s with
  | job i=>exact Hq
  | tick=>exact Hq
  | res i b=>
   by_cases e:i ∈ R/\b=ok i
   ·obtain ⟨e1,rfl⟩:=e;exact JZ (show some (IT ok R (Fm co ok m) (some (.res i (ok i))))=some (Fm co ok m (R.erase i)) by unfold IT;simp [e1]) (x i hs e1)
   ·exact JZ (show some (IT ok R (Fm co ok m) (some (.res i b)))=some .never by show some (if i ∈ R/\b=ok i then _ else _)=_;rw [if_neg e]) Hq) (by
  by_cases e:R=[]
  ·exact JZ (show some (IT ok R (Fm co ok m) none)=some .stop by unfold IT;rw [if_pos e]) (y e)
  ·exact JZ (show some (IT ok R (Fm co ok m) none)=some .never by unfold IT;rw [if_neg e]) Hq)
end
theorem CZ.flags{h h':GH}{js:List AK}(s:h.Same h')(x:CZ h js):CZ h' js:=λk=>(x k).flags s
theorem Ap.flags{h h':GH}{ns:List AH}(s:h.Same h')(x:Ap h ns):Ap h' ns:=λk=>(x k).flags s
theorem HZ.flags{h h':GH}{l:List Sl}(s:h.Same h')(a:HZ h l):HZ h' l:=λk=>(a k).flags s
theorem EL.flags{h h':GH}{r np:Nat}{ws:List AD}{pq:List AE}(s:h.Same h')(x:EL h r np ws pq):EL h' r np ws pq:=by
 obtain ⟨pm,M,⟨es,clk,hb,hl⟩,hM⟩:=x;obtain ⟨p',hb'⟩:=s _ _ _ hb;exact ⟨p',M,⟨es,clk,hb',hl⟩,hM⟩
theorem tr_lays5{P:Program}{E:Gh P}{id:Nat}{a0 a1 a2 a3 a4:Oper}{rest:List Oper}{d0 d1 d2 d3:Nat}{O:Nat->Value}{ds:List Deferred}{h:GH}{Q:Post}(o0 o1 o2 o3:Obj)(o4:Nat->Obj)(v0 v1 v2 v3:Nat->Value)(hm:P.follows .mixedOrders=true)
  (ok:GI E.N (a0 ::a1 ::a2 ::a3 ::a4 ::rest) 5 [[],[],[],[],[0,2,3]]=true)
  (g0:a0.guard=none) (g1:a1.guard=none) (g2:a2.guard=none) (g3:a3.guard=none) (g4:a4.guard=none) (e0:a0.dst=some d0) (e1:a1.dst=some d1) (e2:a2.dst=some d2) (e3:a3.dst=some d3)
  (l0:∀σ' h',BW E a0 σ' ds h' λσ'' ds'' h''=>ds''=ds/\∃r,σ''=putS σ' a0.dst (v0 r)/\h' r=none/\h'.Le h''/\h'' r=some (true,o0)) (l1:∀σ' h',BW E a1 σ' ds h' λσ'' ds'' h''=>ds''=ds/\∃r,σ''=putS σ' a1.dst (v1 r)/\h' r=none/\h'.Le h''/\h'' r=some (true,o1))
  (l2:∀σ' h',BW E a2 σ' ds h' λσ'' ds'' h''=>ds''=ds/\∃r,σ''=putS σ' a2.dst (v2 r)/\h' r=none/\h'.Le h''/\h'' r=some (true,o2)) (l3:∀σ' h',BW E a3 σ' ds h' λσ'' ds'' h''=>ds''=ds/\∃r,σ''=putS σ' a3.dst (v3 r)/\h' r=none/\h'.Le h''/\h'' r=some (true,o3))
  (l4:∀r0 r2 σ' h',σ' d0=v0 r0->σ' d2=v2 r2->h' r2=some (true,o2)->BW E a4 σ' ds h' λσ'' ds'' h''=>ds''=ds/\σ''=σ'/\h'' r2=some (true,o4 r0)/\∀b,b≠r2->h'' b=h' b)
  (fin:∀(r0 r1 r2 r3:Nat) σ' h',h.Le h'->(h r0=none/\h' r0=some (true,o0)/\σ' d0=v0 r0)->(h r1=none/\h' r1=some (true,o1)/\σ' d1=v1 r1)->(h r2=none/\h' r2=some (true,o4 r0)/\σ' d2=v2 r2)->(h r3=none/\h' r3=some (true,o3)/\σ' d3=v3 r3)->
   (r0≠r1/\r0≠r2/\r0≠r3/\r1≠r2/\r1≠r3/\r2≠r3)->(∀t,(DZ (a0 ::a1 ::a2 ::a3 ::a4 ::rest) 5).contains t=false->σ' t=O t)->DM E (a0 ::a1 ::a2 ::a3 ::a4 ::rest).toArray rest σ' ds h' Q):Tr E (.region id (a0 ::a1 ::a2 ::a3 ::a4 ::rest).toArray true) O ds h Q:=by
 let l:=a0 ::a1 ::a2 ::a3 ::a4 ::rest;let obj:Nat->Obj:=λi=>match i with | 0=>o0 | 1=>o1 | 2=>o2 | _=>o3
 let val:Nat->Nat->Value:=λi=>match i with | 0=>v0 | 1=>v1 | 2=>v2 | _=>v3
 have lay:∀i o,i<4->l[i]? =some o->∀σ' h',BW E o σ' ds h' λσ'' ds'' h''=>ds''=ds/\∃r,σ''=putS σ' o.dst (val i r)/\h' r=none/\h'.Le h''/\h'' r=some (true,obj i):=by
  intro i o hi ho σ' h';rcases i with _ | _ | _ | _ | i
  ·cases ho;exact l0 σ' h'
  ·cases ho;exact l1 σ' h'
  ·cases ho;exact l2 σ' h'
  ·cases ho;exact l3 σ' h'
  ·omega
 have nd:(DZ l 5).Nodup:=by
  have:=ok
  unfold GI at this;simp only [Bool.and_eq_true] at this;exact of_decide_eq_true this.1.2
 refine Uj 5 [[],[],[],[],[0,2,3]] (λD σ' h'=>h.Le h'/\(D 4=true->D 0=true/\D 2=true)/\∃rs:Nat->Nat,(∀i,i<4->D i=true->h (rs i)=none/\h' (rs i)=some (true,if i=2/\D 4=true then o4 (rs 0) else obj i)/\∀o d,l[i]? =some o->o.dst=some d->σ' d=val i (rs i))/\
  (∀i j,i<4->j<4->D i=true->D j=true->i≠j->rs i≠rs j)/\∀t,(DZ l 5).contains t=false->σ' t=O t) hm ok ⟨GH.Le.refl _,(λe=>by cases e),λ_=>0,(λ_ _ q=>by cases q),(λ_ _ _ _ q=>by cases q),λ_ _=>rfl⟩ ?_ ?_
 ·rintro D σ' h' i o ⟨l1',hD4,rs,h1,h2,h3⟩ hi hD ho hcl _;have hgd:o.guard=none:=by
   rcases i with _ | _ | _ | _ | _ | i
   ·cases ho;exact g0
   ·cases ho;exact g1
   ·cases ho;exact g2
   ·cases ho;exact g3
   ·cases ho;exact g4
   ·omega
  refine ⟨λ_=>?_,λq=>absurd (by unfold DQ;rw [hgd];trivial) q⟩;by_cases hi4:i=4
  ·subst hi4;have c0:D 0=true:=hcl 0 aD;have c2:D 2=true:=hcl 2 aD;cases ho;obtain ⟨q1,q2,q3⟩:=h1 0 aC c0;obtain ⟨p1,p2,p3⟩:=h1 2 aC c2;rw [if_neg (λe=>by rw [hD] at e;cases e.2)] at p2;refine (l4 (rs 0) (rs 2) σ' h' (q3 a0 d0 rfl e0) (p3 a2 d2 rfl e2) p2).mono λσ'' ds'' h'' q=>?_;obtain ⟨rfl,rfl,k1,k2⟩:=q;refine ⟨rfl,λb p x hb=>?_,λ_=>⟨by rw [Bm aC];exact c0,by rw [Bm aC];exact c2⟩,rs,λj hj hDj=>?_,λa b ha hb hDa hDb hab=>?_,h3⟩
   ·rw [k2 b λe=>by subst e;rw [p1] at hb;cases hb];exact l1' b p x hb
   ·rw [Bm aA] at hDj;obtain ⟨u1,u2,u3⟩:=h1 j hj hDj;refine ⟨u1,?_,u3⟩;by_cases ej:j=2
    ·subst ej;rw [if_pos ⟨rfl,if_pos rfl⟩];exact k1
    ·rw [if_neg (λe=>ej e.1),k2 _ (h2 j 2 hj aC hDj c2 ej)];rw [if_neg (λe=>ej e.1)] at u2;exact u2
   ·rw [Bm aA] at hDa hDb;exact h2 a b ha hb hDa hDb hab
  ·have hi':i<4:=aA
   refine (lay i o hi' ho σ' h').mono λσ'' ds'' h'' q=>?_;obtain ⟨rfl,r,rfl,hr,l2',hr2⟩:=q;have h4e:HR D i 4=D 4:=Bm (λe=>hi4 e.symm);have hne:∀j,j<4->D j=true->rs j≠r:=λj hj hDj e=>by
    have:=(h1 j hj hDj).2.1
    rw [e,hr] at this;cases this
   refine ⟨rfl,l1'.trans l2',λe=>?_,λj=>if j=i then r else rs j,λj hj hDj=>?_,λa b ha hb hDa hDb hab=>?_,λt ht=>?_⟩
   ·rw [h4e] at e;obtain ⟨c0,c2⟩:=hD4 e;exact ⟨by rw [Bm (λq=>by subst q;rw [hD] at c0;cases c0)];exact c0,by rw [Bm (λq=>by subst q;rw [hD] at c2;cases c2)];exact c2⟩
   ·by_cases e:j=i
    ·subst e;dsimp only;rw [if_pos rfl];refine ⟨l1'.nothing hr,?_,λo' d ho' hd=>?_⟩
     ·rw [if_neg (λe=>by have e2:=e.2;rw [h4e] at e2;have e3:=(hD4 e2).2;rw [<-e.1,hD] at e3;cases e3)];exact hr2
     ·obtain rfl:o'=o:=Option.some.inj (ho'.symm.trans ho);rw [hd];exact upd_same _ _ _
    ·dsimp only;rw [if_neg e];rw [Bm e] at hDj;obtain ⟨q1,q2,q3⟩:=h1 j hj hDj;refine ⟨q1,?_,λo' d ho' hd=>by rw [Cy λd' hd'=>D9 nd hi (aA:j<5) (λq=>e q.symm) ho ho' hd' hd];exact q3 o' d ho' hd⟩;rw [h4e];by_cases hc:j=2/\D 4=true
     ·rw [if_pos hc] at q2 ⊢;rw [if_neg (λq=>by have c0:=(hD4 hc.2).1;rw [q,hD] at c0;cases c0)];exact l2'.keep q2 rfl
     ·rw [if_neg hc] at q2 ⊢;exact l2'.keep q2 rfl
   ·show (if a=i then r else rs a)≠(if b=i then r else rs b);by_cases ea:a=i
    ·by_cases eb:b=i
     ·exact absurd (ea.trans eb.symm) hab
     ·rw [if_pos ea,if_neg eb];rw [Bm eb] at hDb;exact (hne b hb hDb).symm
    ·rw [Bm ea] at hDa;by_cases eb:b=i
     ·rw [if_neg ea,if_pos eb];exact hne a ha hDa
     ·rw [if_neg ea,if_neg eb];rw [Bm eb] at hDb;exact h2 a b ha hb hDa hDb hab
   ·rw [Cy (Hh hi ho ht)];exact h3 t ht
 ·rintro D σ' h' ⟨l1',hD4,rs,h1,h2,h3⟩ hall;have A:∀i,i<5->D i=true:=hall;have f0:=h1 0 aC (A 0 aC);have f1:=h1 1 aC (A 1 aC);have f2:=h1 2 aC (A 2 aC);have f3:=h1 3 aC (A 3 aC);rw [if_neg (λe=>by have:=e.1;omega)] at f0;rw [if_neg (λe=>by have:=e.1;omega)] at f1;rw [if_pos ⟨rfl,A 4 aC⟩] at f2;rw [if_neg (λe=>by have:=e.1;omega)] at f3;have ne:=λi j (hi:i<4) (hj:j<4)=>h2 i j hi hj (A i aA) (A j aA);exact fin (rs 0) (rs 1) (rs 2) (rs 3) σ' h' l1' ⟨f0.1,f0.2.1,f0.2.2 a0 d0 rfl e0⟩ ⟨f1.1,f1.2.1,f1.2.2 a1 d1 rfl e1⟩ ⟨f2.1,f2.2.1,f2.2.2 a2 d2 rfl e2⟩ ⟨f3.1,f3.2.1,f3.2.2 a3 d3 rfl e3⟩
   ⟨ne 0 1 aC aC aC,ne 0 2 aC aC aC,ne 0 3 aC aC aC,ne 1 2 aC aC aC,ne 1 3 aC aC aC,ne 2 3 aC aC aC⟩ h3
section
variable {h h' h0:GH} {r:Nat}
theorem GH.cut_ne{b:Nat}(e:b≠r):h.cut r b=h b:=if_neg e
theorem GH.Le.cut(l:h0.Le h)(n:h0 r=none):h0.Le (h.cut r):=λb p o hb=>by
 rw [GH.cut_ne λe=>by subst e;rw [n] at hb;cases hb];exact l b p o hb
theorem AQ.cut{V:Type}{v:Value}{t:TypeId}{n:Nat}{enc:V->Array Value}{xs:List V}(x:AQ h0 h v t n enc xs)(f:A4 v r):AQ h0 (h.cut r) v t n enc xs:=
 x.keep λb o hb ho=>by rw [GH.cut_ne λe=>by subst e;exact f hb];exact ho
theorem AQ.del'{V:Type}{v:Value}{t:TypeId}{n:Nat}{enc:V->Array Value}{xs:List V}(x:AQ h0 h v t n enc xs)(f:A4 v r):AQ h0 (h.del r) v t n enc xs:=
 x.keep λb o hb ho=>by rw [GH.del_ne λe=>by subst e;exact f hb];exact ho
theorem B0.keep3{X:Nat->Prop}{t0 T t:TypeId}{n l:Nat}{w v:Value}{p q:Bool}{c:Array Value}{f:Nat×Nat}{lo:Loop}{ys:List Sl}{hB:GH}{ys':List Int}(x:B0 h t0 v ys')(k:Bc X h h')(hX:∀b,X b->(b=r\/CV w=some b)\/b=l)(hr:h r=some (p,.cells c T f))(ow:AQ hB h w t n Jw ys)(hl:h l=some (q,.loop lo))(n1:T≠t0)(n2:t≠t0):B0 h' t0 v ys':=
 x.keepX k λb hb q2=>by
  obtain ⟨p2,c2,f2,e⟩:=x.2 b hb;rcases hX b q2 with (rfl | q3) | rfl
  ·rw [hr] at e;cases e;exact n1 rfl
  ·rcases ow with ⟨rfl,_⟩ | ⟨b1,cap,c1,rfl,_,h2,_⟩
   ·cases q3
   ·simp only [CV,Option.some.injEq] at q3;subst q3;rw [h2] at e;cases e;exact n2 rfl
  ·rw [hl] at e;cases e
theorem Bc.mono{X Y:Nat->Prop}(k:Bc X h h')(s:∀b,X b->Y b):Bc Y h h':=λb p o hb hn=>k b p o hb λx=>hn (s b x)
end
theorem AAh{n:Nat}{fl:List Sl}(h:A6 fl=C9 (CU n))(hn:n<=4)(i:Nat):T6 n (fl.getD i Sl.z).2:=by
 by_cases hi:i<fl.length
 ·refine KL (λx hx=>Ll hx) (by rw [C8];exact hn) (r:=(fl.getD i Sl.z).2) ?_;rw [<-h,<-Fy hi];exact Be (by rw [CH];exact hi)
 ·rw [Bq aA];exact ⟨λk hk=>absurd hk (Nat.not_lt_zero _),Nat.zero_le _⟩
theorem B0.storeD{h h':GH}{t:TypeId}{v:Value}{xs:List Int}{r:Nat}{p:Bool}{q:Option (List Deferred)}(x:B0 h t v xs)(hr:h r=some (p,.deferred q))(ho:∀b,b≠r->h' b=h b):B0 h' t v xs:=
 x.same λb hb=>ho b λe=>by
  obtain ⟨p2,c2,f2,z⟩:=x.2 b hb;rw [e,hr] at z;cases z
theorem B5.storeD{h h':GH}{t:TypeId}{l:List Sl}{r:Nat}{p:Bool}{q:Option (List Deferred)}(x:B5 h t l)(hr:h r=some (p,.deferred q))(ho:∀b,b≠r->h' b=h b):B5 h' t l:=λk=>
 (x k).same λb hb=>ho b λe=>by
  obtain ⟨p2,c2,f2,z⟩:=(x k).2 b hb;rw [e,hr] at z;cases z
theorem selS_all{fl:List Sl}{G:List Int->Bool}{all:List (List Int)}{k:Nat}(h:A6 fl=all)(h1:k<=fl.length)(h2:fl.length<=k):A6 (JY fl (λi=>G (fl.getD i Sl.z).2) k)=all.filter G:=by
 rw [QJ k h1,List.take_of_length_le (by rw [CH];exact h2),h]
theorem B5.sel{h:GH}{t:TypeId}{fl:List Sl}{ok:Nat->Bool}{k:Nat}(a:B5 h t fl):B5 h t (JY fl ok k):=by
 induction k with
 | zero=>exact B5.nil h t
 | succ k ih=>
  unfold JY;split
  ·exact B5.app ih (B5.one (a k))
  ·exact ih
end Go.Ns
namespace Go.Ns
theorem T8{P:Program}{O:Nat->Value}{h:GH}{fn:Func}{R:Value->GH->Prop}{a u s:Tmp}{t:TypeId}{b off:Nat}{v v' v2:Value}(hr:fn.results=#[.tmp u,.cell a t,.tmp s])(hv:O u=v)(ha:O a=.pointer (some ⟨b,off,none⟩))(hv':Rd P h t b off v')(hv2:O s=v2)(x:R (.tuple #[v,v',v2]) h):Gi P fn O R [] h:=by
 unfold Gi;rw [hr];subst hv;subst hv2;exact ⟨b,off,v',ha,hv',x⟩
section
variable (np:Nat) (ws:List AD) (js:List AK) (pq:List AE) (bag kinds:Int)
def Gu:List (List Int):=(C9 (CU js.length)).filter (λq=>B4 np ws js pq q bag kinds)
end
def Ja(g:List (List Int))(x:List Int):List (List Int):=if 0<g.length/\(g.getD 0 []).length<x.length then [] else g
def Jb(g:List (List Int))(x:List Int):List (List Int):=if g.length=0\/x.length=(g.getD 0 []).length then g++[x] else g
def E9(g:List (List Int))(x:List Int):List (List Int):=Jb (Ja g x) x
def KO(l:List (List Int)):Nat->List (List Int)
 | 0=>[]
 | k+1=>E9 (KO l k) (l.getD k [])
def HH(g:List Sl)(x:Sl):List Sl:=if 0<g.length/\(g.getD 0 Sl.z).2.length<x.2.length then [] else g
def IG(g:List Sl)(x:Sl):List Sl:=if g.length=0\/x.2.length=(g.getD 0 Sl.z).2.length then g++[x] else g
def DC(g:List Sl)(x:Sl):List Sl:=IG (HH g x) x
def BG(l:List Sl):Nat->List Sl
 | 0=>[]
 | k+1=>DC (BG l k) (l.getD k Sl.z)
section
variable {l g:List Sl} {x:Sl} {k:Nat}
theorem QL(h0:0<g.length)(h1:(g.getD 0 Sl.z).2.length<x.2.length):DC g x=[x]:=by
 unfold DC HH;rw [if_pos ⟨h0,h1⟩];rfl
theorem QM(h0:0<g.length)(h1:x.2.length=(g.getD 0 Sl.z).2.length):DC g x=g++[x]:=by
 unfold DC HH;rw [if_neg (λe=>by have:=e.2;omega)];unfold IG;rw [if_pos (.inr h1)]
theorem QN(h0:0<g.length)(h1:x.2.length<(g.getD 0 Sl.z).2.length):DC g x=g:=by
 unfold DC HH;rw [if_neg (λe=>by have:=e.2;omega)];unfold IG;rw [if_neg];rintro (e | e) <;> omega
theorem QO(h0:g.length=0):DC g x=g++[x]:=by
 unfold DC HH;rw [if_neg (λe=>by have:=e.1;omega)];unfold IG;rw [if_pos (.inl h0)]
theorem goodS_a(h0:0<(BG l k).length)(h1:((BG l k).getD 0 Sl.z).2.length<(l.getD k Sl.z).2.length):BG l (k+1)=[l.getD k Sl.z]:=QL h0 h1
theorem goodS_b(h0:0<(BG l k).length)(h1:(l.getD k Sl.z).2.length=((BG l k).getD 0 Sl.z).2.length):BG l (k+1)=BG l k++[l.getD k Sl.z]:=QM h0 h1
theorem goodS_c(h0:0<(BG l k).length)(h1:¬((BG l k).getD 0 Sl.z).2.length<(l.getD k Sl.z).2.length)(h2:¬(l.getD k Sl.z).2.length=((BG l k).getD 0 Sl.z).2.length):BG l (k+1)=BG l k:=QN h0 aA
theorem goodS_d(h0:(BG l k).length=0):BG l (k+1)=BG l k++[l.getD k Sl.z]:=QO h0
theorem goodS_t(h1:¬(0<(BG l k).length/\((BG l k).getD 0 Sl.z).2.length<(l.getD k Sl.z).2.length))(h2:(BG l k).length=0\/(l.getD k Sl.z).2.length=((BG l k).getD 0 Sl.z).2.length):BG l (k+1)=BG l k++[l.getD k Sl.z]:=by
 by_cases h0:(BG l k).length=0
 ·exact goodS_d h0
 ·exact goodS_b aA aA
theorem goodS_f(h1:¬(0<(BG l k).length/\((BG l k).getD 0 Sl.z).2.length<(l.getD k Sl.z).2.length))(h2:¬((BG l k).length=0\/(l.getD k Sl.z).2.length=((BG l k).getD 0 Sl.z).2.length)):BG l (k+1)=BG l k:=goodS_c aA aA aA
theorem IH(g:List Sl)(x:Sl):DC g x=[x]\/DC g x=g++[x]\/(DC g x=g/\0<g.length):=by
 by_cases h0:g.length=0
 ·exact .inr (.inl (QO h0))
 ·by_cases h1:(g.getD 0 Sl.z).2.length<x.2.length
  ·exact .inl (QL aA h1)
  ·by_cases h2:x.2.length=(g.getD 0 Sl.z).2.length
   ·exact .inr (.inl (QM aA h2))
   ·exact .inr (.inr ⟨QN aA aA,aA⟩)
theorem AAi:∀k,0<k->0<(BG l k).length
 | k+1,_=>by
  show 0<(DC (BG l k) (l.getD k Sl.z)).length;rcases IH (BG l k) (l.getD k Sl.z) with e | e | ⟨e,h⟩ <;> rw [e]
  ·exact Nat.zero_lt_one
  ·rw [List.length_append];exact Nat.succ_pos _
  ·exact h
theorem SG:∀k,(BG l k).length<=k
 | 0=>Nat.le_refl _
 | k+1=>by
  have ih:=SG k;show (DC (BG l k) (l.getD k Sl.z)).length<=_;rcases IH (BG l k) (l.getD k Sl.z) with e | e | ⟨e,_⟩ <;> rw [e]
  ·simp
  ·rw [List.length_append,List.length_singleton];omega
  ·omega
theorem NR:∀k,k<=l.length->∀y ∈ BG l k,y ∈ l
 | 0,_,y,hy=>by cases hy
 | k+1,hk,y,hy=>by
  have ih:=NR k aA;have hx:l.getD k Sl.z ∈ l:=Be aA;change y ∈ DC (BG l k) (l.getD k Sl.z) at hy;rcases IH (BG l k) (l.getD k Sl.z) with e | e | ⟨e,_⟩ <;> rw [e] at hy
  ·rw [List.mem_singleton.1 hy];exact hx
  ·rcases List.mem_append.1 hy with hy | hy
   ·exact ih y hy
   ·rw [List.mem_singleton.1 hy];exact hx
  ·exact ih y hy
theorem OQ:∀k,k<=l.length->A6 (BG l k)=KO (A6 l) k
 | 0,_=>rfl
 | k+1,hk=>by
  have ih:=OQ k aA;have hg:∀g:List Sl,(g.getD 0 Sl.z).2=(A6 g).getD 0 []:=λg=>by cases g <;> rfl
  show A6 (DC (BG l k) (l.getD k Sl.z))=E9 (KO (A6 l) k) ((A6 l).getD k []);rw [<-ih,Fy aA];have hc:A6 (HH (BG l k) (l.getD k Sl.z))=Ja (A6 (BG l k)) (l.getD k Sl.z).2:=by
   unfold HH Ja;rw [hg,CH];split <;> rfl
  have ha:∀g:List Sl,A6 (IG g (l.getD k Sl.z))=Jb (A6 g) (l.getD k Sl.z).2:=λg=>by
   unfold IG Jb;rw [hg,CH];split
   ·rw [NN];rfl
   ·rfl
  show A6 (IG (HH (BG l k) (l.getD k Sl.z)) (l.getD k Sl.z))=Jb (Ja (A6 (BG l k)) _) _;rw [ha,hc]
end
theorem B5.good{h:GH}{t:TypeId}{l:List Sl}{k:Nat}(a:B5 h t l)(hk:k<=l.length):B5 h t (BG l k):=.of λx hx=>a.at (NR k hk x hx)
section
variable {np:Nat} {ws:List AD} {js:List AK} {pq:List AE} {bag kinds:Int} {fs:List Sl}
theorem Za(h:A6 fs=Gu np ws js pq bag kinds)(hn:js.length<=4):∀x ∈ fs,T6 js.length x.2:=λx hx=>by
 have:x.2 ∈ A6 fs:=List.mem_map_of_mem hx
 rw [h] at this;exact KL (λy hy=>Ll hy) (by rw [C8];exact hn) (List.mem_filter.1 this).1
theorem VU(h:A6 fs=Gu np ws js pq bag kinds)(hn:js.length<=4)(i:Nat):T6 js.length (fs.getD i Sl.z).2:=by
 by_cases hi:i<fs.length
 ·exact Za h hn _ (Be hi)
 ·rw [Bq aA];exact ⟨λk hk=>absurd hk (Nat.not_lt_zero _),Nat.zero_le _⟩
theorem safe_nil(hb:0<=bag):B4 np ws js pq [] bag kinds=true:=by
 unfold B4;have e:(B2 kinds js []).sum=0:=by
  show (List.replicate kinds.toNat (0:Int)).sum=0;generalize kinds.toNat=n
  induction n with
  | zero=>rfl
  | succ n ih=>rw [List.replicate_succ,List.sum_cons,ih];rfl
 rw [e,decide_eq_true hb];rfl
theorem QP(hb:0<=bag):0<(Gu np ws js pq bag kinds).length:=by
 refine List.length_pos_of_mem (a:=[]) (List.mem_filter.2 ⟨?_,safe_nil hb⟩);unfold C9;rw [Fp];exact List.mem_cons_self
theorem QQ(hn:js.length<=4):(Gu np ws js pq bag kinds).length<=625:=
 Nat.le_trans (List.length_filter_le _ _) (Hp (by rw [C8];exact hn))
theorem SH{G:List Int->Int}:∀(l:List (List Int)),0<l.length->∀k,k<=l.length-1->(Dh G l k).1 ∈ l
 | l,h,0,_=>Be h
 | l,h,k+1,hk=>by
  unfold Dh;split
  ·exact List.mem_of_mem_drop (Be (by rw [List.length_drop];omega))
  ·exact SH l h k aA
theorem MZ{n:Nat}{G:List Int->Int}{l:List Sl}(h:∀x ∈ l,T6 n x.2)(hl:0<l.length):T6 n (DI G (A6 l)):=by
 have:=SH (G:=G) (A6 l) (by rw [CH];exact hl) ((A6 l).length-1) (Nat.le_refl _)
 obtain ⟨x,hx,e⟩:=List.mem_map.1 this;unfold DI;rw [<-e];exact h x hx
end
section
variable (bag kinds:Int) (ps:List ByteArray) (ws:List AD) (js:List AK) (ns:List AH)
def XP:List Int:=DI (λl=>Bu (λx=>AW ps.length ws js x l) (AC ws js ns)) (KO (Gu ps.length ws js (AC ws js ns) bag kinds) (Gu ps.length ws js (AC ws js ns) bag kinds).length)
def II:List Int:=if¬Ae bag kinds ps ws js ns 0=0 then [] else XP bag kinds ps ws js ns
end
section
variable {bag kinds:Int} {ps:List ByteArray} {ws:List AD} {js:List AK} {ns:List AH} {fs:List Sl} {k:Nat}
theorem best_end(h:A6 fs=Gu ps.length ws js (AC ws js ns) bag kinds)(h1:k<=fs.length)(h2:fs.length<=k):XP bag kinds ps ws js ns=DI (λl=>Bu (λx=>AW ps.length ws js x l) (AC ws js ns)) (A6 (BG fs k)):=by
 unfold XP;rw [OQ k h1,h,<-h,CH,show fs.length=k by omega]
theorem VV(h0:¬¬Ae bag kinds ps ws js ns 0=0)(h:A6 fs=Gu ps.length ws js (AC ws js ns) bag kinds)(h1:k<=fs.length)(h2:fs.length<=k):II bag kinds ps ws js ns=DI (λl=>Bu (λx=>AW ps.length ws js x l) (AC ws js ns)) (A6 (BG fs k)):=(if_neg h0).trans (best_end h h1 h2)
end
def T9(c:Ge)(l:List Int):Nat->Ge
 | 0=>c
 | i+1=>(T9 c l i).set (l.getD i 0).toNat true
def Gv(ls:List (List Int)):Nat->Ge
 | 0=>Ge.none
 | k+1=>T9 (Gv ls k) (ls.getD k []) (ls.getD k []).length
def FA(c:Ge):Nat->List Int
 | 0=>[]
 | q+1=>if c q=true then FA c q else FA c q++[(q:Int)]
theorem neverL_t{c:Ge}{q:Nat}(h:c q=true):FA c (q+1)=FA c q:=if_pos h
theorem neverL_f{c:Ge}{q:Nat}(h:c q=false):FA c (q+1)=FA c q++[(q:Int)]:=if_neg (by rw [h];simp)
theorem QR(c:Ge):∀q,(FA c q).length<=q
 | 0=>Nat.le_refl _
 | q+1=>by
  have:=QR c q
  unfold FA;split
  ·omega
  ·rw [List.length_append,List.length_singleton];omega
section
variable (bag kinds:Int) (ps:List ByteArray) (ws:List AD) (js:List AK) (ns:List AH)
def NS:List Int:=if¬Ae bag kinds ps ws js ns 0=0 then [] else FA (Gv (Gu ps.length ws js (AC ws js ns) bag kinds) (Gu ps.length ws js (AC ws js ns) bag kinds).length) js.length
end
section
variable {bag kinds:Int} {ps:List ByteArray} {ws:List AD} {js:List AK} {ns:List AH} {fs:List Sl} {k q:Nat}
theorem AAj{i:Nat}(hk:k<fs.length)(h1:i<=(fs.getD k Sl.z).2.length)(h2:(fs.getD k Sl.z).2.length<=i):Gv (A6 fs) (k+1)=T9 (Gv (A6 fs) k) (fs.getD k Sl.z).2 i:=by
 unfold Gv;rw [Fy hk,show (fs.getD k Sl.z).2.length=i by omega];cases k <;> rfl
theorem AAk(h0:¬¬Ae bag kinds ps ws js ns 0=0)(h:A6 fs=Gu ps.length ws js (AC ws js ns) bag kinds)(h1:k<=fs.length)(h2:fs.length<=k)(h3:q<=js.length)(h4:js.length<=q):NS bag kinds ps ws js ns=FA (Gv (A6 fs) k) q:=
 (if_neg h0).trans (by rw [<-h,CH,show fs.length=k by omega,show js.length=q by omega])
end
end Go.Ns
namespace Go.Ns
theorem VW{nj:Nat}{l:List Int}(h:Ah nj l=0):l.Nodup:=by
 rw [List.nodup_iff_pairwise_ne];rw [List.pairwise_iff_getElem];intro i j hi hj hij e;have h1:=DS h j (Nat.zero_le _) aA;unfold EH at h1;split at h1
 ·rename_i a;exact a h1
 ·split at h1
  ·cases h1
  ·rename_i a
   refine a (List.any_eq_true.2 ⟨l[i],List.mem_take_iff_getElem.2 ⟨i,aA,rfl⟩,?_⟩);rw [List.getD_eq_getElem?_getD,List.getElem?_eq_getElem hj];exact decide_eq_true e.symm
theorem OR{jobs:List Int}(nd:jobs.Nodup):∀(rest done:List Int),jobs=done++rest->jobs ∈ BQ jobs rest.length done
 | [],done,e=>by rw [e,List.append_nil];exact List.mem_singleton.2 rfl
 | k ::rest,done,e=>by
  have ih:=OR nd rest (done++[k]) (by rw [e];simp);show jobs ∈ done ::jobs.flatMap _;refine List.mem_cons_of_mem _ (List.mem_flatMap.2 ⟨k,by rw [e];simp,?_⟩);have hn:Ho done k=false:=by
   cases hh:Ho done k with
   | false=>rfl
   | true=>
    exfalso;obtain ⟨x,hx,hk⟩:=List.any_eq_true.1 hh;have hk':k=x:=of_decide_eq_true hk;rw [e,List.nodup_append] at nd;exact nd.2.2 x hx k List.mem_cons_self hk'.symm
  rw [if_neg (by rw [hn];simp)];exact ih
def Zb(jobs:List Int)(n:Nat):List (List Int):=(C9 jobs).filter λq=>decide (q.length=n)
theorem AAl{l:List Int}(nd:l.Nodup):0<(Zb (Ew l) l.length).length:=by
 have hs:(Ew l).Nodup:=by rw [J9];exact (List.mergeSort_perm l _).nodup_iff.2 nd
 have:=OR hs (Ew l) [] rfl
 exact List.length_pos_of_mem (List.mem_filter.2 ⟨this,decide_eq_true (D2 l)⟩)
section
variable (bag kinds:Int) (ps:List ByteArray) (ws:List AD) (js:List AK) (ns:List AH) (l:List Int)
def swiftL:List Int:=DI (λl=>Bu (λx=>AW ps.length ws js x l) (AC ws js ns)) (Zb (Ew l) l.length)
def Ir:List Int:=if¬Ae bag kinds ps ws js ns (Ah js.length l)=0 then [] else swiftL ps ws js ns l
end
section
variable {bag kinds:Int} {ps:List ByteArray} {ws:List AD} {js:List AK} {ns:List AH} {l:List Int} {fl:List Sl} {nj:Nat}
theorem SI(h0:¬¬Ae bag kinds ps ws js ns (Ah js.length l)=0)(h:A6 fl=Zb (Ew l) l.length):Ir bag kinds ps ws js ns l=DI (λl=>Bu (λx=>AW ps.length ws js x l) (AC ws js ns)) (A6 fl):=(if_neg h0).trans (by unfold swiftL;rw [h])
theorem full_ok(h:A6 fl=Zb (Ew l) l.length)(hr:∀k,k<l.length->0<=l.getD k 0/\l.getD k 0<nj)(h4:l.length<=4):∀x ∈ fl,T6 nj x.2:=λx hx=>by
 have:x.2 ∈ A6 fl:=List.mem_map_of_mem hx
 rw [h] at this;refine KL (λy hy=>?_) (by rw [D2];exact h4) (List.mem_filter.1 this).1;rw [J9,List.mem_mergeSort] at hy;obtain ⟨i,hi,e⟩:=List.mem_iff_getElem.1 hy
 have:=hr i hi
 rw [List.getD_eq_getElem?_getD,List.getElem?_eq_getElem hi,Option.getD_some,e] at this;exact this
end
end Go.Ns
namespace Go.Ns
def PV(h:GH)(t:TypeId)(f:Nat->Value)(L:Nat->List Int)(k:Nat):Prop:=∀i,i<k->B0 h t (f i) (L i)
section
variable {h h' h0:GH} {t t':TypeId} {f:Nat->Value} {L:Nat->List Int} {k r:Nat} {w v v':Value} {p:Bool} {c:Array Value} {g:Nat×Nat}
theorem PV.zero:PV h t f L 0:=λ_ hi=>absurd hi (Nat.not_lt_zero _)
theorem PV.le(x:PV h t f L k)(l:h.Le h'):PV h' t f L k:=λi hi=>(x i hi).le l
theorem PV.store(x:PV h t f L k)(hr:h r=some (p,.cells c t' g))(ne:t'≠t)(ho:∀b,b≠r->h' b=h b):PV h' t f L k:=λi hi=>(x i hi).store hr ne ho
theorem PV.next(x:PV h t f L k)(y:B0 h t w (L k)):PV h t (λi=>if i=k then w else f i) L (k+1):=λi hi=>by
 show B0 h t (if i=k then w else f i) (L i);by_cases e:i=k
 ·rw [if_pos e,e];exact y
 ·rw [if_neg e];exact x i aA
end
def AK.re(j:AK)(v:Value):AK:={ j with pv:=v }
def AH.re(j:AH)(v:Value):AH:={ j with wv:=v }
def IJ(js:List AK)(f:Nat->Value)(k:Nat):List AK:=(List.range js.length).map λi=>if i<k then (js.getD i AK.z).re (f i) else js.getD i AK.z
def Iv(ns:List AH)(f:Nat->Value)(k:Nat):List AH:=(List.range ns.length).map λi=>if i<k then (ns.getD i AH.z).re (f i) else ns.getD i AH.z
section
variable {V:Type} {z:V} {l:List V} {F:Nat->V->V} {k:Nat}
def reL(z:V)(l:List V)(F:Nat->V->V)(k:Nat):List V:=(List.range l.length).map λi=>if i<k then F i (l.getD i z) else l.getD i z
theorem Kt:(reL z l F k).length=l.length:=by unfold reL;rw [List.length_map,List.length_range]
theorem IW{i:Nat}(hi:i<l.length):(reL z l F k).getD i z=if i<k then F i (l.getD i z) else l.getD i z:=by
 unfold reL;rw [List.getD_eq_getElem?_getD,List.getElem?_map,List.getElem?_range hi];rfl
theorem UA{i:Nat}(hi:i<(reL z l F k).length):(reL z l F k)[i]=if i<k then F i (l.getD i z) else l.getD i z:=by
 have e:=IW (z:=z) (F:=F) (k:=k) (show i<l.length by rw [<-Kt (z:=z) (F:=F) (k:=k)];exact hi);rw [List.getD_eq_getElem?_getD,List.getElem?_eq_getElem hi] at e;exact e
theorem reL_0:reL z l F 0=l:=by
 refine List.ext_getElem Kt λi h1 h2=>?_;rw [UA,if_neg (Nat.not_lt_zero _),List.getD_eq_getElem?_getD,List.getElem?_eq_getElem h2];rfl
theorem Zc{G:Nat->V->V}(hk:k<l.length)(hG:∀i,i<k->∀x,G i x=F i x):(reL z l F k).set k (G k ((reL z l F k).getD k z))=reL z l G (k+1):=by
 rw [IW hk,if_neg (Nat.lt_irrefl _)];refine List.ext_getElem (by rw [List.length_set,Kt,Kt]) λi h1 h2=>?_;rw [List.getElem_set,UA];by_cases e:k=i
 ·subst e;rw [if_pos rfl,UA,if_pos aA]
 ·rw [if_neg e,UA];by_cases e2:i<k
  ·rw [if_pos e2,if_pos aA,hG i e2]
  ·rw [if_neg e2,if_neg aA]
end
section
variable {h:GH} {t:TypeId} {f:Nat->Value} {js:List AK} {ns:List AH} {k:Nat} {w:Value}
theorem QS:IJ js f k=reL AK.z js (λi j=>j.re (f i)) k:=rfl
theorem QT:Iv ns f k=reL AH.z ns (λi j=>j.re (f i)) k:=rfl
theorem O6(js:List AK)(f:Nat->Value)(k:Nat):(IJ js f k).length=js.length:=by rw [QS];exact Kt
theorem O7(ns:List AH)(f:Nat->Value)(k:Nat):(Iv ns f k).length=ns.length:=by rw [QT];exact Kt
theorem reJ_0:IJ js f 0=js:=by rw [QS];exact reL_0
theorem reN_0:Iv ns f 0=ns:=by rw [QT];exact reL_0
theorem reJ_put(hk:k<js.length):(IJ js f k).set k (((IJ js f k).getD k AK.z).re w)=IJ js (λi=>if i=k then w else f i) (k+1):=by
 have:=Zc (z:=AK.z) (l:=js) (F:=λi j=>j.re (f i)) (G:=λi j=>j.re (if i=k then w else f i)) hk (λi hi x=>by rw [if_neg aA])
 rw [if_pos rfl] at this;exact this
theorem reN_put(hk:k<ns.length):(Iv ns f k).set k (((Iv ns f k).getD k AH.z).re w)=Iv ns (λi=>if i=k then w else f i) (k+1):=by
 have:=Zc (z:=AH.z) (l:=ns) (F:=λi j=>j.re (f i)) (G:=λi j=>j.re (if i=k then w else f i)) hk (λi hi x=>by rw [if_neg aA])
 rw [if_pos rfl] at this;exact this
theorem SJ(js:List AK)(f:Nat->Value)(k i:Nat):((IJ js f k).getD i AK.z).parts=(js.getD i AK.z).parts:=by
 by_cases hi:i<js.length
 ·rw [QS,IW hi];split <;> rfl
 ·rw [Bq (by rw [O6];omega),Bq aA]
theorem VX(ns:List AH)(f:Nat->Value)(k i:Nat):((Iv ns f k).getD i AH.z).ways=(ns.getD i AH.z).ways:=by
 by_cases hi:i<ns.length
 ·rw [QT,IW hi];split <;> rfl
 ·rw [Bq (by rw [O7];omega),Bq aA]
theorem CZ.re(x:CZ h js)(y:PV h t f (λi=>(js.getD i AK.z).parts) k):CZ h (IJ js f k):=λi=>by
 by_cases hi:i<js.length
 ·rw [QS,IW hi];by_cases e:i<k
  ·rw [if_pos e];exact (y i e).1
  ·rw [if_neg e];exact x i
 ·rw [Bq (by rw [O6];omega)];exact AO.nil _ _ _
theorem Ap.re(x:Ap h ns)(y:PV h t f (λi=>(ns.getD i AH.z).ways) k):Ap h (Iv ns f k):=λi=>by
 by_cases hi:i<ns.length
 ·rw [QT,IW hi];by_cases e:i<k
  ·rw [if_pos e];exact (y i e).1
  ·rw [if_neg e];exact x i
 ·rw [Bq (by rw [O7];omega)];exact AO.nil _ _ _
def DA(h:GH)(t:TypeId)(js:List AK):Prop:=∀k,B0 h t (js.getD k AK.z).pv (js.getD k AK.z).parts
def EN(h:GH)(t:TypeId)(ns:List AH):Prop:=∀k,B0 h t (ns.getD k AH.z).wv (ns.getD k AH.z).ways
theorem DA.jobs(x:DA h t js):CZ h js:=λk=>(x k).1
theorem EN.notes(x:EN h t ns):Ap h ns:=λk=>(x k).1
theorem DA.le{h':GH}(x:DA h t js)(l:h.Le h'):DA h' t js:=λk=>(x k).le l
theorem EN.le{h':GH}(x:EN h t ns)(l:h.Le h'):EN h' t ns:=λk=>(x k).le l
theorem DA.store{h':GH}{t':TypeId}{r:Nat}{p:Bool}{c:Array Value}{g:Nat×Nat}(x:DA h t js)(hr:h r=some (p,.cells c t' g))(ne:t'≠t)(ho:∀b,b≠r->h' b=h b):DA h' t js:=λk=>(x k).store hr ne ho
theorem EN.store{h':GH}{t':TypeId}{r:Nat}{p:Bool}{c:Array Value}{g:Nat×Nat}(x:EN h t ns)(hr:h r=some (p,.cells c t' g))(ne:t'≠t)(ho:∀b,b≠r->h' b=h b):EN h' t ns:=λk=>(x k).store hr ne ho
theorem DA.of(y:PV h t f (λi=>(js.getD i AK.z).parts) k)(hk:js.length<=k):DA h t (IJ js f k):=λi=>by
 by_cases hi:i<js.length
 ·rw [QS,IW hi,if_pos aA];exact y i aA
 ·rw [Bq (by rw [O6];omega)];exact B0.nil _ _
theorem EN.of(y:PV h t f (λi=>(ns.getD i AH.z).ways) k)(hk:ns.length<=k):EN h t (Iv ns f k):=λi=>by
 by_cases hi:i<ns.length
 ·rw [QT,IW hi,if_pos aA];exact y i aA
 ·rw [Bq (by rw [O7];omega)];exact B0.nil _ _
theorem CZ.fine1(x:CZ h js)(k:Nat):(Cm (js.getD k AK.z)).toList.all (·.oneCell')=true:=by
 show (true && (true && (true && (true && (((js.getD k AK.z).pv.oneCell') && true)))))=true;rw [(AO.one (x k)).2];rfl
theorem CZ.fine(x:CZ h js):∀y ∈ js,(Cm y).toList.all (·.oneCell')=true:=λy hy=>by
 obtain ⟨i,hi,e⟩:=List.mem_iff_getElem.1 hy
 have:=x.fine1 i
 rw [List.getD_eq_getElem?_getD,List.getElem?_eq_getElem hi] at this;rw [<-e];exact this
theorem Ap.snoc{x:AH}(a:Ap h ns)(b:AO h x.wv 1 eI x.ways):Ap h (ns++[x]):=λk=>by
 rw [I4];split
 ·exact a k
 ·cases hk:k-ns.length with
  | zero=>exact b
  | succ n=>rw [Bq aD];exact AO.nil _ _ _
end
theorem A7.copy{bag kinds:Int}{ps:List ByteArray}{ws:List AD}{js:List AK}{ns:List AH}(b:A7 bag kinds ps ws js ns):(∀i,(js.getD i AK.z).parts.length<=1000)/\∀i,(ns.getD i AH.z).ways.length<=1000:=by
 refine ⟨λi=>?_,λi=>Nat.le_trans (P6 b.note i).1 aC⟩;by_cases hi:i<js.length
 ·have:=(I3 (b.job i hi)).len
  have:=b.hkin
  omega
 ·rw [Bq aA];exact Nat.zero_le _
end Go.Ns
namespace Go.Ns
section
variable {P:Program} {E:Gh P} {O:Nat->Value} {ds:List Deferred} {h:GH} {T:(Nat->Value)->List Deferred->GH->Prop} {dst:Option Nat} {ty:TypeId} {pos:String} {af:Array Edge} {gd:Option (Nat×Bool)}
theorem XQ{s:ByteArray}{i:Nat}(h:i<s.size):((s[i]'h).toNat:Int)=(bytesOf s).getD i 0:=by
 have h2:i<(bytesOf s).length:=by rw [C7];exact h
 rw [DU 0 h2];exact (List.getElem_map (l:=s.data.toList) (f:=λb=>(b.toNat:Int)) (h:=h2)).symm
theorem QU{t:TypeId}{x ix:Operand}{s:ByteArray}{kd:IntKind}{i:Int}(ht:PK P t=true)(hx:AR O x=.string s)(hi:AR O ix=.int kd i)(h0:0<=i)(h1:i<s.size)(k:T (putS O dst (.int .u8 ((bytesOf s).getD i.toNat 0))) ds h) :
  BW E ⟨dst,.index t x ix,ty,pos,af,gd⟩ O ds h T:=Rn ht hx hi h0 h1 (by rw [XQ];exact k)
end
theorem VY{s:ByteArray}(h:¬(1<=(s.size:Int)/\(s.size:Int)<=10)):E4 s=false:=by unfold E4;rw [decide_eq_false h,Bool.and_false]
theorem VZ{a b:List UInt8}{v:Bool}(h:(a==b)=v):(b==a)=v:=by rw [<-h];exact BEq.comm
def Is(l:List Int)(k:Nat)(p q:Int):List Int:=if p=l.getD k 0/\¬q ∈ l then l++[q] else l
def DD(l:List Int)(k:Nat)(x:AD):List Int:=Is (Is l k x.a x.b) k x.b x.a
def Aj(ws:List AD)(l:List Int)(k:Nat):Nat->List Int
 | 0=>l
 | j+1=>DD (Aj ws l k j) k (ws.getD j AD.z)
def Ay(ws:List AD):Nat->List Int
 | 0=>[0]
 | k+1=>if k<(Ay ws k).length then Aj ws (Ay ws k) k ws.length else Ay ws k
def HW(ws:List AD):List Int:=Ay ws 4
def IK(np:Nat)(l:List Int):Prop:=l.Nodup/\(∀x ∈ l,0<=x/\x<np)/\0<l.length
def QV(np:Nat)(ws:List AD):Prop:=∀k,k<ws.length->(0<=(ws.getD k AD.z).a/\(ws.getD k AD.z).a<np)/\0<=(ws.getD k AD.z).b/\(ws.getD k AD.z).b<np
section
variable {np:Nat} {l:List Int} {ws:List AD} {k j:Nat} {x:Int} {w:AD}
theorem IK.len(h:IK np l):l.length<=np:=by
 refine Tz np l.length (λk=>(l.getD k 0).toNat) (λi hi=>?_) λi j hij hj=>?_
 ·have:=h.2.1 _ (Be (d:=(0:Int)) hi)
  show (l.getD i 0).toNat<np;omega
 ·have h1:=h.2.1 _ (Be (d:=(0:Int)) hj);have h2:=h.2.1 _ (Be (d:=(0:Int)) (show i<l.length by omega));show (l.getD i 0).toNat≠(l.getD j 0).toNat;intro e;have e2:l.getD i 0=l.getD j 0:=aA
  rw [List.getD_eq_getElem?_getD,List.getD_eq_getElem?_getD,List.getElem?_eq_getElem aA,List.getElem?_eq_getElem hj,Option.getD_some,Option.getD_some] at e2
  have:=(List.pairwise_iff_getElem.1 (List.nodup_iff_pairwise_ne.1 h.1)) i j aA hj hij
  exact this e2
theorem IK.snoc(h:IK np l)(hx:0<=x/\x<np)(n:¬x ∈ l):IK np (l++[x]):=
 ⟨List.nodup_append.2 ⟨h.1,aD,λa ha b hb e=>by rw [List.mem_singleton.1 hb] at e;exact n (e▸ha)⟩,λy hy=>by
  rcases List.mem_append.1 hy with hy | hy
  ·exact h.2.1 y hy
  ·rw [List.mem_singleton.1 hy];exact hx,aD⟩
theorem Ma{p q:Int}(h1:p=l.getD k 0)(h2:¬q ∈ l):Is l k p q=l++[q]:=if_pos ⟨h1,h2⟩
theorem Mb{p q:Int}(h:¬(p=l.getD k 0/\¬q ∈ l)):Is l k p q=l:=if_neg h
theorem rs_tt(h1:w.a=l.getD k 0/\¬w.b ∈ l)(h2:w.b=(l++[w.b]).getD k 0/\¬w.a ∈ l++[w.b]):DD l k w=l++[w.b]++[w.a]:=by unfold DD;rw [Ma h1.1 h1.2,Ma h2.1 h2.2]
theorem rs_tf(h1:w.a=l.getD k 0/\¬w.b ∈ l)(h2:¬(w.b=(l++[w.b]).getD k 0/\¬w.a ∈ l++[w.b])):DD l k w=l++[w.b]:=by unfold DD;rw [Ma h1.1 h1.2,Mb h2]
theorem rs_ft(h1:¬(w.a=l.getD k 0/\¬w.b ∈ l))(h2:w.b=l.getD k 0/\¬w.a ∈ l):DD l k w=l++[w.a]:=by unfold DD;rw [Mb h1,Ma h2.1 h2.2]
theorem rs_ff(h1:¬(w.a=l.getD k 0/\¬w.b ∈ l))(h2:¬(w.b=l.getD k 0/\¬w.a ∈ l)):DD l k w=l:=by unfold DD;rw [Mb h1,Mb h2]
theorem SK{p q:Int}(h:IK np l)(hq:0<=q/\q<np):IK np (Is l k p q):=by
 unfold Is;split
 ·rename_i c;exact h.snoc hq c.2
 ·exact h
theorem Lm(l:List Int)(k:Nat)(p q:Int):l<+:Is l k p q:=by
 unfold Is;split
 ·exact List.prefix_append _ _
 ·exact List.prefix_refl _
theorem UB(h:IK np l)(ha:0<=w.a/\w.a<np)(hb:0<=w.b/\w.b<np):IK np (DD l k w):=SK (SK h hb) ha
theorem RO(l:List Int)(k:Nat)(w:AD):l<+:DD l k w:=(Lm _ _ _ _).trans (Lm _ _ _ _)
theorem Jc(h:IK np l)(hw:QV np ws):∀j,j<=ws.length->IK np (Aj ws l k j)
 | 0,_=>h
 | j+1,hj=>UB (Jc h hw j aA) (hw j aA).1 (hw j aA).2
theorem It:∀j,l<+:Aj ws l k j
 | 0=>List.prefix_refl _
 | j+1=>(It j).trans (RO _ _ _)
theorem Ku(hn:0<np)(hw:QV np ws):∀k,IK np (Ay ws k)
 | 0=>⟨by simp [Ay],λx hx=>by rw [List.mem_singleton.1 hx];omega,Nat.zero_lt_one⟩
 | k+1=>by
  unfold Ay;split
  ·exact Jc (Ku hn hw k) hw _ (Nat.le_refl _)
  ·exact Ku hn hw k
theorem OS(hk:k<(Ay ws k).length):Ay ws (k+1)=Aj ws (Ay ws k) k ws.length:=if_pos hk
theorem OT(hk:(Ay ws k).length<=k):∀m,k<=m->Ay ws m=Ay ws k
 | 0,h=>by rw [show k=0 by omega]
 | m+1,h=>by
  by_cases e:m+1=k
  ·rw [e]
  ·have ih:=OT hk m aA
   have:Ay ws (m+1)=Ay ws m:=by
    conv=>lhs;unfold Ay
    rw [if_neg (by rw [ih];omega)]
   rw [this,ih]
theorem AAm(hk:(Ay ws k).length<=k)(hk4:k<=4):HW ws=Ay ws k:=OT hk 4 hk4
end
def Fq(np:Nat)(ws:List AD):Int:=if (5:Int)<ws.length then 2 else if¬C1 (DG np ws) 0 ws.length=0 then C1 (DG np ws) 0 ws.length else if (HW ws).length<np then 8 else 0
def Dx(bag kinds:Int)(ps:List ByteArray)(ws:List AD)(js:List AK)(ns:List AH):Int:=
 if¬G6 bag kinds=0 then G6 bag kinds else if¬BU ps=0 then BU ps else if¬Fq ps.length ws=0 then Fq ps.length ws else if¬CB ps.length kinds js=0 then CB ps.length kinds js else Cf ws.length ns
section
variable {V:Type} {p:V->Bool} {l:List V} {d:V} {k j:Nat}
theorem NT(hk:k<l.length)(e:p (l.getD k d)=true):l.any p=true:=List.any_eq_true.2 ⟨_,Be hk,e⟩
theorem Kv(h:(l.take k).any p=false)(hk:l.length<=k):l.any p=false:=by rwa [List.take_of_length_le hk] at h
theorem Va(hj:j<k)(hk:k<=l.length)(e:p (l.getD j d)=true):(l.take k).any p=true:=by
 refine NT (k:=j) (d:=d) (by rw [List.length_take];omega) ?_;rw [List.getD_eq_getElem?_getD,List.getElem?_take,if_pos hj,<-List.getD_eq_getElem?_getD];exact e
end
section
variable {np nw:Nat} {ws:List AD} {js:List AK} {ns:List AH} {k:Nat} {kinds:Int}
theorem Mc{a b:Int}(ha:0<=a/\a<=(np:Int)-1)(hb:0<=b/\b<=(np:Int)-1):B7 np [a,b]=0:=by
 have h0:Eo np [a,b] 0=0:=if_neg (λe=>e ha);have h1:Eo np [a,b] 1=0:=if_neg (λe=>e hb);show C1 (Eo np [a,b]) 0 2=0;simp [C1,h0,h1]
theorem miss_no{a b:Int}(h:¬(0<=a/\a<=(np:Int)-1)\/¬(0<=b/\b<=(np:Int)-1)):B7 np [a,b]=6:=by
 show C1 (Eo np [a,b]) 0 2=6;by_cases ha:0<=a/\a<=(np:Int)-1
 ·have h0:Eo np [a,b] 0=0:=if_neg (λe=>e ha);have h1:Eo np [a,b] 1=6:=if_pos (h.resolve_left λe=>e ha);simp [C1,h0,h1]
 ·have h0:Eo np [a,b] 0=6:=if_pos ha;simp [C1,h0]
theorem QW{a:Int}(ha:0<=a/\a<=(np:Int)-1):B7 np [a]=0:=by
 have h0:Eo np [a] 0=0:=if_neg (λe=>e ha);show C1 (Eo np [a]) 0 1=0;simp [C1,h0]
theorem miss_no1{a:Int}(ha:¬(0<=a/\a<=(np:Int)-1)):B7 np [a]=6:=by
 have h0:Eo np [a] 0=6:=if_pos ha;show C1 (Eo np [a]) 0 1=6;simp [C1,h0]
variable (ws k) in
def waP(np:Nat):Prop:=(0<=(ws.getD k AD.z).a/\(ws.getD k AD.z).a<=(np:Int)-1)/\(0<=(ws.getD k AD.z).b/\(ws.getD k AD.z).b<=(np:Int)-1)
theorem wy6(h:¬(0<=(ws.getD k AD.z).a/\(ws.getD k AD.z).a<=(np:Int)-1)\/¬(0<=(ws.getD k AD.z).b/\(ws.getD k AD.z).b<=(np:Int)-1)):DG np ws k=6:=by
 unfold DG;rw [miss_no h,if_pos aC]
theorem wyP(h:¬(¬(0<=(ws.getD k AD.z).a/\(ws.getD k AD.z).a<=(np:Int)-1)\/¬(0<=(ws.getD k AD.z).b/\(ws.getD k AD.z).b<=(np:Int)-1))):waP ws k np:=⟨Decidable.byContradiction λe=>h (.inl e),Decidable.byContradiction λe=>h (.inr e)⟩
theorem wy7(h:waP ws k np)(h2:(ws.getD k AD.z).b<=(ws.getD k AD.z).a):DG np ws k=7:=by
 unfold DG;rw [Mc h.1 h.2,if_neg aD,if_pos h2]
theorem wy5(h:waP ws k np)(h2:¬(ws.getD k AD.z).b<=(ws.getD k AD.z).a)(h3:(ws.take k).any (λy=>decide (y.a=(ws.getD k AD.z).a/\y.b=(ws.getD k AD.z).b))=true):DG np ws k=5:=by
 unfold DG;rw [Mc h.1 h.2,if_neg aD,if_neg h2,if_pos h3]
theorem wy1(h:waP ws k np)(h2:¬(ws.getD k AD.z).b<=(ws.getD k AD.z).a)(h3:(ws.take k).any (λy=>decide (y.a=(ws.getD k AD.z).a/\y.b=(ws.getD k AD.z).b))=false)(h4:¬(((0<=(ws.getD k AD.z).low/\(ws.getD k AD.z).low<=(ws.getD k AD.z).high)/\(ws.getD k AD.z).high<=30)/\(ws.getD k AD.z).high-(ws.getD k AD.z).low<2)):DG np ws k=1:=by
 unfold DG;rw [Mc h.1 h.2,if_neg aD,if_neg h2,if_neg (by rw [h3];simp)];exact if_pos h4
theorem wy0(h:waP ws k np)(h2:¬(ws.getD k AD.z).b<=(ws.getD k AD.z).a)(h3:(ws.take k).any (λy=>decide (y.a=(ws.getD k AD.z).a/\y.b=(ws.getD k AD.z).b))=false)(h4:(((0<=(ws.getD k AD.z).low/\(ws.getD k AD.z).low<=(ws.getD k AD.z).high)/\(ws.getD k AD.z).high<=30)/\(ws.getD k AD.z).high-(ws.getD k AD.z).low<2)):DG np ws k=0:=by
 unfold DG;rw [Mc h.1 h.2,if_neg aD,if_neg h2,if_neg (by rw [h3];simp)];exact if_neg (λe=>e h4)
theorem XR(h:∀k,k<ws.length->DG np ws k=0):QV np ws:=λk hk=>by
 have:=h k hk
 unfold DG at this;split at this
 ·rename_i a;exact absurd this a
 ·rename_i a
  have q:=Fo (Decidable.not_not.1 a);have q1:=q _ List.mem_cons_self;have q2:=q _ (List.mem_cons_of_mem _ List.mem_cons_self);omega
theorem rw2(h:(5:Int)<ws.length):Fq np ws=2:=if_pos h
theorem UC{c:Int}(h5:¬(5:Int)<ws.length)(hs:∀j,j<k->DG np ws j=0)(hk:k<ws.length)(e:DG np ws k=c)(hc:c≠0):Fq np ws=c:=by
 have h1:=BK hs hk e hc;rw [Fq,if_neg h5,h1,if_pos hc]
theorem rw8(h5:¬(5:Int)<ws.length)(hs:∀j,j<k->DG np ws j=0)(hk:ws.length<=k)(h:((HW ws).length:Int)<np):Fq np ws=8:=by
 rw [Fq,if_neg h5,Bi hs hk,if_neg aD,if_pos aA]
theorem rw0(h5:¬(5:Int)<ws.length)(hs:∀j,j<k->DG np ws j=0)(hk:ws.length<=k)(h:¬((HW ws).length:Int)<np):Fq np ws=0:=by
 rw [Fq,if_neg h5,Bi hs hk,if_neg aD,if_neg aA]
theorem jb6(h:¬(0<=(js.getD k AK.z).place/\(js.getD k AK.z).place<=(np:Int)-1)):F8 np kinds js k=6:=by
 unfold F8;rw [miss_no1 h,if_pos aC]
theorem jb1(h:0<=(js.getD k AK.z).place/\(js.getD k AK.z).place<=(np:Int)-1)(h2:¬(((0<=(js.getD k AK.z).low/\(js.getD k AK.z).low<=(js.getD k AK.z).high)/\(js.getD k AK.z).high<=30)/\(js.getD k AK.z).high-(js.getD k AK.z).low<2)\/¬(0<=(js.getD k AK.z).due/\(js.getD k AK.z).due<=200)):F8 np kinds js k=1:=by
 unfold F8;rw [QW h,if_neg aD];exact if_pos h2
theorem jb2(h:0<=(js.getD k AK.z).place/\(js.getD k AK.z).place<=(np:Int)-1)(h2:¬(¬(((0<=(js.getD k AK.z).low/\(js.getD k AK.z).low<=(js.getD k AK.z).high)/\(js.getD k AK.z).high<=30)/\(js.getD k AK.z).high-(js.getD k AK.z).low<2)\/¬(0<=(js.getD k AK.z).due/\(js.getD k AK.z).due<=200)))(h3:¬((js.getD k AK.z).parts.length:Int)=kinds):F8 np kinds js k=2:=by
 unfold F8;rw [QW h,if_neg aD];exact (if_neg h2).trans (if_pos h3)
theorem jb3(h:0<=(js.getD k AK.z).place/\(js.getD k AK.z).place<=(np:Int)-1)(h2:¬(¬(((0<=(js.getD k AK.z).low/\(js.getD k AK.z).low<=(js.getD k AK.z).high)/\(js.getD k AK.z).high<=30)/\(js.getD k AK.z).high-(js.getD k AK.z).low<2)\/¬(0<=(js.getD k AK.z).due/\(js.getD k AK.z).due<=200)))(h3:((js.getD k AK.z).parts.length:Int)=kinds):F8 np kinds js k=if (js.getD k AK.z).parts.any (λn=>decide (¬(0<=n/\n<=5))) then 1 else 0:=by
 unfold F8;rw [QW h,if_neg aD];exact (if_neg h2).trans (if_neg (λe=>e h3))
theorem nt2(h:(5:Int)<(ns.getD k AH.z).ways.length):DH nw ns k=2:=if_pos h
theorem nt6(h:¬(5:Int)<(ns.getD k AH.z).ways.length)(h2:(ns.getD k AH.z).ways.any (λn=>decide (¬(0<=n/\n<=(nw:Int)-1)))=true):DH nw ns k=6:=by
 unfold DH;rw [if_neg h,if_pos h2]
theorem nt1(h:¬(5:Int)<(ns.getD k AH.z).ways.length)(h2:(ns.getD k AH.z).ways.any (λn=>decide (¬(0<=n/\n<=(nw:Int)-1)))=false)(h3:¬((0<=(ns.getD k AH.z).low/\(ns.getD k AH.z).low<=(ns.getD k AH.z).high)/\(ns.getD k AH.z).high<=200)):DH nw ns k=1:=by
 unfold DH;rw [if_neg h,if_neg (by rw [h2];simp),if_pos (λe=>h3 e.1)]
theorem nt0(h:¬(5:Int)<(ns.getD k AH.z).ways.length)(h2:(ns.getD k AH.z).ways.any (λn=>decide (¬(0<=n/\n<=(nw:Int)-1)))=false)(h3:(0<=(ns.getD k AH.z).low/\(ns.getD k AH.z).low<=(ns.getD k AH.z).high)/\(ns.getD k AH.z).high<=200):DH nw ns k=0:=by
 unfold DH;rw [if_neg h,if_neg (by rw [h2];simp),if_neg (λe=>e ⟨h3,aA⟩)]
end
section
variable {ps:List ByteArray} {k:Nat} {a b:List (Int×Int)}
theorem pa4(h:E4 (ps.getD k (⟨#[]⟩:ByteArray))=false):FM ps k=4:=by unfold FM;rw [if_pos h]
theorem pa5(h:E4 (ps.getD k (⟨#[]⟩:ByteArray))=true)(h2:0<=idxOf (λx=>(ps.getD k (⟨#[]⟩:ByteArray)).toList==x.toList) (ps.take k)):FM ps k=5:=by
 unfold FM;rw [if_neg (by rw [h];simp),if_pos ((FK _ _).1 h2)]
theorem pa0(h:E4 (ps.getD k (⟨#[]⟩:ByteArray))=true)(h2:¬0<=idxOf (λx=>(ps.getD k (⟨#[]⟩:ByteArray)).toList==x.toList) (ps.take k)):FM ps k=0:=by
 unfold FM;rw [if_neg (by rw [h];simp),if_neg λe=>h2 ((FK _ _).2 e)]
theorem RP(hs:a.take k=b.take k)(hk:k<=a.length)(h:¬(k:Int)<a.length)(hl:(a.length:Int)=b.length):a=b:=by
 rw [List.take_of_length_le aA,List.take_of_length_le aA] at hs;exact hs
theorem eq_getDP{k:Nat}(h:((a.getD k (0,0)).1==(b.getD k (0,0)).1 && ((a.getD k (0,0)).2==(b.getD k (0,0)).2 && true))=true):a.getD k (0,0)=b.getD k (0,0):=by
 simp only [Bool.and_true,Bool.and_eq_true,beq_iff_eq] at h;exact Prod.ext h.1 h.2
theorem ne_getDP{k:Nat}(h:(!((a.getD k (0,0)).1==(b.getD k (0,0)).1 && ((a.getD k (0,0)).2==(b.getD k (0,0)).2 && true)))=true):¬a=b:=λe=>by rw [e] at h;simp at h
end
section
variable (bag kinds:Int) (ps:List ByteArray) (ws:List AD) (js:List AK) (ns:List AH)
def EO:Bool:=decide ((((20:Int)<ps.length\/(20:Int)<ws.length)\/(20:Int)<js.length)\/(20:Int)<ns.length) || ps.any (λs=>decide ((100:Int)<s.size)) || js.any (λj=>decide ((20:Int)<j.parts.length)) || ns.any λn=>decide ((20:Int)<n.ways.length)
def fit9:Bool:= !EO ps ws js ns && decide (Dx bag kinds ps ws js ns=0)
end
section
variable {ps:List ByteArray} {ws:List AD} {js:List AK} {ns:List AH} {k:Nat}
theorem Md(h:EO ps ws js ns=false)(k:Nat):(ps.getD k (⟨#[]⟩:ByteArray)).size<=1000:=by
 unfold EO at h;simp only [Bool.or_eq_false_iff] at h;by_cases hk:k<ps.length
 ·have:=List.any_eq_false.1 h.1.1.2 _ (Be (d:=(⟨#[]⟩:ByteArray)) hk)
  have:=of_decide_eq_false (Bool.eq_false_iff.2 this)
  omega
 ·rw [Bq aA];decide
end
section
variable {bag kinds:Int} {ps:List ByteArray} {ws:List AD} {js:List AK} {ns:List AH}
theorem KP(h:BU ps=0):0<ps.length/\ps.length<=4:=by
 unfold BU at h;split at h
 ·cases h
 ·omega
theorem rc1(h:¬(0<=bag/\bag<=9)\/¬(0<=kinds/\kinds<=3)):Dx bag kinds ps ws js ns=1:=by
 have e:G6 bag kinds=1:=if_pos h;unfold Dx;rw [e,if_pos aC]
theorem tb0(h:¬(¬(0<=bag/\bag<=9)\/¬(0<=kinds/\kinds<=3))):G6 bag kinds=0:=if_neg h
theorem rc2(h0:¬(¬(0<=bag/\bag<=9)\/¬(0<=kinds/\kinds<=3)))(h:¬BU ps=0):Dx bag kinds ps ws js ns=BU ps:=by unfold Dx;rw [tb0 h0,if_neg aD,if_pos h]
theorem rc3(h0:¬(¬(0<=bag/\bag<=9)\/¬(0<=kinds/\kinds<=3)))(h1:¬¬BU ps=0)(h:¬Fq ps.length ws=0):Dx bag kinds ps ws js ns=Fq ps.length ws:=by unfold Dx;rw [tb0 h0,if_neg aD,if_neg h1,if_pos h]
theorem rc4(h0:¬(¬(0<=bag/\bag<=9)\/¬(0<=kinds/\kinds<=3)))(h1:¬¬BU ps=0)(h2:¬¬Fq ps.length ws=0)(h:¬CB ps.length kinds js=0):Dx bag kinds ps ws js ns=CB ps.length kinds js:=by unfold Dx;rw [tb0 h0,if_neg aD,if_neg h1,if_neg h2,if_pos h]
theorem rc5(h0:¬(¬(0<=bag/\bag<=9)\/¬(0<=kinds/\kinds<=3)))(h1:¬¬BU ps=0)(h2:¬¬Fq ps.length ws=0)(h:¬¬CB ps.length kinds js=0):Dx bag kinds ps ws js ns=Cf ws.length ns:=by unfold Dx;rw [tb0 h0,if_neg aD,if_neg h1,if_neg h2,if_neg h]
theorem gr_len(h:(((20:Int)<ps.length\/(20:Int)<ws.length)\/(20:Int)<js.length)\/(20:Int)<ns.length):EO ps ws js ns=true:=by unfold EO;rw [decide_eq_true h];rfl
theorem gr_p(h:ps.any (λs=>decide ((100:Int)<s.size))=true):EO ps ws js ns=true:=by unfold EO;rw [h];simp
theorem gr_j(h:js.any (λj=>decide ((20:Int)<j.parts.length))=true):EO ps ws js ns=true:=by unfold EO;rw [h];simp
theorem gr_n(h:ns.any (λn=>decide ((20:Int)<n.ways.length))=true):EO ps ws js ns=true:=by unfold EO;rw [h];simp
theorem gr_0(h:¬((((20:Int)<ps.length\/(20:Int)<ws.length)\/(20:Int)<js.length)\/(20:Int)<ns.length))(h1:ps.any (λs=>decide ((100:Int)<s.size))=false)(h2:js.any (λj=>decide ((20:Int)<j.parts.length))=false)(h3:ns.any (λn=>decide ((20:Int)<n.ways.length))=false):EO ps ws js ns=false:=by
 unfold EO;rw [decide_eq_false h,h1,h2,h3];rfl
end
end Go.Ns
namespace Go.Ns
def DF:List ByteArray:=[⟨#[119,111,114,107,115]⟩,⟨#[97,121,114]⟩,⟨#[98,117,116,101]⟩]
theorem DE:∀k,(DF.getD k (⟨#[]⟩:ByteArray)).size<=1000
 | 0=>aC
 | 1=>aC
 | 2=>aC
 | k+3=>by rw [Bq (by simp [DF])];decide
def C3:List AD:=[⟨0,1,2,3⟩,⟨1,2,4,4⟩,⟨0,2,5,5⟩]
def Ca(a b c:Value):List AK:=[⟨1,1,1,5,a,[2]⟩,⟨2,1,2,12,b,[1]⟩,⟨0,1,1,20,c,[1]⟩]
theorem DA.ex{h:GH}{t:TypeId}{a b c:Value}(x:B0 h t a [2])(y:B0 h t b [1])(z:B0 h t c [1]):DA h t (Ca a b c):=λk=>by
 match k with
 | 0=>exact x
 | 1=>exact y
 | 2=>exact z
 | k+3=>rw [Bq (by show 3<=_;omega)];exact B0.nil _ _
theorem AO.isSl{V:Type}{h:GH}{v:Value}{n:Nat}{enc:V->Array Value}{xs:List V}(x:AO h v n enc xs):∀k i,v≠.int k i:=by
 obtain ⟨a,cap,rfl,_⟩:=x;intro k i e;cases e
theorem AO.across9{h h':GH}{v:Value}{xs:List Int}{r:Nat}{a b c d:Value}{T:TypeId}(x:AO h v 1 eI xs)(hb:h r=some (true,.cells #[.int .i64 3,.int .i64 1,a,b,c,d] T (0,0)))(ho:∀y,y≠r->h' y=h y)
  (ha:∀k i,a≠.int k i) (hb':∀k i,b≠.int k i) (hc:∀k i,c≠.int k i) (hd:∀k i,d≠.int k i) (hx:∀o,o<6->∃i:Fin xs.length,(o+i.val=0->xs[i.val]≠3)/\(o+i.val=1->xs[i.val]≠1)):AO h' v 1 eI xs:=by
 obtain ⟨ad,cap,hv,hcap,hm,he⟩:=x;refine ⟨ad,cap,hv,hcap,hm,λi hi=>?_⟩;obtain ⟨y,off,h1,h2⟩:=he i hi;refine ⟨y,off,h1,h2.same (ho y ?_)⟩;rintro rfl;have key:∀j (hj:j<xs.length),off+j<6/\(#[Value.int .i64 3,.int .i64 1,a,b,c,d]:Array Value).extract (off+j) (off+j+1)=eI xs[j]:=λj hj=>by
  obtain ⟨y2,off2,h3,h4⟩:=he j hj;rw [h1] at h3;simp only [Option.some.injEq,Addr.mk.injEq,and_true] at h3;obtain ⟨rfl,rfl⟩:=h3;obtain ⟨p,cc,t,f,q1,q2,q3⟩:=h4;rw [hb] at q1;simp only [Option.some.injEq,Prod.mk.injEq,Obj.cells.injEq] at q1;obtain ⟨_,rfl,_⟩:=q1;rw [Nat.mul_one] at q2 q3;exact ⟨by simp at q2;omega,q3⟩
 obtain ⟨⟨j,hj⟩,e0,e1⟩:=hx off (by have:=(key i hi).1;omega);obtain ⟨k1,k2⟩:=key j hj;simp only at e0 e1;generalize off+j=o at k1 k2 e0 e1;generalize xs[j]=z at k2 e0 e1
 have:o=0\/o=1\/o=2\/o=3\/o=4\/o=5:=aA
 rcases this with rfl | rfl | rfl | rfl | rfl | rfl
 ·have k3:(#[.int .i64 3]:Array Value)=#[.int .i64 z]:=k2;simp at k3;exact e0 rfl k3.symm
 ·have k3:(#[.int .i64 1]:Array Value)=#[.int .i64 z]:=k2;simp at k3;exact e1 rfl k3.symm
 ·have k3:(#[a]:Array Value)=#[.int .i64 z]:=k2;simp at k3;exact ha _ _ k3
 ·have k3:(#[b]:Array Value)=#[.int .i64 z]:=k2;simp at k3;exact hb' _ _ k3
 ·have k3:(#[c]:Array Value)=#[.int .i64 z]:=k2;simp at k3;exact hc _ _ k3
 ·have k3:(#[d]:Array Value)=#[.int .i64 z]:=k2;simp at k3;exact hd _ _ k3
end Go.Ns
namespace Go.Ns
section
variable {m:EW} {b np i k n:Nat}
structure EW.Sym(m:EW):Prop where
 ok:m.ok
 diag:∀i,m i i=0
 sym:∀i k,m i k=m k i
theorem Vb(b i:Nat)(m:EW)(hd:m b b=0)(h0:m.ok):∀n x y,Hl b i m n x y=if x=i/\y<n then min (m i y) (m i b+m b y) else m x y
 | 0,x,y=>by rw [if_neg aA];rfl
 | n+1,x,y=>by
  have ih:=Vb b i m hd h0 n;have e:Hl b i m (n+1)=O3 b i (Hl b i m n) n:=Av _ _ _;rw [e];unfold O3 EW.set;by_cases hxy:x=i/\y=n
  ·obtain ⟨rfl,rfl⟩:=hxy;rw [if_pos ⟨rfl,rfl⟩,if_pos ⟨rfl,Nat.lt_succ_self _⟩,ih x y,if_neg aA,ih x b,ih b y];have hb:=h0 x b;have hby:=h0 b y;have hd2:=hd;by_cases h1:x=x/\b<y
   ·rw [if_pos h1];by_cases h2:b=x/\y<y
    ·omega
    ·rw [if_neg h2];rw [hd2];omega
   ·rw [if_neg h1];by_cases h2:b=x/\y<y
    ·omega
    ·rw [if_neg h2]
  ·rw [if_neg hxy,ih x y];by_cases h1:x=i/\y<n
   ·rw [if_pos h1,if_pos ⟨h1.1,aA⟩]
   ·rw [if_neg h1,if_neg (λe=>h1 ⟨e.1,aA⟩)]
theorem AAn(b i:Nat)(m:EW)(hd:m b b=0)(h0:m.ok)(x y:Nat):OD b np m i x y=if x=i/\y<np then min (m i y) (m i b+m b y) else m x y:=by
 unfold OD;split
 ·rename_i e
  by_cases h1:x=i/\y<np
  ·obtain ⟨rfl,h2⟩:=h1;rw [if_pos ⟨rfl,h2⟩,e]
   have:=h0 x y
   have:=h0 b y
   omega
  ·rw [if_neg h1]
 ·exact Vb b i m hd h0 np x y
theorem QX(b:Nat)(m:EW)(hd:m b b=0)(h0:m.ok):∀n x y,Ep b np m n x y=if x<n/\y<np then min (m x y) (m x b+m b y) else m x y
 | 0,x,y=>by rw [if_neg aA];rfl
 | n+1,x,y=>by
  have ih:=QX b m hd h0 n;have e:Ep b np m (n+1)=OD b np (Ep b np m n) n:=Av _ _ _;have hd2:Ep b np m n b b=0:=by rw [ih b b,hd];split <;> omega
  rw [e,AAn b n _ hd2 (O4 h0)];by_cases h1:x=n/\y<np
  ·obtain ⟨rfl,h2⟩:=h1;rw [if_pos ⟨rfl,h2⟩,if_pos ⟨Nat.lt_succ_self _,h2⟩,ih x y,if_neg aA,ih x b,if_neg aA,ih b y];have h3:=h0 x b;have h4:=h0 b y;by_cases h5:b<x/\y<np
   ·rw [if_pos h5,hd];omega
   ·rw [if_neg h5]
  ·rw [if_neg h1,ih x y];by_cases h2:x<n/\y<np
   ·rw [if_pos h2,if_pos ⟨aA,h2.2⟩]
   ·rw [if_neg h2,if_neg (λe=>aA)]
structure FW(np n:Nat)(m0 m:EW):Prop where
 s:m.Sym
 tri:∀c,c<n->∀i k,i<np->k<np->m i k<=m i c+m c k
 le:∀i k,m i k<=m0 i k
theorem FW.step{m0:EW}(h:FW np n m0 m)(hn:n<np):FW np (n+1) m0 (Ep n np m np):=by
 have g:=QX (np:=np) n m (h.s.diag n) h.s.ok np;have s:=h.s;have p:=λi k=>s.ok i k;refine ⟨⟨O4 s.ok,λi=>?_,λi k=>?_⟩,λc hc i k hi hk=>?_,λi k=>?_⟩
 ·rw [g i i];have:=p i n;have:=p n i;have:=s.diag i;split <;> omega
 ·rw [g i k,g k i];have h1:=s.sym i k;have h2:=s.sym i n;have h3:=s.sym k n;by_cases c:i<np/\k<np
  ·rw [if_pos c,if_pos ⟨c.2,c.1⟩];omega
  ·rw [if_neg c,if_neg (λe=>c ⟨e.2,e.1⟩)];exact h1
 ·rw [g i k,g i c,g c k,if_pos ⟨hi,hk⟩,if_pos ⟨hi,aA⟩,if_pos ⟨aA,hk⟩];have d:=s.diag n
  have:=p i n
  have:=p n k
  have:=p n c
  have:=p c n
  rcases Nat.lt_or_ge c n with q | q
  ·have t1:=h.tri c q i k hi hk;have t2:=h.tri c q i n hi hn;have t3:=h.tri c q n k hn hk;omega
  ·have:c=n:=aA
   subst this;omega
 ·rw [g i k];have:=h.le i k;split <;> omega
theorem FW.all{m0:EW}(s:m0.Sym):∀n,n<=np->FW np n m0 (Ch np m0 n)
 | 0,_=>⟨s,λc hc=>absurd hc (Nat.not_lt_zero _),λ_ _=>Int.le_refl _⟩
 | n+1,h=>by
  have ih:=FW.all s n aA;have e:Ch np m0 (n+1)=Ep n np (Ch np m0 n) np:=Av _ _ _;rw [e];exact ih.step aA
end
theorem SL(i:Nat)(m:EW):∀n x y,HE i m n x y=if x=i/\y<n/\i≠y then 1048576 else m x y
 | 0,x,y=>by rw [if_neg aA];rfl
 | n+1,x,y=>by
  have ih:=SL i m n;have e:HE i m (n+1)=Lf i (HE i m n) n:=Av _ _ _;rw [e];unfold Lf;by_cases h:(i:Int)=(n:Int)
  ·rw [if_neg (λq=>q h),ih x y];by_cases c:x=i/\y<n/\i≠y
   ·rw [if_pos c,if_pos ⟨c.1,aA,c.2.2⟩]
   ·rw [if_neg c,if_neg (λq=>c ⟨q.1,aA,q.2.2⟩)]
  ·rw [if_pos h];show (if x=i/\y=n then 1048576 else HE i m n x y)=_;by_cases c:x=i/\y=n
   ·rw [if_pos c,if_pos ⟨c.1,aA,aA⟩]
   ·rw [if_neg c,ih x y];by_cases d:x=i/\y<n/\i≠y
    ·rw [if_pos d,if_pos ⟨d.1,aA,d.2.2⟩]
    ·rw [if_neg d,if_neg (λq=>d ⟨q.1,aA,q.2.2⟩)]
theorem KQ:∀n x y,Io n x y=if x<n/\y<4/\x≠y then 1048576 else 0
 | 0,x,y=>by rw [if_neg aA];rfl
 | n+1,x,y=>by
  have ih:=KQ n;have e:Io (n+1)=HE n (Io n) 4:=Av _ _ _;rw [e,SL,ih x y];by_cases c:x=n/\y<4/\n≠y
  ·rw [if_pos c,if_pos ⟨aA,c.2.1,aA⟩]
  ·rw [if_neg c];by_cases d:x<n/\y<4/\x≠y
   ·rw [if_pos d,if_pos ⟨aA,d.2⟩]
   ·rw [if_neg d,if_neg (λq=>aA)]
theorem far0_sym:(Io 4).Sym:=⟨ZO,λi=>by rw [KQ,if_neg (λq=>q.2.2 rfl)],λi k=>by
 rw [KQ,KQ];by_cases c:i<4/\k<4/\i≠k
 ·rw [if_pos c,if_pos ⟨c.2.1,c.1,c.2.2.symm⟩]
 ·rw [if_neg c,if_neg (λq=>c ⟨q.2.1,q.1,q.2.2.symm⟩)]⟩
section
variable {p:AE} {ws:List AD} {np:Nat}
structure Me(ws:List AD):Prop where
 rng:∀k,k<ws.length->0<=(ws.getD k AD.z).a/\(ws.getD k AD.z).a<(ws.getD k AD.z).b
 one:∀j k,j<k->k<ws.length->¬((ws.getD j AD.z).a=(ws.getD k AD.z).a/\(ws.getD j AD.z).b=(ws.getD k AD.z).b)
theorem IX(h:∀k,k<ws.length->DG np ws k=0):Me ws:=by
 have key:∀k,k<ws.length->(0<=(ws.getD k AD.z).a)/\¬(ws.getD k AD.z).b<=(ws.getD k AD.z).a/\(ws.take k).any (λy=>decide (y.a=(ws.getD k AD.z).a/\y.b=(ws.getD k AD.z).b))=false:=λk hk=>by
  have w:=(XR h k hk).1.1
  have:=h k hk
  unfold DG at this;split at this
  ·rename_i a;exact absurd this a
  ·split at this
   ·cases this
   ·rename_i b
    split at this
    ·cases this
    ·rename_i c
     exact ⟨w,b,by simpa using c⟩
 refine ⟨λk hk=>⟨(key k hk).1,by have:=(key k hk).2.1;omega⟩,λj k hj hk e=>?_⟩
 have:=(key k hk).2.2
 rw [Va (d:=AD.z) hj aA (decide_eq_true e)] at this;cases this
theorem Lp(m:EW)(k x y:Nat)(hk:(ws.getD k AD.z).a.toNat≠(ws.getD k AD.z).b.toNat):KI p ws m k x y=if (x=(ws.getD k AD.z).a.toNat/\y=(ws.getD k AD.z).b.toNat)\/(x=(ws.getD k AD.z).b.toNat/\y=(ws.getD k AD.z).a.toNat) then p.ways k else m x y:=by
 unfold KI EW.set;by_cases c:x=(ws.getD k AD.z).b.toNat/\y=(ws.getD k AD.z).a.toNat
 ·rw [if_pos c,if_pos (.inr c)]
 ·rw [if_neg c];by_cases d:x=(ws.getD k AD.z).a.toNat/\y=(ws.getD k AD.z).b.toNat
  ·rw [if_pos d,if_pos (.inl d)]
  ·rw [if_neg d,if_neg (λq=>q.elim d c)]
theorem KR(hp:BF p)(hw:Me ws):∀n,n<=ws.length->(A0 p ws n).Sym
 | 0,_=>far0_sym
 | n+1,h=>by
  have ih:=KR hp hw n aA;have r:=hw.rng n aA;have g:=λx y=>Lp (p:=p) (ws:=ws) (A0 p ws n) n x y aA;have e:A0 p ws (n+1)=KI p ws (A0 p ws n) n:=Av _ _ _;refine ⟨Lg hp,λi=>?_,λi k=>?_⟩
  ·rw [e,g,if_neg aA];exact ih.diag i
  ·rw [e,g,g];by_cases c:(i=(ws.getD n AD.z).a.toNat/\k=(ws.getD n AD.z).b.toNat)\/(i=(ws.getD n AD.z).b.toNat/\k=(ws.getD n AD.z).a.toNat)
   ·rw [if_pos c,if_pos aA]
   ·rw [if_neg c,if_neg aA];exact ih.sym i k
theorem QY(hw:Me ws):∀n,n<=ws.length->∀k,k<n->A0 p ws n (ws.getD k AD.z).a.toNat (ws.getD k AD.z).b.toNat=p.ways k
 | 0,_,k,hk=>absurd hk (Nat.not_lt_zero _)
 | n+1,h,k,hk=>by
  have r:=hw.rng n aA;have rk:=hw.rng k aA;have g:=λx y=>Lp (p:=p) (ws:=ws) (A0 p ws n) n x y aA;have e:A0 p ws (n+1)=KI p ws (A0 p ws n) n:=Av _ _ _;rw [e,g];by_cases q:k=n
  ·subst q;rw [if_pos (.inl ⟨rfl,rfl⟩)]
  ·have one:=hw.one k n aA aA;rw [if_neg aA];exact QY hw n aA k aA
theorem Gx(hp:BF p)(hw:Me ws):FW np np (A0 p ws ws.length) (Aw np ws p):=FW.all (KR hp hw _ (Nat.le_refl _)) np (Nat.le_refl _)
theorem XS(hp:BF p)(hw:Me ws){k:Nat}(hk:k<ws.length):Aw np ws p (ws.getD k AD.z).a.toNat (ws.getD k AD.z).b.toNat<=p.ways k:=by
 have:=(Gx (np:=np) hp hw).le (ws.getD k AD.z).a.toNat (ws.getD k AD.z).b.toNat
 rwa [QY hw _ (Nat.le_refl _) k hk] at this
end
end Go.Ns
namespace Go.Ns
section
variable {ws:List AD} {c:Ge} {x:AD} {i n k np:Nat}
theorem KT(h:c i=true):GQ c x i=true:=by
 unfold GQ Ge.set;by_cases e:i=x.b.toNat
 ·rw [if_pos e];by_cases e2:x.b.toNat=x.a.toNat
  ·rw [if_pos e2];rw [e,e2] at h;rw [h];simp
  ·rw [if_neg e2,<-e,h];simp
 ·rw [if_neg e];by_cases e2:i=x.a.toNat
  ·rw [if_pos e2,<-e2,h];simp
  ·rw [if_neg e2];exact h
theorem Vc(h:c x.a.toNat=true\/c x.b.toNat=true):GQ c x x.a.toNat=true/\GQ c x x.b.toNat=true:=by
 unfold GQ Ge.set;rcases h with h | h
 ·constructor
  ·by_cases e:x.a.toNat=x.b.toNat
   ·rw [if_pos e];simp [h]
   ·rw [if_neg e];simp [h]
  ·rw [if_pos rfl];simp [h]
 ·constructor
  ·by_cases e:x.a.toNat=x.b.toNat
   ·rw [if_pos e];simp [h]
   ·rw [if_neg e];simp [h]
  ·rw [if_pos rfl];simp [h]
theorem Hr:∀(l:List AD)(c:Ge),c i=true->l.foldl GQ c i=true
 | [],_,h=>h
 | x ::l,c,h=>Hr l _ (KT h)
theorem Jd:∀(l:List AD)(c:Ge),x ∈ l->(c x.a.toNat=true\/c x.b.toNat=true)->l.foldl GQ c x.a.toNat=true/\l.foldl GQ c x.b.toNat=true
 | y ::l,c,hx,h=>by
  rcases List.mem_cons.1 hx with e | hx
  ·subst e;have b:=Vc h;exact ⟨Hr l _ b.1,Hr l _ b.2⟩
  ·exact Jd l _ hx (h.imp KT KT)
theorem KU:∀n (c:Ge),EV ws (n+1) c=HC ws (EV ws n c)
 | 0,_=>rfl
 | n+1,c=>KU n (HC ws c)
theorem NU{m:Nat}(h:EV ws n c i=true):∀d,m=n+d->EV ws m c i=true
 | 0,e=>by rw [e];exact h
 | d+1,e=>by
  rw [e,show n+(d+1)=(n+d)+1 by omega,KU];exact Hr ws _ (NU h d rfl)
def c0:Ge:=Ge.none.set 0 true
def I5(ws:List AD)(l:List Int):Prop:=∀i,i<l.length->EV ws i c0 (l.getD i 0).toNat=true
theorem I5.snoc{l:List Int}{q:Int}(h:I5 ws l)(hq:EV ws l.length c0 q.toNat=true):I5 ws (l++[q]):=λi hi=>by
 rw [List.length_append,List.length_singleton] at hi;rw [I4];by_cases e:i<l.length
 ·rw [if_pos e];exact h i e
 ·rw [if_neg e,show i=l.length by omega,Nat.sub_self];exact hq
theorem I5.step{l:List Int}(h:I5 ws l)(hk:k<l.length)(hx:x ∈ ws):I5 ws (DD l k x):=by
 have one:∀{l:List Int}{p q:Int},I5 ws l->k<l.length->(x.a=p/\x.b=q\/x.b=p/\x.a=q)->I5 ws (Is l k p q):=by
  intro l p q h hk hpq;unfold Is;split
  ·rename_i e
   have f:=h k hk;rw [<-e.1] at f;have g:EV ws (k+1) c0 q.toNat=true:=by
    rw [KU];rcases hpq with ⟨rfl,rfl⟩ | ⟨rfl,rfl⟩
    ·exact (Jd ws _ hx (.inl f)).2
    ·exact (Jd ws _ hx (.inr f)).1
   exact h.snoc (NU g (l.length-(k+1)) aA)
  ·exact h
 have h1:=one h hk (.inl ⟨rfl,rfl⟩);have hl:=(Lm l k x.a x.b).length_le;exact one h1 aA (.inr ⟨rfl,rfl⟩)
theorem I5.ways{l:List Int}(h:I5 ws l)(hk:k<l.length):∀j,j<=ws.length->I5 ws (Aj ws l k j)
 | 0,_=>h
 | j+1,hj=>(I5.ways h hk j aA).step (Nat.lt_of_lt_of_le hk (It j).length_le) (Be aA)
theorem NV:∀k,I5 ws (Ay ws k)
 | 0=>λi hi=>by
  have:i=0:=by
   have:i<1:=hi
   omega
  subst this;rfl
 | k+1=>by
  unfold Ay;split
  ·rename_i e;exact (NV k).ways e _ (Nat.le_refl _)
  ·exact NV k
theorem UD(hn:0<np)(hw:QV np ws)(h:¬(HW ws).length<np):GR np ws=0:=by
 have ok:IK np (HW ws):=Ku hn hw 4;have hl:=ok.len;have all:∀y,y<np->EV ws np c0 y=true:=λy hy=>by
  have mem:(y:Int) ∈ HW ws:=Decidable.byContradiction λe=>by
   have:=(ok.snoc (x:=(y:Int)) ⟨aA,aA⟩ e).len
   rw [List.length_append,List.length_singleton] at this;omega
  obtain ⟨i,hi,e⟩:=List.mem_iff_getElem.1 mem;have f:EV ws i c0 ((HW ws).getD i 0).toNat=true:=NV (ws:=ws) 4 i hi;have e2:(HW ws).getD i 0=(y:Int):=by
   rw [List.getD_eq_getElem?_getD,List.getElem?_eq_getElem hi];exact e
  rw [e2] at f;exact NU f (np-i) (by have hi':i<(HW ws).length:=hi;omega)
 unfold GR;rw [if_neg];intro e;obtain ⟨b,hb,hf⟩:=List.any_eq_true.1 e;unfold Om at hb;obtain ⟨y,hy,rfl⟩:=List.mem_map.1 hb
 have:EV ws np (Ge.none.set 0 true) y=true:=all y (List.mem_range.1 hy)
 rw [this] at hf;cases hf
end
section
variable {bag kinds:Int} {ps:List ByteArray} {ws:List AD} {js:List AK} {ns:List AH}
theorem XT(hn:0<ps.length)(h:Fq ps.length ws=0):E5 ps.length ws=0:=by
 unfold Fq at h;split at h
 ·cases h
 ·rename_i a
  split at h
  ·rename_i b;exact absurd h b
  ·rename_i b
   split at h
   ·cases h
   ·rename_i c
    unfold E5;rw [if_neg a,if_neg b];have z:=DS (Decidable.not_not.1 b);exact UD hn (XR λk hk=>z k (Nat.zero_le _) aA) c
theorem Vd(h:Dx bag kinds ps ws js ns=0):BS bag kinds ps ws js ns=0:=by
 unfold Dx at h;split at h
 ·rename_i a;exact absurd h a
 ·rename_i a
  split at h
  ·rename_i b;exact absurd h b
  ·rename_i b
   split at h
   ·rename_i c;exact absurd h c
   ·rename_i c
    split at h
    ·rename_i d;exact absurd h d
    ·rename_i d
     have h1:=Decidable.not_not.1 a;have h2:=Decidable.not_not.1 b;have h3:=XT (KP h2).1 (Decidable.not_not.1 c);have h4:=Decidable.not_not.1 d;unfold BS;refine Bi (k:=5) (λj hj=>?_) (Nat.le_refl _)
     match j with
     | 0=>exact h1
     | 1=>exact h2
     | 2=>exact h3
     | 3=>exact h4
     | 4=>exact h
     | j+5=>omega
theorem fit9_ok(h:fit9 bag kinds ps ws js ns=true):BS bag kinds ps ws js ns=0/\∀k,(ps.getD k (⟨#[]⟩:ByteArray)).size<=1000:=by
 unfold fit9 at h;rw [Bool.and_eq_true] at h;exact ⟨Vd (of_decide_eq_true h.2),Md (by simpa using h.1)⟩
end
end Go.Ns
namespace Go.Ns
open Go.Conc
section
variable {P:Program} {E:Gh P} {O:Nat->Value} {ds:List Deferred} {h:GH} {T:(Nat->Value)->List Deferred->GH->Prop} {dst:Option Nat} {ty:TypeId} {pos:String} {af:Array Edge} {gd:Option (Nat×Bool)}
end
section
variable {F G:AE->Int} {l:List AE} {x:AE}
theorem Ve{k:Nat}:(l.drop 1).getD k AE.zero=l.getD (k+1) AE.zero:=by
 rw [List.getD_eq_getElem?_getD,List.getElem?_drop,<-List.getD_eq_getElem?_getD,Nat.add_comm]
theorem fLo_le:∀k j,j<=k->XC F l k<=F (l.getD j AE.zero)
 | 0,j,h=>by rw [show j=0 by omega];exact Int.le_refl _
 | k+1,j,h=>by
  show min (XC F l k) (F ((l.drop 1).getD k AE.zero))<=_;rcases Nat.lt_or_ge j (k+1) with q | q
  ·have:=fLo_le k j aA;omega
  ·have e:j=k+1:=aA
   subst e;rw [Ve];omega
theorem fHi_ge:∀k j,j<=k->F (l.getD j AE.zero)<=XD F l k
 | 0,j,h=>by rw [show j=0 by omega];exact Int.le_refl _
 | k+1,j,h=>by
  show _<=max (XD F l k) (F ((l.drop 1).getD k AE.zero));rcases Nat.lt_or_ge j (k+1) with q | q
  ·have:=fHi_ge k j aA;omega
  ·have e:j=k+1:=aA
   subst e;rw [Ve];omega
theorem Zd(hx:x ∈ l):∃j,j<=l.length-1/\x=l.getD j AE.zero:=by
 obtain ⟨j,hj,e⟩:=List.mem_iff_getElem.1 hx;exact ⟨j,aA,by rw [List.getD_eq_getElem?_getD,List.getElem?_eq_getElem hj];exact e.symm⟩
theorem UE(hx:x ∈ l):Cq F l<=F x:=by obtain ⟨j,hj,rfl⟩:=Zd hx;exact fLo_le _ j hj
theorem O8(hx:x ∈ l):F x<=Bu F l:=by obtain ⟨j,hj,rfl⟩:=Zd hx;exact fHi_ge _ j hj
end
section
variable {bag kinds:Int} {ps:List ByteArray} {ws:List AD} {js:List AK} {ns:List AH} {a b c:Int}
theorem openB_09(bk:BS bag kinds ps ws js ns=0):(Ae bag kinds ps ws js ns 0=0/\0<(AC ws js ns).length)\/(Ae bag kinds ps ws js ns 0=9/\(AC ws js ns).length=0):=by
 unfold Ae;rw [if_neg (λe=>e bk),if_neg aD];by_cases e:(AC ws js ns).length=0
 ·rw [if_pos e];exact .inr ⟨rfl,e⟩
 ·rw [if_neg e];exact .inl ⟨rfl,aA⟩
end
section
variable {bag kinds:Int} {ps:List ByteArray} {ws:List AD} {js:List AK} {ns:List AH} {a b c s:Int}
end
end Go.Ns
namespace Go.Ns
open Go.Conc
section
variable {P:Program} {Post:Value->World->Prop}
def Ze(P:Program)(Post:Value->World->Prop):Wk P:=⟨true,D7 P Post,LE⟩
theorem UF:La (Ze P Post):=⟨Post,rfl⟩
theorem AAo{f:FuncId}{fn:Func}{c:Code}{args:Array Value}{h:GH}{R:Value->GH->Prop}(hf:P.funcs[f]? =some fn)(hb:fn.body=some c)(hsz:args.size<=fn.ntmps)(hin:P.inits.idxOf? f=none)(hpost:∀v h',R v h'->∀w,EE w h'->Post v w)
  (x:Tr ⟨Ze P Post,f,none,fn.ntmps⟩ c (λi=>args.getD i undef) [] h (λe O ds h'=>(e=.normal\/e=.ret)/\Gi P fn O R ds h')):D7 P Post (G (Frame.enter P f args .normal) []) h:=by
 have e0:Frame.enter P f args .normal=Ci (Frame.enter P f args .normal) (args++Array.replicate (fn.ntmps-args.size) undef) [] [.code c]:=by
  simp [Frame.enter,Ci,hf,hb]
 rw [e0];let L:Lv:=λj t ds h'=>(j=none\/j=some .ret)/\∃O,Bb t fn.ntmps O/\Gi P fn O R ds h';have fin:∀O ds h' t k,Bb t fn.ntmps O->Gi P fn O R ds h'->(Ze P Post).K (G (Em (Frame.enter P f args .normal) t ds k) []) h':=by
  intro O ds h' t k hs ho;refine Nu (W:=Ze P Post) (R:=R) hf (b:=Frame.enter P f args .normal) rfl (λt k v h h' hr hrun=>?_) ds h' t k hs ho;refine WX rfl λw fw=>?_;obtain ⟨w',es,r1,r2⟩:=hrun w fw;refine ⟨v,w',seen P f es++ #[],h',?_,r2.sub (es':=seen P f es++ #[]) λe he=>?_,hpost v h' hr w' r2.fits⟩
  ·rw [LQ];unfold unwind;have hfn:(Em (Frame.enter P f args .normal) t [] k).fn=f:=rfl;have hk:(Em (Frame.enter P f args .normal) t [] k).kind=.normal:=rfl;have hm:(Em (Frame.enter P f args .normal) t [] k).mode=.returning:=rfl;have hd:(Em (Frame.enter P f args .normal) t [] k).defers=[]:=rfl;have ht:(Em (Frame.enter P f args .normal) t [] k).tmps=t:=rfl;simp only [hd,hm,hfn,hf,ht,r1,GStep.after,doReturn,hk,hin];rfl
  ·rw [Array.append_empty] at he;exact mem_seen he
 refine x (Frame.enter P f args .normal) [] [] L _ rfl rfl ⟨?_,?_,?_⟩ ⟨by simp;omega,λi=>?_⟩ ?_
 ·rintro t ds h' ⟨_,O,hs,ho⟩;exact Wk.go (Em (Frame.enter P f args .normal) t ds []) (λw=>by rw [A8];simp [stepG.exec,Ci,Em,G,Frame.enter]) (fin O ds h' t [] hs ho)
 ·rintro t ds h' k ⟨_,O,hs,ho⟩;exact Wk.go (Em (Frame.enter P f args .normal) t ds (.code .ret ::k)) (λw=>by rw [A8];simp [stepG.exec,Ci,Em,G,Frame.enter]) (fin O ds h' t _ hs ho)
 ·rintro id t ds h' k _ ⟨h1 | h1,_⟩ <;> cases h1
 ·by_cases hi:i<args.size
  ·simp [Array.getD_eq_getD_getElem?,Array.getElem?_append_left hi]
  ·simp only [Array.getD_eq_getD_getElem?];rw [Array.getElem?_append_right aA,Array.getElem?_eq_none (show args.size<=i by omega),Array.getElem?_replicate];split <;> rfl
 ·rintro e O ds h' ⟨he,ho⟩ t' ht';rcases he with rfl | rfl
  ·exact Wk.go (Em (Frame.enter P f args .normal) t' ds []) (λw=>by rw [A8];simp [stepG.exec,Ci,Em,G,Frame.enter]) (fin O ds h' t' [] ht' ho)
  ·exact ⟨.inr rfl,O,ht',ho⟩
def GH.of(W:World):GH:=λb=>(W.heap[b]?).map λo=>(false,o)
theorem GH.of_some{W:World}{b:Nat}{o:Obj}(h:W.heap[b]? =some o):GH.of W b=some (false,o):=by unfold GH.of;rw [h];rfl
theorem fits_of(W:World):EE W (GH.of W):=λb p o h=>by
 unfold GH.of at h;cases e:W.heap[b]? with
 | none=>rw [e] at h;cases h
 | some x=>rw [e] at h;cases h;rfl
theorem kept_of{W w:World}{h:GH}(l:(GH.of W).Le h)(f:EE w h){b:Nat}{o:Obj}(hb:W.heap[b]? =some o):w.heap[b]? =some o:=f b _ _ (l.keep (GH.of_some hb) rfl)
theorem XU{g:Goroutine}{W:World}(hg:D7 P Post g (GH.of W)):Bv P (JJ Post W.os W.output) (solo g W) #[]:=by
 have hno:∀k a,touchAt (#[]:Trace) k=some a->False:=λk a h=>by
  obtain ⟨op,h1,_⟩:=touch_of h;simp at h1
 refine hg #[g] W none (λ_=>0) #[] ⟨rfl,?_,fits_of W,?_,?_,λk a b hk=>(hno k a hk).elim,?_,λk a hk=>(hno k a hk).elim,λb p o k a _ _ hk=>(hno k a hk).elim⟩
 ·intro j x hj hx;rw [Array.getElem?_eq_none (by simp;omega)] at hx;cases hx
 ·intro op Cb;simp at Cb
 ·rintro said ⟨i,j,hij,⟨a,b,ha,_⟩,_⟩;exact hno i a ha
 ·intro op Cb;simp at Cb
end
end Go.Ns
namespace Go.Ns
open Go.Conc Go.ChangeShapes Go.WideShapes Go.ChangeAt Go.RowKit
section
variable {P:Program} {W:World}
theorem QZ{b off n:Nat}{cs:List Value}(h:W.cells? 0 ⟨b,off,none⟩ n=some cs)(hn:0<n):AX (GH.of W) b off n cs.toArray:=by
 obtain ⟨_,hl,hc⟩:=World.cells?_some h;have hcell:∀i,i<n->W.cell? ⟨b,off+i,none⟩=cs[i]? :=λi hi=>by
  have:=hc i hi
  unfold Addr.add at this;split at this
  ·rename_i e;subst e;exact this
  ·exact this
 have h0:=hcell 0 hn;unfold World.cell? at h0;cases hb:W.heap[b]? with
 | none=>simp [hb,List.getElem?_eq_getElem (show 0<cs.length by omega)] at h0
 | some o=>
  cases o with
  | cells c t f=>
   have hall:∀i,i<n->c[off+i]? =cs[i]? :=λi hi=>by
    have:=hcell i hi
    unfold World.cell? at this;simpa [hb] using this
   have hlast:=hall (n-1) aA;rw [List.getElem?_eq_getElem (show n-1<cs.length by omega)] at hlast;have hsz:=(Array.getElem?_eq_some_iff.1 hlast).1;refine ⟨false,c,t,f,GH.of_some hb,aA,?_⟩;apply Array.ext
   ·simp;omega
   ·intro i h1 h2;have hi:i<n:=by simp at h2;omega
    have:=hall i hi
    rw [Array.getElem?_eq_getElem aA,List.getElem?_eq_getElem aA] at this;simpa using this
  | _=>simp [hb,List.getElem?_eq_getElem (show 0<cs.length by omega)] at h0
def Opens(P:Program)(e:TypeId){V:Type}(enc:V->Array Value)(good:V->Prop):Prop:=
 ∀{H:Type}(en:TypeId×Value->H)(W:World)(base:Nat)(sp:Nat->Bool)(held:Bool)(fuel:Nat)(cs:List Value)(x:DataW H×List MemPlace),DataW.trod en P W base sp held fuel e cs=some x->∃a:V,cs=(enc a).toList/\good a
theorem open_sl{H:Type}{en:TypeId×Value->H}{sp:Nat->Bool}{held:Bool}{fuel:Nat}{t e:TypeId}{n:Nat}{V:Type}{enc:V->Array Value}{good:V->Prop}{v:Value}{d:DataW H}{ps:List MemPlace}(ht:P.underlying t=some (.slice e))(hc:P.cellsOf e=n)(hn:0<n)
  (ho:Opens P e enc good) (h:DataW.trod en P W 0 sp held fuel t [v]=some (d,ps)) (hw:∀es rs,d=.slice es rs->es.length<=140737488355328):∃xs:List V,AO (GH.of W) v n enc xs/\∀x ∈ xs,good x:=by
 rcases DataW.trod_slice ht h with ⟨h1,_⟩ | ⟨a,len,cap,elems,rest,m,rfl,h1,h2,_,hl,_,hlen,hel,_,_⟩
 ·simp at h1;subst h1;exact ⟨[],AO.nil _ _ _,λx hx=>by cases hx⟩
 ·simp only [List.cons.injEq,and_true] at h1;subst h1;simp only [Prod.mk.injEq] at h2;have hlim:len<=140737488355328:=by
   have:=hw _ _ h2.1
   simpa [hlen] using this
  have each:∀i,i<len->∃x:V,∃b off,a=⟨b,off,none⟩/\AX (GH.of W) b (off+i*n) n (enc x)/\good x:=λi hi=>by
   have:=hel i hi
   rw [List.getElem?_eq_getElem aA,hc] at this;simp only [Option.bind_eq_some_iff] at this;obtain ⟨cs,hcs,hx⟩:=this;obtain ⟨x,e1,e2⟩:=ho _ _ _ _ _ _ _ _ hx;have hc0:=(World.cells?_some hcs).2.2 0 hn;have hlen2:=(World.cells?_some hcs).2.1;rw [List.getElem?_eq_getElem (show 0<cs.length by omega)] at hc0;have hsp:=World.cell?_spot hc0;obtain ⟨b,off,spot⟩:=a;have hspot:spot=none\/i≠0:=by
    by_cases e0:i=0
    ·subst e0;left;simpa [Addr.add] using hsp
    ·exact .inr e0
   have hfirst:spot=none:=by
    rcases hspot with e | e
    ·exact e
    ·have h00:=hel 0 aA;rw [List.getElem?_eq_getElem aA,hc] at h00;simp only [Option.bind_eq_some_iff] at h00;obtain ⟨c0,hc00,_⟩:=h00;have z:=(World.cells?_some hc00).2.2 0 hn;have zl:=(World.cells?_some hc00).2.1;rw [List.getElem?_eq_getElem (show 0<c0.length by omega)] at z
     have:=World.cell?_spot z
     simpa [Addr.add] using this
   subst hfirst;refine ⟨x,b,off,rfl,?_,e2⟩;have ea:(Addr.add ⟨b,off,none⟩ (i*n))=⟨b,off+i*n,none⟩:=by
    unfold Addr.add;split
    ·rename_i e;rw [e];rfl
    ·rfl
   rw [ea] at hcs
   have:=QZ hcs hn
   rw [e1] at this;simpa using this
  by_cases hz:len=0
  ·subst hz;exact ⟨[],⟨some a,cap,rfl,Nat.zero_le _,Nat.zero_le _,λi hi=>by simp at hi⟩,λx hx=>by cases hx⟩
  ·have hch:∀i:Fin len,∃x:V,∃b off,a=⟨b,off,none⟩/\AX (GH.of W) b (off+i.val*n) n (enc x)/\good x:=λi=>each i.val i.isLt;refine ⟨List.ofFn λi=>Classical.choose (hch i),⟨some a,cap,by rw [List.length_ofFn],by rw [List.length_ofFn];exact hl,by rw [List.length_ofFn];exact hlim,λi hi=>?_⟩,λx hx=>?_⟩
   ·rw [List.length_ofFn] at hi;obtain ⟨b,off,e1,e2,_⟩:=Classical.choose_spec (hch ⟨i,hi⟩);refine ⟨b,off,by rw [e1],?_⟩;rw [List.getElem_ofFn];exact e2
   ·obtain ⟨i,rfl⟩:=List.mem_ofFn.1 hx;obtain ⟨_,_,_,_,e3⟩:=Classical.choose_spec (hch i);exact e3
def NW(P:Program)(W:World)(e:TypeId){V:Type}(enc:V->Array Value)(good:V->Prop):Prop:=
 ∀{H:Type}(en:TypeId×Value->H)(sp:Nat->Bool)(held:Bool)(fuel:Nat)(cs:List Value)(x:DataW H×List MemPlace),DataW.trod en P W 0 sp held fuel e cs=some x->(∀y ∈ x.1.weights P e,y<=reachBytes)->∃a:V,cs=(enc a).toList/\good a
theorem KV{H:Type}{e:TypeId}{d:DataW H}{y:Nat}:∀{l:List (DataW H)},d ∈ l->y ∈ d.weights P e->y ∈ DataW.weightsAll P e l
 | c ::l,hd,hy=>by
  unfold DataW.weightsAll;rcases List.mem_cons.1 hd with rfl | hd
  ·exact List.mem_append_left _ hy
  ·exact List.mem_append_right _ (KV hd hy)
theorem I6{H:Type}{en:TypeId×Value->H}{sp:Nat->Bool}{held:Bool}{fuel:Nat}{t e:TypeId}{n:Nat}{V:Type}{enc:V->Array Value}{good:V->Prop}{v:Value}{d:DataW H}{ps:List MemPlace}(ht:P.underlying t=some (.slice e))(hc:P.cellsOf e=n)(hn:0<n)
  (hb:1<=P.bytesOf e) (ho:NW P W e enc good) (h:DataW.trod en P W 0 sp held fuel t [v]=some (d,ps)) (hw:∀y ∈ d.weights P t,y<=reachBytes):∃xs:List V,AO (GH.of W) v n enc xs/\∀x ∈ xs,good x:=by
 rcases DataW.trod_slice ht h with ⟨h1,_⟩ | ⟨a,len,cap,elems,rest,m,rfl,h1,h2,_,hl,_,hlen,hel,_,_⟩
 ·simp at h1;subst h1;exact ⟨[],AO.nil _ _ _,λx hx=>by cases hx⟩
 ·simp only [List.cons.injEq,and_true] at h1;subst h1;simp only [Prod.mk.injEq] at h2;have hd:d=.slice (elems.map (·.1)) (rest.map (·.1)):=h2.1;have hlim:len<=140737488355328:=by
   have:=hw ((elems.map (·.1)).length+(rest.map (·.1)).length |>.mul (P.bytesOf e)) (by rw [hd];unfold DataW.weights;rw [ht];exact List.mem_cons_self ..)
   have h3:(elems.map (·.1)).length+(rest.map (·.1)).length<=((elems.map (·.1)).length+(rest.map (·.1)).length)*P.bytesOf e:=Nat.le_mul_of_pos_right _ hb;have h4:((elems.map (·.1)).length+(rest.map (·.1)).length)*P.bytesOf e<=reachBytes:=this;rw [List.length_map] at h3 h4;unfold reachBytes at h4;omega
  have each:∀i,i<len->∃x:V,∃b off,a=⟨b,off,none⟩/\AX (GH.of W) b (off+i*n) n (enc x)/\good x:=λi hi=>by
   have:=hel i hi
   rw [List.getElem?_eq_getElem aA,hc] at this;simp only [Option.bind_eq_some_iff] at this;obtain ⟨cs,hcs,hx⟩:=this;obtain ⟨x,e1,e2⟩:=ho _ _ _ _ _ _ hx λy hy=>hw y (by rw [hd];unfold DataW.weights;rw [ht];exact List.mem_cons_of_mem _ (List.mem_append_left _ (KV (List.mem_map.2 ⟨_,List.getElem_mem (show i<elems.length by omega),rfl⟩) hy)));have hc0:=(World.cells?_some hcs).2.2 0 hn;have hlen2:=(World.cells?_some hcs).2.1;rw [List.getElem?_eq_getElem (show 0<cs.length by omega)] at hc0;have hsp:=World.cell?_spot hc0;obtain ⟨b,off,spot⟩:=a;have hspot:spot=none\/i≠0:=by
    by_cases e0:i=0
    ·subst e0;left;simpa [Addr.add] using hsp
    ·exact .inr e0
   have hfirst:spot=none:=by
    rcases hspot with e | e
    ·exact e
    ·have h00:=hel 0 aA;rw [List.getElem?_eq_getElem aA,hc] at h00;simp only [Option.bind_eq_some_iff] at h00;obtain ⟨c0,hc00,_⟩:=h00;have z:=(World.cells?_some hc00).2.2 0 hn;have zl:=(World.cells?_some hc00).2.1;rw [List.getElem?_eq_getElem (show 0<c0.length by omega)] at z
     have:=World.cell?_spot z
     simpa [Addr.add] using this
   subst hfirst;refine ⟨x,b,off,rfl,?_,e2⟩;have ea:(Addr.add ⟨b,off,none⟩ (i*n))=⟨b,off+i*n,none⟩:=by
    unfold Addr.add;split
    ·rename_i e;rw [e];rfl
    ·rfl
   rw [ea] at hcs
   have:=QZ hcs hn
   rw [e1] at this;simpa using this
  by_cases hz:len=0
  ·subst hz;exact ⟨[],⟨some a,cap,rfl,Nat.zero_le _,Nat.zero_le _,λi hi=>by simp at hi⟩,λx hx=>by cases hx⟩
  ·have hch:∀i:Fin len,∃x:V,∃b off,a=⟨b,off,none⟩/\AX (GH.of W) b (off+i.val*n) n (enc x)/\good x:=λi=>each i.val i.isLt;refine ⟨List.ofFn λi=>Classical.choose (hch i),⟨some a,cap,by rw [List.length_ofFn],by rw [List.length_ofFn];exact hl,by rw [List.length_ofFn];exact hlim,λi hi=>?_⟩,λx hx=>?_⟩
   ·rw [List.length_ofFn] at hi;obtain ⟨b,off,e1,e2,_⟩:=Classical.choose_spec (hch ⟨i,hi⟩);refine ⟨b,off,by rw [e1],?_⟩;rw [List.getElem_ofFn];exact e2
   ·obtain ⟨i,rfl⟩:=List.mem_ofFn.1 hx;obtain ⟨_,_,_,_,e3⟩:=Classical.choose_spec (hch i);exact e3
theorem Kw{H:Type}{en:TypeId×Value->H}{t:TypeId}(hl:laidOutB P=true)(hr:P.readableRec t=true)(hrow:t<P.types.size){W':World}{v:Value}{d:DataW H}{ps:List MemPlace}(h:DataW.Trod en P W 0 (λ_=>true) true t v d ps)
  (hk:∀(b:Nat)(o:Obj),W.heap[b]? =some o->W'.heap[b]? =some o) (hlt:∀x ∈ ps,x.block<W.heap.size):DataW.Trod en P W' 0 (λb=>decide (b<W.heap.size)) true t v d ps:=by
 let W2:World:={ W' with os:=W.os,tape:=W.tape,output:=W.output };have hsz:W.heap.size<=W'.heap.size:=by
  rcases Nat.lt_or_ge W'.heap.size W.heap.size with x | x
  ·have:=hk W'.heap.size _ (Array.getElem?_eq_getElem x)
   rw [Array.getElem?_eq_none (Nat.le_refl _)] at this;cases this
  ·exact x
 have hb:Below W.heap.size W W2:=⟨rfl,rfl,rfl,hsz,λk hk'=>by
  show W'.heap[k]? =_;rw [Array.getElem?_eq_getElem hk'];exact hk k _ (Array.getElem?_eq_getElem hk')⟩
 exact DataW.Trod.of_heap (w:=W2) (w':=W') rfl (Below.trod hl hr hrow h hb hlt)
theorem kept_but{W':World}(hk:∀(b:Nat)(o:Obj),W.heap[b]? =some o->W'.heap[b]? =some o)(ho:W'.os=W.os)(hp:W'.output=W.output)(may:MemPlace->Prop):W.keptBut W' may:=by
 refine ⟨ho,hp,λi hi=>?_⟩;rw [hk i _ (Array.getElem?_eq_getElem hi),Array.getElem?_eq_getElem hi];split <;> simp_all
end
end Go.Ns
namespace Go.Ns
open Go.Conc
theorem Qa{P:Program}{E:Gh P}{O:Nat->Value}{ds:List Deferred}{h:GH}{T:(Nat->Value)->List Deferred->GH->Prop}{dst:Option Nat}{ty:TypeId}{pos:String}{af:Array Edge}{gd:Option (Nat×Bool)}{V:Type}
  {s x:TypeId} {o1 o2:Operand} {h0:GH} {w:Value} {r e n bytes:Nat} {enc:V->Array Value} {ys:List V} (ht:IQ P s x=some (e,n,bytes)) (h1:AR O o1=.slice (some ⟨r,0,none⟩) 0 0) (h2:AR O o2=w)
  (hv:AQ h0 h (.slice (some ⟨r,0,none⟩) 0 0) e n enc ([]:List V)) (hw:AO h w n enc ys) (l0:∀q,h q=none->h0 q=none) (hb:(2*(([]:List V).length+ys.length)+512)*bytes<=2 ^ 48) (hfine:∀y ∈ ys,(enc y).toList.all (·.oneCell')=true)
  (k:∀v' h',AQ h0 h' v' e n enc ys->Gc h h' (.slice (some ⟨r,0,none⟩) 0 0) v'->h.Le h'->T (putS O dst v') ds h'):BW E ⟨dst,.call ⟨.builtin .append,#[o1,o2],#[s,x]⟩,ty,pos,af,gd⟩ O ds h T:=
 PO ht h1 h2 hv hw l0 hb hfine λv' h' o g1 g2 g3=>k v' h' o ⟨g1,g2⟩ (.of λb y hb=>by
  by_cases e:b=r
  ·subst e;rcases hv with ⟨q,_⟩ | ⟨b1,cap,c,q,_,q2,q3,_⟩
   ·cases q
   ·simp only [Value.slice.injEq,Option.some.injEq,Addr.mk.injEq,and_true] at q;obtain ⟨rfl,_,rfl⟩:=q;obtain ⟨c',q5,q6⟩:=g3 b c rfl q2;rw [q2] at hb;cases hb;rw [q5,Array.eq_empty_of_size_eq_zero (show c.size=0 by omega),Array.eq_empty_of_size_eq_zero (show c'.size=0 by omega)]
  ·exact g1 b y hb λq=>e (by simpa [CV] using q.symm))
def IY(n:Nat)(l:List Int):Prop:=l.Nodup/\∀x ∈ l,0<=x/\x<n
section
variable {n i:Nat} {l kn rest:List Int}
theorem IY.at(h:IY n l)(k:Nat)(hk:k<l.length):0<=l.getD k 0/\l.getD k 0<n:=h.2 _ (Be hk)
theorem IY.bell(h:IY n l):Ah n l=0:=Bi (k:=l.length) (λj hj=>by
 have r:=h.at j hj;have e:Ds n (l.getD j 0)=0:=by unfold Ds;rw [if_neg aA]
 unfold EH;rw [if_neg (λq=>q e),if_neg];intro q;obtain ⟨x,hx,e2⟩:=List.any_eq_true.1 q;have e3:l.getD j 0=x:=of_decide_eq_true e2;obtain ⟨t,ht,e4⟩:=List.mem_iff_getElem.1 hx;rw [List.length_take] at ht;rw [List.getElem_take] at e4
 have:=(List.pairwise_iff_getElem.1 (List.nodup_iff_pairwise_ne.1 h.1)) t j aA hj aA
 rw [DU 0 hj] at e3;exact this (e4.trans e3.symm)) (Nat.le_refl _)
theorem IY.len(h:IY n l):l.length<=n:=H0 h.bell
theorem IY.left(h:IY n (kn++rest)):IY n kn:=⟨(List.nodup_append.1 h.1).1,λx hx=>h.2 x (List.mem_append_left _ hx)⟩
theorem perm_out{l:List Int}:∀{i:Nat}(hi:i<l.length),([l[i]]++l.eraseIdx i).Perm l:=by
 induction l with
 | nil=>intro i hi;cases hi
 | cons x l ih=>
  intro i hi;cases i with
  | zero=>exact List.Perm.refl _
  | succ i=>exact (List.Perm.swap _ _ _).trans ((ih (Nat.lt_of_succ_lt_succ hi)).cons x)
theorem IY.next(h:IY n (kn++rest))(hi:i<rest.length):IY n (kn++[rest.getD i 0]++rest.eraseIdx i):=by
 have p:(kn++[rest.getD i 0]++rest.eraseIdx i).Perm (kn++rest):=by
  rw [List.append_assoc];refine List.Perm.append_left kn ?_;rw [DU 0 hi];exact perm_out hi
 exact ⟨p.nodup_iff.2 h.1,λx hx=>h.2 x (p.mem_iff.1 hx)⟩
theorem IY.first(n:Nat):IY n (CU n):=by
 induction n with
 | zero=>exact ⟨List.nodup_nil,λx hx=>by cases hx⟩
 | succ n ih=>
  have m:∀x ∈ CU n,0<=x/\x<(n:Int):=ih.2;refine ⟨List.nodup_append.2 ⟨ih.1,aD,λa ha b hb e=>?_⟩,λx hx=>?_⟩
  ·rw [List.mem_singleton.1 hb] at e
   have:=m a ha
   omega
  ·rcases List.mem_append.1 hx with hx | hx
   ·have:=m x hx
    omega
   ·rw [List.mem_singleton.1 hx];omega
end
def FQ:Nat->Nat
 | 0=>1
 | n+1=>1+(n+1)*FQ n
theorem Qb:∀n,n<=4->FQ n<=65
 | 0,_=>aC
 | 1,_=>aC
 | 2,_=>aC
 | 3,_=>aC
 | 4,_=>aC
 | n+5,h=>aA
theorem XV{n i:Nat}(hn:n<=4)(hi:i<=n):1+i*FQ (n-1)<=65:=by
 rcases Nat.eq_zero_or_pos n with e | e
 ·subst e
  have:i=0:=aA
  subst this;decide
 ·have h:=Qb n hn;have e2:FQ n=1+n*FQ (n-1):=by
   cases n with
   | zero=>omega
   | succ n=>rfl
  have:=Nat.mul_le_mul_right (FQ (n-1)) hi
  omega
theorem Vf{n i:Nat}(hi:i=n){m:Nat}(h:m<=1+i*FQ (n-1)):m<=FQ n:=by
 subst hi;cases i with
 | zero=>simp at h;exact h
 | succ i=>exact h
def Hc(n:Nat)(xl:List Sl):Prop:=∀x ∈ xl,IY n x.2
section
variable {n:Nat} {a b:List Sl}
theorem Hc.app(ha:Hc n a)(hb:Hc n b):Hc n (a++b):=λx hx=>(List.mem_append.1 hx).elim (ha x) (hb x)
theorem Hc.one{v:Value}{l:List Int}(h:IY n l):Hc n [(v,l)]:=λx hx=>by rw [List.mem_singleton.1 hx];exact h
theorem Hc.at(h:Hc n a){k:Nat}(hk:k<a.length):IY n (a.getD k Sl.z).2:=h _ (Be hk)
end
section
variable {l:List Int} {i q:Nat}
end
section
variable {bag kinds:Int} {ps:List ByteArray} {ws:List AD} {js:List AK} {ns:List AH} {l:List Int} {p:AE} {i:Nat}
end
section
variable {F G:AE->Int} {l:List AE}
end
section
variable {bag kinds:Int} {ps:List ByteArray} {ws:List AD} {js:List AK} {ns:List AH} {l:List Int} {i k:Nat}
theorem Qc(np:Nat)(pq:List AE):∀q i,i<q->(HV np ws js pq l q).getD i (0,0)=(ZV np ws js pq l i,VD np ws js pq l i)
 | 0,i,h=>absurd h (Nat.not_lt_zero _)
 | q+1,i,h=>by
  have hl:=JU np ws js pq l q;rw [HV,List.getD_eq_getElem?_getD];by_cases e:i<q
  ·rw [List.getElem?_append_left aA,<-List.getD_eq_getElem?_getD];exact Qc np pq q i e
  ·have e2:i=q:=aA
   subst e2;rw [List.getElem?_append_right aA,hl,Nat.sub_self];rfl
end
end Go.Ns
namespace Go.Ns
section
variable {bag kinds:Int} {ps:List ByteArray} {ws:List AD} {js:List AK} {ns:List AH} {r l:List Int} {i k:Nat} {s:Int}
end
end Go.Ns
namespace Go.Ns
section
variable {a b c:List Int} {x y:Int}
end
section
variable {jobs l r:List Int} {f n:Nat}
theorem Vg{l:List Int}{k:Int}:Ho l k=true↔k ∈ l:=by
 unfold Ho;rw [List.any_eq_true];exact ⟨λ⟨x,hx,e⟩=>by rw [of_decide_eq_true e];exact hx,λh=>⟨k,h,decide_eq_true rfl⟩⟩
theorem Qd(hj:∀x ∈ jobs,0<=x/\x<(n:Int)):∀(f:Nat)(l:List Int),IY n l->∀r ∈ BQ jobs f l,IY n r
 | 0,l,hl,r,h=>by rw [List.mem_singleton.1 h];exact hl
 | f+1,l,hl,r,h=>by
  rcases List.mem_cons.1 h with e | h
  ·rw [e];exact hl
  ·obtain ⟨k,hk,h⟩:=List.mem_flatMap.1 h;split at h
   ·cases h
   ·rename_i c
    refine Qd hj f (l++[k]) ⟨List.nodup_append.2 ⟨hl.1,aD,λa ha b hb e=>?_⟩,λx hx=>?_⟩ r h
    ·rw [List.mem_singleton.1 hb] at e;exact c (Vg.2 (e▸ha))
    ·rcases List.mem_append.1 hx with hx | hx
     ·exact hl.2 x hx
     ·rw [List.mem_singleton.1 hx];exact hj k hk
theorem Qe(hj:∀x:Int,0<=x->x<(n:Int)->x ∈ jobs):∀(s l:List Int)(f:Nat),s.length<=f->IY n (l++s)->l++s ∈ BQ jobs f l
 | [],l,f,_,_=>by rw [List.append_nil,Fp];exact List.mem_cons_self
 | k ::s,l,0,h,_=>absurd h aD
 | k ::s,l,f+1,h,hv=>by
  have e:l++k ::s=(l++[k])++s:=aD
  have hk:=hv.2 k aD;refine List.mem_cons_of_mem _ (List.mem_flatMap.2 ⟨k,hj k hk.1 hk.2,?_⟩);have hn:¬Ho l k=true:=λq=>by
   have d:=List.nodup_append.1 hv.1;exact d.2.2 k (Vg.1 q) k List.mem_cons_self rfl
  rw [if_neg hn,e];exact Qe hj s (l++[k]) f (by simp at h;omega) (by rw [<-e];exact hv)
theorem Qf:∀(n:Nat)(x:Int),0<=x->x<(n:Int)->x ∈ CU n
 | 0,x,h0,h1=>aA
 | n+1,x,h0,h1=>by
  by_cases e:x<(n:Int)
  ·exact List.mem_append_left _ (Qf n x h0 e)
  ·exact List.mem_append_right _ (List.mem_singleton.2 aA)
theorem XW(h:IY n r):r ∈ C9 (CU n):=by
 have:=Qe (Qf n) r [] (CU n).length (by rw [C8];exact h.len) h
 exact this
theorem all_val(h:r ∈ C9 (CU n)):IY n r:=Qd (λ_ hx=>Ll hx) _ [] ⟨List.nodup_nil,λx hx=>by cases hx⟩ r h
end
structure Vh(g pre:List (List Int)):Prop where
 sub:g.Sublist pre
 le:∀y ∈ g,∀z ∈ pre,z.length<=y.length
 eq:∀y ∈ g,∀z ∈ pre,z.length=y.length->z ∈ g
 ne:pre≠[]->g≠[]
section
variable {g pre:List (List Int)} {x:List Int}
theorem Vh.step(h:Vh g pre):Vh (E9 g x) (pre++[x]):=by
 have hd:0<g.length->g.getD 0 [] ∈ g:=λq=>Be q;have same:∀y ∈ g,∀z ∈ g,y.length=z.length:=λy hy z hz=>by
  have:=h.le y hy z (h.sub.subset hz)
  have:=h.le z hz y (h.sub.subset hy)
  omega
 by_cases h0:g.length=0
 ·have e:g=[]:=List.eq_nil_of_length_eq_zero h0;have ep:pre=[]:=Decidable.byContradiction λq=>h.ne q e;have es:E9 g x=[x]:=by
   unfold E9 Ja;rw [if_neg (λq=>aA)];unfold Jb;rw [if_pos (.inl h0),e];rfl
  rw [es,ep];exact ⟨List.Sublist.refl _,λy hy z hz=>by rw [List.mem_singleton.1 hy,List.mem_singleton.1 hz];exact Nat.le_refl _,λy _ z hz _=>hz,λ_=>aD⟩
 ·have hm:=hd aA;by_cases h1:(g.getD 0 []).length<x.length
  ·have es:E9 g x=[x]:=by
    unfold E9 Ja;rw [if_pos ⟨aA,h1⟩];rfl
   rw [es];have lt:∀z ∈ pre,z.length<x.length:=λz hz=>Nat.lt_of_le_of_lt (h.le _ hm z hz) h1;refine ⟨List.sublist_append_right _ _,λy hy z hz=>?_,λy hy z hz e=>?_,λ_=>aD⟩
   ·rw [List.mem_singleton.1 hy];rcases List.mem_append.1 hz with hz | hz
    ·exact Nat.le_of_lt (lt z hz)
    ·rw [List.mem_singleton.1 hz];exact Nat.le_refl _
   ·rw [List.mem_singleton.1 hy] at e;rcases List.mem_append.1 hz with hz | hz
    ·have:=lt z hz;omega
    ·exact hz
  ·have ec:Ja g x=g:=if_neg (λq=>h1 q.2);by_cases h2:x.length=(g.getD 0 []).length
   ·have es:E9 g x=g++[x]:=by
     unfold E9;rw [ec];unfold Jb;rw [if_pos (.inr h2)]
    rw [es];have sx:∀y ∈ g++[x],y.length=x.length:=λy hy=>by
     rcases List.mem_append.1 hy with hy | hy
     ·rw [same y hy _ hm,h2]
     ·rw [List.mem_singleton.1 hy]
    refine ⟨h.sub.append (List.Sublist.refl _),λy hy z hz=>?_,λy hy z hz e=>?_,λ_=>aD⟩
    ·rw [sx y hy];rcases List.mem_append.1 hz with hz | hz
     ·rw [h2];exact h.le _ hm z hz
     ·rw [List.mem_singleton.1 hz];exact Nat.le_refl _
    ·rcases List.mem_append.1 hz with hz | hz
     ·exact List.mem_append_left _ (h.eq _ hm z hz (by rw [e,sx y hy,h2]))
     ·exact List.mem_append_right _ hz
   ·have es:E9 g x=g:=by
     unfold E9;rw [ec];unfold Jb;rw [if_neg];rintro (q | q) <;> omega
    rw [es];refine ⟨h.sub.trans (List.sublist_append_left _ _),λy hy z hz=>?_,λy hy z hz e=>?_,λ_ q=>h0 (by rw [q];rfl)⟩
    ·rcases List.mem_append.1 hz with hz | hz
     ·exact h.le y hy z hz
     ·rw [List.mem_singleton.1 hz,same y hy _ hm];omega
    ·rcases List.mem_append.1 hz with hz | hz
     ·exact h.eq y hy z hz e
     ·rw [List.mem_singleton.1 hz,same y hy _ hm] at e;exact absurd e h2
theorem goodI{l:List (List Int)}:∀k,k<=l.length->Vh (KO l k) (l.take k)
 | 0,_=>⟨List.Sublist.refl _,λy hy=>(by cases hy),λy hy=>(by cases hy),λh=>absurd rfl h⟩
 | k+1,h=>by
  have ih:=(goodI (l:=l) k aA).step (x:=l.getD k []);rw [Dj [] (show k<l.length by omega)];exact ih
theorem Vi(l:List (List Int)):Vh (KO l l.length) l:=by
 have:=goodI (l:=l) l.length (Nat.le_refl _)
 rwa [List.take_length] at this
end
section
variable {G:List Int->Int} {l:List (List Int)}
end
end Go.Ns
namespace Go.Ns
section
variable {c:Ge} {q i:Nat} {x:Int}
end
section
variable {bag kinds:Int} {ps:List ByteArray} {ws:List AD} {js:List AK} {ns:List AH} {r:List Int} {k:Nat} {x:Int}
def IZ(bag kinds:Int)(ps:List ByteArray)(ws:List AD)(js:List AK)(ns:List AH):List (List Int):=Gu ps.length ws js (AC ws js ns) bag kinds
theorem Vj:r ∈ IZ bag kinds ps ws js ns↔IY js.length r/\B4 ps.length ws js (AC ws js ns) r bag kinds=true:=by
 unfold IZ Gu;rw [List.mem_filter];exact ⟨λh=>⟨all_val h.1,h.2⟩,λh=>⟨XW h.1,h.2⟩⟩
theorem bestR_eq(h0:Ae bag kinds ps ws js ns 0=0):II bag kinds ps ws js ns=DI (λl=>Bu (λx=>AW ps.length ws js x l) (AC ws js ns)) (KO (IZ bag kinds ps ws js ns) (IZ bag kinds ps ws js ns).length):=if_neg (λe=>e h0)
theorem best_in(hz:BS bag kinds ps ws js ns=0)(h0:Ae bag kinds ps ws js ns 0=0):II bag kinds ps ws js ns ∈ KO (IZ bag kinds ps ws js ns) (IZ bag kinds ps ws js ns).length:=by
 rw [bestR_eq h0];have p:0<(IZ bag kinds ps ws js ns).length:=QP (Cg hz).hbag.1
 have:=(Vi (IZ bag kinds ps ws js ns)).ne (λq=>by rw [q] at p;exact absurd p (Nat.lt_irrefl _))
 exact XK (List.length_pos_iff.2 this)
theorem best_val(hz:BS bag kinds ps ws js ns=0)(h0:Ae bag kinds ps ws js ns 0=0):IY js.length (II bag kinds ps ws js ns)/\B4 ps.length ws js (AC ws js ns) (II bag kinds ps ws js ns) bag kinds=true:=
 Vj.1 ((Vi _).sub.subset (best_in hz h0))
end
end Go.Ns
namespace Go.Ns
section
variable {nj:Nat} {l:List Int} {k:Nat}
theorem cr6(h:¬(0<=l.getD k 0/\l.getD k 0<=(nj:Int)-1)):EH nj l k=6:=by
 have e:Ds nj (l.getD k 0)=6:=if_pos h;unfold EH;rw [e,if_pos aC]
theorem cr5(h:0<=l.getD k 0/\l.getD k 0<=(nj:Int)-1)(hm:l.getD k 0 ∈ l.take k):EH nj l k=5:=by
 have e:Ds nj (l.getD k 0)=0:=if_neg (λq=>q h);unfold EH;rw [e,if_neg aD,if_pos];exact List.any_eq_true.2 ⟨_,hm,decide_eq_true rfl⟩
theorem cr0(h:0<=l.getD k 0/\l.getD k 0<=(nj:Int)-1)(hm:¬l.getD k 0 ∈ l.take k):EH nj l k=0:=by
 have e:Ds nj (l.getD k 0)=0:=if_neg (λq=>q h);unfold EH;rw [e,if_neg aD,if_neg];intro q;obtain ⟨x,hx,hd⟩:=List.any_eq_true.1 q;exact hm (by rw [of_decide_eq_true hd];exact hx)
end
section
variable {jobs l r q:List Int} {f n:Nat}
end
section
variable {bag kinds:Int} {ps:List ByteArray} {ws:List AD} {js:List AK} {ns:List AH} {r o:List Int}
end
end Go.Ns
namespace Go.Ns
def wA(ws:List AD)(k:Nat):Nat:=(ws.getD k AD.z).a.toNat
def wB(ws:List AD)(k:Nat):Nat:=(ws.getD k AD.z).b.toNat
def Mf(ws:List AD)(p:AE)(u v:Nat)(w:Int):Prop:=∃k,k<ws.length/\(wA ws k=u/\wB ws k=v\/wA ws k=v/\wB ws k=u)/\w=p.ways k
inductive L5 (ws:List AD) (p:AE) (x:Nat):Nat->Nat->Int->Prop
 | nil:L5 ws p x 0 x 0
 | step {k u v:Nat} {d w:Int}:L5 ws p x k u d->Mf ws p u v w->L5 ws p x (k+1) v (d+w)
section
variable {ws:List AD} {p:AE} {x y z u v k l np:Nat} {d e w:Int}
theorem Mf.symm(h:Mf ws p u v w):Mf ws p v u w:=by
 obtain ⟨k,h1,h2,h3⟩:=h;exact ⟨k,h1,h2.symm,h3⟩
theorem L5.append(h:L5 ws p x k y d)(g:L5 ws p y l z e):L5 ws p x (k+l) z (d+e):=by
 induction g with
 | nil=>rw [Int.add_zero];exact h
 | step _ c ih=>
  have:=ih.step c
  rwa [Int.add_assoc,Nat.add_assoc] at this
theorem L5.symm(h:L5 ws p x k y d):L5 ws p y k x d:=by
 induction h with
 | nil=>exact .nil
 | @step k u v d w _ c ih=>
  have:=(L5.step (.nil (x:=v)) c.symm).append ih
  rw [Int.zero_add] at this
  rwa [Nat.add_comm k 1,Int.add_comm d w]
theorem L5.le(hp:BF p)(h:L5 ws p x k y d):0<=d/\d<=30*(k:Int):=by
 induction h with
 | nil=>exact ⟨Int.le_refl _,Int.le_refl _⟩
 | step _ c ih=>
  obtain ⟨q,_,_,rfl⟩:=c
  have:=hp.ways q
  omega
theorem Cb{Q:Nat->Nat->Prop}(hQ:∀k v,v<np->Q (k+1) v->∃u,u<np/\Q k u/\∀j,Q j u->Q (j+1) v)(hv:v<np)(h:Q k v):∃j,j<np/\Q j v:=by
 have low:∀k v,v<np->Q k v->∃j,Q j v/\∀i,i<j->¬Q i v:=by
  intro k
  induction k using Nat.strongRecOn with
  | _ k ih=>
   intro v hv h;by_cases c:∃i,i<k/\Q i v
   ·obtain ⟨i,h1,h2⟩:=c;exact ih i h1 v hv h2
   ·exact ⟨k,h,λi hi q=>c ⟨i,hi,q⟩⟩
 have chain:∀j v,v<np->Q j v->(∀i,i<j->¬Q i v)->∃f:Nat->Nat,∀i,i<=j->f i<np/\Q i (f i)/\∀t,t<i->¬Q t (f i):=by
  intro j
  induction j with
  | zero=>exact λv hv h _=>⟨λ_=>v,λi hi=>by rw [show i=0 by omega];exact ⟨hv,h,λt ht=>absurd ht (Nat.not_lt_zero _)⟩⟩
  | succ j ih=>
   intro v hv h hm;obtain ⟨u,hu,h1,h2⟩:=hQ j v hv h;obtain ⟨f,hf⟩:=ih u hu h1 λi hi q=>hm (i+1) aA (h2 i q);refine ⟨λi=>if i=j+1 then v else f i,λi hi=>?_⟩;by_cases e:i=j+1
   ·subst e;simp only [if_true];exact ⟨hv,h,hm⟩
   ·simp only [if_neg e];exact hf i aA
 obtain ⟨j,h1,h2⟩:=low k v hv h;obtain ⟨f,hf⟩:=chain j v hv h1 h2
 have:=Tz np (j+1) f (λi hi=>(hf i aA).1) λi t hit ht e=>by
  have a:=(hf i aA).2.1;rw [e] at a;exact (hf t aA).2.2 i hit a
 exact ⟨j,aA,h1⟩
end
section
variable {bag kinds:Int} {ps:List ByteArray} {ws:List AD} {js:List AK} {ns:List AH} {p:AE} {x y v k n:Nat} {d w:Int}
theorem Mg(bk:A7 bag kinds ps ws js ns){u:Nat}(h:Mf ws p u v w):u<ps.length/\v<ps.length:=by
 obtain ⟨k,hk,h2,_⟩:=h;have o:=HD bk.way k hk;have h3:=o.a;have h4:=o.b;unfold wA wB at h2;omega
theorem Mh(bk:A7 bag kinds ps ws js ns)(hp:BF p){u:Nat}(h:Mf ws p u v w):Aw ps.length ws p u v<=w:=by
 obtain ⟨k,hk,h2,rfl⟩:=h
 have:=XS (np:=ps.length) hp (IX bk.way) hk
 have s:=(Gx (np:=ps.length) hp (IX bk.way)).s.sym u v;unfold wA wB at h2;rcases h2 with ⟨rfl,rfl⟩ | ⟨rfl,rfl⟩
 ·exact this
 ·rw [s];exact this
theorem Zf(bk:A7 bag kinds ps ws js ns)(hp:BF p)(hx:x<ps.length)(h:L5 ws p x k v d):Aw ps.length ws p x v<=d:=by
 have fw:=Gx (np:=ps.length) hp (IX bk.way)
 induction h with
 | nil=>rw [fw.s.diag];exact Int.le_refl _
 | @step k u v d w h0 c ih=>
  have r:=Mg bk c;have t:=fw.tri u r.1 x v hx r.2
  have:=Mh bk hp c
  omega
theorem Vk(bk:A7 bag kinds ps ws js ns):∀n,n<=ws.length->∀x y,x<4->y<4->A0 p ws n x y<1048576->∃k,L5 ws p x k y (A0 p ws n x y)
 | 0,_,x,y,hx,hy,h=>by
  have e:A0 p ws 0 x y=Io 4 x y:=rfl;rw [e,KQ] at h ⊢;by_cases c:x<4/\y<4/\x≠y
  ·rw [if_pos c] at h;omega
  ·rw [if_neg c]
   have:x=y:=Decidable.byContradiction λq=>c ⟨hx,hy,q⟩
   subst this;exact ⟨0,.nil⟩
 | n+1,hn,x,y,hx,hy,h=>by
  have r:=(IX bk.way).rng n aA;have e:A0 p ws (n+1)=KI p ws (A0 p ws n) n:=Av _ _ _;rw [e,Lp _ _ _ _ aA] at h ⊢;by_cases c:(x=(ws.getD n AD.z).a.toNat/\y=(ws.getD n AD.z).b.toNat)\/(x=(ws.getD n AD.z).b.toNat/\y=(ws.getD n AD.z).a.toNat)
  ·rw [if_pos c]
   have:=L5.step (.nil (ws:=ws) (p:=p) (x:=x)) (v:=y) (w:=p.ways n) ⟨n,aA,by unfold wA wB;omega,rfl⟩
   rw [Int.zero_add] at this;exact ⟨1,this⟩
  ·rw [if_neg c] at h ⊢;exact Vk bk n aA x y hx hy h
theorem Vl(bk:A7 bag kinds ps ws js ns)(hp:BF p):∀n,n<=ps.length->∀x y,x<ps.length->y<ps.length->Ch ps.length (A0 p ws ws.length) n x y<1048576->∃k,L5 ws p x k y (Ch ps.length (A0 p ws ws.length) n x y)
 | 0,_,x,y,hx,hy,h=>Vk bk ws.length (Nat.le_refl _) x y (by have:=bk.plen;omega) (by have:=bk.plen;omega) h
 | n+1,hn,x,y,hx,hy,h=>by
  have ih:=Vl bk hp n aA;have s:=(FW.all (KR hp (IX bk.way) ws.length (Nat.le_refl _)) n (show n<=ps.length by omega)).s;have e:Ch ps.length (A0 p ws ws.length) (n+1)=Ep n ps.length (Ch ps.length (A0 p ws ws.length) n) ps.length:=Av _ _ _;have g:=QX (np:=ps.length) n (Ch ps.length (A0 p ws ws.length) n) (s.diag n) s.ok ps.length x y;rw [if_pos ⟨hx,hy⟩] at g;rw [e,g] at h ⊢;have o1:=s.ok x n;have o2:=s.ok n y;rcases Int.le_total (Ch ps.length (A0 p ws ws.length) n x y) (Ch ps.length (A0 p ws ws.length) n x n+Ch ps.length (A0 p ws ws.length) n n y) with c | c
  ·rw [Int.min_eq_left c] at h ⊢;exact ih x y hx hy h
  ·rw [Int.min_eq_right c] at h ⊢;obtain ⟨k,a⟩:=ih x n hx aA aA;obtain ⟨l,b⟩:=ih n y aA hy aA;exact ⟨_,a.append b⟩
theorem Vm(bk:A7 bag kinds ps ws js ns)(hv:v<ps.length):∃k d,L5 ws p 0 k v d:=by
 have one:∀(c:Ge)(a:AD),a ∈ ws->(∀i,c i=true->∃k d,L5 ws p 0 k i d)->∀i,GQ c a i=true->∃k d,L5 ws p 0 k i d:=by
  intro c a ha hc;obtain ⟨q,hq,ea⟩:=List.mem_iff_getElem.1 ha;have ed:Mf ws p a.a.toNat a.b.toNat (p.ways q):=⟨q,hq,.inl (by unfold wA wB;rw [DU AD.z hq,ea];exact ⟨rfl,rfl⟩),rfl⟩;have both:(c a.a.toNat || c a.b.toNat)=true->(∃k d,L5 ws p 0 k a.a.toNat d)/\∃k d,L5 ws p 0 k a.b.toNat d:=λh=>by
   rcases Bool.or_eq_true_iff.1 h with h | h
   ·obtain ⟨k,d,t⟩:=hc _ h;exact ⟨⟨k,d,t⟩,_,_,t.step ed⟩
   ·obtain ⟨k,d,t⟩:=hc _ h;exact ⟨⟨_,_,t.step ed.symm⟩,k,d,t⟩
  intro i hi;unfold GQ Ge.set at hi;by_cases e:i=a.b.toNat
  ·rw [if_pos e] at hi;rw [e];by_cases e2:a.b.toNat=a.a.toNat
   ·rw [if_pos e2,if_pos rfl,Bool.or_self] at hi;exact (both hi).2
   ·rw [if_neg e2,if_pos rfl] at hi;rcases Bool.or_eq_true_iff.1 hi with h | h
    ·exact hc _ h
    ·exact (both h).2
  ·rw [if_neg e] at hi;by_cases e2:i=a.a.toNat
   ·rw [if_pos e2] at hi;rw [e2];exact (both hi).1
   ·rw [if_neg e2] at hi;exact hc i hi
 have fold:∀(l:List AD)(c:Ge),(∀a ∈ l,a ∈ ws)->(∀i,c i=true->∃k d,L5 ws p 0 k i d)->∀i,l.foldl GQ c i=true->∃k d,L5 ws p 0 k i d:=by
  intro l
  induction l with
  | nil=>exact λc _ hc=>hc
  | cons a l ih=>exact λc hl hc=>ih _ (λb hb=>hl b (List.mem_cons_of_mem _ hb)) (one c a (hl a List.mem_cons_self) hc)
 have all:∀n (c:Ge),(∀i,c i=true->∃k d,L5 ws p 0 k i d)->∀i,EV ws n c i=true->∃k d,L5 ws p 0 k i d:=by
  intro n
  induction n with
  | zero=>exact λc hc=>hc
  | succ n ih=>exact λc hc=>ih _ (fold ws c (λa ha=>ha) hc)
 have led:=bk.led;unfold GR at led;split at led
 ·cases led
 ·rename_i q
  refine all ps.length (Ge.none.set 0 true) (λi hi=>?_) v ?_
  ·unfold Ge.set Ge.none at hi;by_cases e:i=0
   ·subst e;exact ⟨0,0,.nil⟩
   ·rw [if_neg e] at hi;cases hi
  ·refine Decidable.byContradiction λc=>q (List.any_eq_true.2 ⟨EV ws ps.length (Ge.none.set 0 true) v,?_,?_⟩)
   ·unfold Om;exact List.mem_map.2 ⟨v,List.mem_range.2 hv,rfl⟩
   ·rw [Bool.eq_false_iff.2 c];rfl
theorem SM(bk:A7 bag kinds ps ws js ns)(hp:BF p)(hx:x<ps.length)(hv:v<ps.length):∃k,k<ps.length/\L5 ws p x k v (Aw ps.length ws p x v):=by
 have np4:=bk.plen;have fw:=Gx (np:=ps.length) hp (IX bk.way);have small:Aw ps.length ws p x v<1048576:=by
  obtain ⟨k,d,t⟩:=Vm (p:=p) bk hx;obtain ⟨l,e,t2⟩:=Vm (p:=p) bk hv;obtain ⟨j,hj,d2,t3⟩:=Cb (Q:=λk v=>∃d,L5 ws p x k v d) (np:=ps.length) (λk v _ ⟨d,t⟩=>by
   cases t with
   | @step _ u _ d w t c=>exact ⟨u,(Mg bk c).1,⟨_,t⟩,λj ⟨d,t⟩=>⟨_,t.step c⟩⟩) hv (k:=k+l) ⟨_,t.symm.append t2⟩
  have a:=Zf bk hp hx t3;have b:=t3.le hp;omega
 obtain ⟨k,t⟩:=Vl bk hp ps.length (Nat.le_refl _) x v hx hv small;refine Cb (Q:=λk v=>L5 ws p x k v (Aw ps.length ws p x v)) (np:=ps.length) (λk v hv2 t=>?_) hv t;generalize hd:Aw ps.length ws p x v=D at t;cases t with
 | @step _ u _ d w t c=>
  have r:=Mg bk c;have a:=Zf bk hp hx t;have b:=Mh bk hp c;have tr:=fw.tri u r.1 x v hx hv2;have e:Aw ps.length ws p x u=d:=aA
  exact ⟨u,r.1,by rw [e];exact t,λj t2=>by
   have:=t2.step c
   rw [e] at this;exact this⟩
def KW(o:Nat->Int)(i:Nat)(v:Int):Nat->Int:=λj=>if j=i then v else o j
def Jx(ws:List AD)(p:AE)(o:Nat->Int)(k:Nat):Nat->Int:=
 KW (KW o (wA ws k) (min (o (wA ws k)) (o (wB ws k)+p.ways k))) (wB ws k) (min (KW o (wA ws k) (min (o (wA ws k)) (o (wB ws k)+p.ways k)) (wB ws k)) (KW o (wA ws k) (min (o (wA ws k)) (o (wB ws k)+p.ways k)) (wA ws k)+p.ways k))
def WU(ws:List AD)(p:AE)(o:Nat->Int):Nat->Nat->Int
 | 0=>o
 | n+1=>Jx ws p (WU ws p o n) n
def RQ(ws:List AD)(p:AE)(o:Nat->Int):Nat->Nat->Int
 | 0=>o
 | r+1=>WU ws p (RQ ws p o r) ws.length
def NX(np x:Nat):Nat->Int:=λv=>if v=x then 0 else 30*(np:Int)
theorem Vn(o:Nat->Int)(k v:Nat):Jx ws p o k v<=o v:=by
 unfold Jx KW;by_cases h:v=wB ws k
 ·rw [if_pos h];by_cases h2:wB ws k=wA ws k
  ·rw [if_pos h2,if_pos rfl,h,h2];omega
  ·rw [if_neg h2,h];omega
 ·rw [if_neg h];by_cases h2:v=wA ws k
  ·rw [if_pos h2,h2];omega
  ·rw [if_neg h2];exact Int.le_refl _
theorem bfWay_a(o:Nat->Int)(k:Nat):Jx ws p o k (wA ws k)<=o (wB ws k)+p.ways k/\Jx ws p o k (wB ws k)<=o (wA ws k)+p.ways k:=by
 unfold Jx KW;rw [if_pos rfl,if_pos rfl];by_cases h:wA ws k=wB ws k
 ·rw [if_pos h,if_pos h.symm];omega
 ·rw [if_neg h,if_neg (λq=>h q.symm)];omega
theorem XX(o:Nat->Int)(v:Nat):∀n,WU ws p o n v<=o v
 | 0=>Int.le_refl _
 | n+1=>Int.le_trans (Vn _ _ _) (XX o v n)
theorem Vo(o:Nat->Int)(v:Nat):∀d n,WU ws p o (n+d) v<=WU ws p o n v
 | 0,n=>Int.le_refl _
 | d+1,n=>Int.le_trans (Vn _ _ _) (Vo o v d n)
theorem bfR_edge(o:Nat->Int){u:Nat}(h:Mf ws p u v w):WU ws p o ws.length v<=o u+w:=by
 obtain ⟨k,hk,h2,rfl⟩:=h;have m:=Vo (ws:=ws) (p:=p) o v (ws.length-(k+1)) (k+1);rw [show k+1+(ws.length-(k+1))=ws.length by omega] at m;refine Int.le_trans m ?_;have a:=bfWay_a (ws:=ws) (p:=p) (WU ws p o k) k;have l:=XX (ws:=ws) (p:=p) o u k;show Jx ws p (WU ws p o k) k v<=_;rcases h2 with ⟨rfl,rfl⟩ | ⟨rfl,rfl⟩
 ·have:=a.2;omega
 ·have:=a.1;omega
theorem bfN_walk(np:Nat)(h:L5 ws p x k v d):RQ ws p (NX np x) k v<=d:=by
 induction h with
 | nil=>show NX np x x<=0;unfold NX;rw [if_pos rfl];exact Int.le_refl _
 | step _ c ih=>exact Int.le_trans (bfR_edge _ c) aA
theorem Vp(o:Nat->Int)(v:Nat):∀d r,RQ ws p o (r+d) v<=RQ ws p o r v
 | 0,r=>Int.le_refl _
 | d+1,r=>Int.le_trans (XX _ _ _) (Vp o v d r)
theorem bfWay_ge(bk:A7 bag kinds ps ws js ns)(hp:BF p)(hx:x<ps.length){o:Nat->Int}(h:∀v,v<ps.length->Aw ps.length ws p x v<=o v)(hk:k<ws.length):∀v,v<ps.length->Aw ps.length ws p x v<=Jx ws p o k v:=by
 have fw:=Gx (np:=ps.length) hp (IX bk.way);have ed:Mf ws p (wA ws k) (wB ws k) (p.ways k):=⟨k,hk,.inl ⟨rfl,rfl⟩,rfl⟩;have r:=Mg bk ed;have e1:=Mh bk hp ed;have e2:=Mh bk hp ed.symm;have t1:=fw.tri (wB ws k) r.2 x (wA ws k) hx r.1;have t2:=fw.tri (wA ws k) r.1 x (wB ws k) hx r.2;have a:=h _ r.1;have b:=h _ r.2;intro v hv;unfold Jx KW;by_cases c:v=wB ws k
 ·rw [if_pos c,if_pos rfl,c];by_cases c2:wB ws k=wA ws k
  ·have a':Aw ps.length ws p x (wB ws k)<=o (wA ws k):=by rw [c2];exact a
   have w0:=hp.ways k;rw [if_pos c2];omega
  ·rw [if_neg c2];omega
 ·rw [if_neg c];by_cases c2:v=wA ws k
  ·rw [if_pos c2,c2];omega
  ·rw [if_neg c2];exact h v hv
theorem bfN_ge(bk:A7 bag kinds ps ws js ns)(hp:BF p)(hx:x<ps.length):∀r v,v<ps.length->Aw ps.length ws p x v<=RQ ws p (NX ps.length x) r v
 | 0,v,hv=>by
  show _<=NX ps.length x v;unfold NX;by_cases c:v=x
  ·rw [if_pos c,c,(Gx (np:=ps.length) hp (IX bk.way)).s.diag];exact Int.le_refl _
  ·rw [if_neg c];obtain ⟨k,hk,t⟩:=SM bk hp hx hv
   have:=t.le hp
   omega
 | r+1,v,hv=>by
  have ih:=bfN_ge bk hp hx r
  have:∀n,n<=ws.length->∀v,v<ps.length->Aw ps.length ws p x v<=WU ws p (RQ ws p (NX ps.length x) r) n v:=by
   intro n
   induction n with
   | zero=>exact λ_=>ih
   | succ n ihn=>exact λhn=>bfWay_ge bk hp hx (ihn aA) aA
  exact this ws.length (Nat.le_refl _) v hv
theorem bf_far(bk:A7 bag kinds ps ws js ns)(hp:BF p)(hx:x<ps.length)(hv:v<ps.length):RQ ws p (NX ps.length x) ps.length v=Aw ps.length ws p x v:=by
 refine Int.le_antisymm ?_ (bfN_ge bk hp hx _ v hv);obtain ⟨k,hk,t⟩:=SM bk hp hx hv;have m:=Vp (ws:=ws) (p:=p) (NX ps.length x) v (ps.length-k) k;rw [show k+(ps.length-k)=ps.length by omega] at m;exact Int.le_trans m (bfN_walk _ t)
end
end Go.Ns
namespace Go.Ns
def dfs(S:Nat->Int×Int):Nat->Nat->List (List Int)
 | 0,_=>[[]]
 | f+1,i=>(Fe (S i).1 (S i).2).flatMap λn=>(dfs S f (i+1)).map λs=>n ::s
def HX(S:Nat->Int×Int):Nat->List (List Int)
 | 0=>[[]]
 | i+1=>(HX S i).flatMap λx=>(Fe (S i).1 (S i).2).map λn=>x++[n]
section
variable {S:Nat->Int×Int}
theorem Vq:∀f i,dfs S (f+1) i=(dfs S f i).flatMap λx=>(Fe (S (i+f)).1 (S (i+f)).2).map λn=>x++[n]
 | 0,i=>by
  show (Fe (S i).1 (S i).2).flatMap (λn=>[[n]])=[[]].flatMap _;rw [List.flatMap_cons,List.flatMap_nil,List.append_nil,Nat.add_zero,List.map_eq_flatMap];rfl
 | f+1,i=>by
  have ih:=Vq f (i+1);show (Fe (S i).1 (S i).2).flatMap (λn=>(dfs S (f+1) (i+1)).map λs=>n ::s)=((Fe (S i).1 (S i).2).flatMap λn=>(dfs S f (i+1)).map λs=>n ::s).flatMap _;rw [List.flatMap_assoc];congr 1;funext n;rw [ih,List.map_flatMap,List.flatMap_map];congr 1;funext s;rw [List.map_map,show i+1+f=i+(f+1) by omega];rfl
theorem Qg:∀m,HX S m=dfs S m 0
 | 0=>rfl
 | m+1=>by
  rw [Vq,<-Qg m,Nat.zero_add];rfl
end
def Cx(w k:List Int):AE:=⟨λi=>w.getD i 0,λi=>k.getD i 0⟩
def Mi(p:AE)(i:Nat)(s:List Int):AE:={ p with ways:=λk=>if i<=k/\k<i+s.length then s.getD (k-i) 0 else p.ways k }
def Mj(p:AE)(i:Nat)(s:List Int):AE:={ p with works:=λk=>if i<=k/\k<i+s.length then s.getD (k-i) 0 else p.works k }
theorem Vr{f:Nat->Int}{i n:Nat}{v:Int}{s:List Int}:(λk=>if i<=k/\k<i+(v ::s).length then (v ::s).getD (k-i) 0 else f k)=λk=>if i+1<=k/\k<i+1+s.length then s.getD (k-(i+1)) 0 else if k=i then v else f k:=by
 funext k;by_cases h1:k=i
 ·subst h1;rw [if_pos aD,if_neg aA,if_pos rfl,Nat.sub_self];rfl
 ·by_cases h2:i+1<=k/\k<i+1+s.length
  ·rw [if_pos h2,if_pos (by simp only [List.length_cons];omega),show k-i=(k-(i+1))+1 by omega];rfl
  ·rw [if_neg h2,if_neg (by simp only [List.length_cons];omega),if_neg h1]
theorem Qh{p:AE}{nw i:Nat}{v:Int}{s:List Int}(h:i<nw):Mi p i (v ::s)=Mi (p.put nw i v) (i+1) s:=by
 unfold Mi AE.put;rw [if_pos h,Vr (n:=0)];rfl
theorem XY{p:AE}{nw i:Nat}{v:Int}{s:List Int}(h:nw<=i):Mj p (i-nw) (v ::s)=Mj (p.put nw i v) (i+1-nw) s:=by
 unfold Mj AE.put;rw [if_neg aA,Vr (n:=0),show i-nw+1=i+1-nw by omega];rfl
theorem SN(p:AE)(i:Nat):Mi p i []=p:=by
 unfold Mi
 have:(λk=>if i<=k/\k<i+([]:List Int).length then ([]:List Int).getD (k-i) 0 else p.ways k)=p.ways:=funext λk=>if_neg aD
 rw [this]
theorem AAp(p:AE)(i:Nat):Mj p i []=p:=by
 unfold Mj
 have:(λk=>if i<=k/\k<i+([]:List Int).length then ([]:List Int).getD (k-i) 0 else p.works k)=p.works:=funext λk=>if_neg aD
 rw [this]
def LN(ws:List AD)(k:Nat):Int×Int:=((ws.getD k AD.z).low,(ws.getD k AD.z).high)
def Ml(js:List AK)(k:Nat):Int×Int:=((js.getD k AK.z).low,(js.getD k AK.z).high)
section
variable {ws:List AD} {js:List AK} {ns:List AH} {ag:AE->Bool}
theorem SO:∀(f i:Nat)(p:AE),ws.length<=i->CK ag ws js f i p=(dfs (Ml js) f (i-ws.length)).map (Mj p (i-ws.length))
 | 0,i,p,_=>by
  show [p]=[[]].map _;rw [List.map_singleton,AAp]
 | f+1,i,p,h=>by
  rw [EC];have e1:CR ws js i=(Ml js (i-ws.length)).1:=if_neg aA;have e2:GB ws js i=(Ml js (i-ws.length)).2:=if_neg aA;show _=((Fe _ _).flatMap _).map _;rw [e1,e2,List.map_flatMap];congr 1;funext n;unfold CA;rw [if_neg aA,SO f (i+1) _ aA,List.map_map,show i+1-ws.length=i-ws.length+1 by omega];congr 1;funext s;show _=Mj p (i-ws.length) (n ::s);rw [XY h,show i+1-ws.length=i-ws.length+1 by omega]
theorem OU{V β:Type}(q:V->Bool)(F:V->List β):∀l:List V,(l.filter q).flatMap F=l.flatMap λx=>if q x=true then F x else []
 | []=>rfl
 | x ::l=>by
  rw [List.filter_cons,List.flatMap_cons,<-OU q F l];by_cases h:q x=true
  ·rw [if_pos h,if_pos h,List.flatMap_cons]
  ·rw [if_neg h,if_neg h,List.nil_append]
theorem Vs:∀(f i:Nat)(p:AE),i+(f+1)=ws.length->CK ag ws js (f+1+js.length) i p=(dfs (LN ws) (f+1) i).flatMap λs=>if ag (Mi p i s)=true then CK ag ws js js.length ws.length (Mi p i s) else []
 | 0,i,p,h=>by
  rw [show 0+1+js.length=js.length+1 by omega,EC];have e1:CR ws js i=(LN ws i).1:=if_pos aA;have e2:GB ws js i=(LN ws i).2:=if_pos aA;show _=((Fe _ _).flatMap λn=>[[n]]).flatMap _;rw [e1,e2,List.flatMap_assoc];congr 1;funext n;rw [List.flatMap_cons,List.flatMap_nil,List.append_nil,Qh (nw:=ws.length) aA,SN];unfold CA;cases hb:ag (p.put ws.length i n) with
  | false=>rw [if_pos ⟨aA,rfl⟩];rfl
  | true=>rw [if_neg (λq=>by cases q.2),if_pos rfl,show i+1=ws.length by omega]
 | f+1,i,p,h=>by
  rw [show f+1+1+js.length=(f+1+js.length)+1 by omega,EC];have e1:CR ws js i=(LN ws i).1:=if_pos aA;have e2:GB ws js i=(LN ws i).2:=if_pos aA;show _=((Fe _ _).flatMap λn=>(dfs (LN ws) (f+1) (i+1)).map λs=>n ::s).flatMap _;rw [e1,e2,List.flatMap_assoc];congr 1;funext n;unfold CA;rw [if_neg (λq=>aA),Vs f (i+1) _ aA,List.flatMap_map];congr 1;funext s;rw [Qh (nw:=ws.length) aA]
def pastsL(ws:List AD)(js:List AK)(ns:List AH):List (List Int×List Int):=
 ((HX (LN ws) ws.length).filter λw=>CF ns (Cx w [])).flatMap λw=>(HX (Ml js) js.length).map λk=>(w,k)
theorem SP{w:List Int}:Mi AE.zero 0 w=Cx w []:=by
 unfold Mi Cx AE.zero;congr 1
 ·funext k;by_cases h:k<w.length
  ·rw [if_pos aA];rfl
  ·rw [if_neg aA,Bq aA]
theorem AAq{w k:List Int}:Mj (Cx w []) 0 k=Cx w k:=by
 unfold Mj Cx;congr 1;funext i;by_cases h:i<k.length
 ·rw [if_pos aA];rfl
 ·rw [if_neg aA,Bq aA];rfl
theorem Vt:AC ws js ns=(pastsL ws js ns).map λx=>Cx x.1 x.2:=by
 have wk:∀w:List Int,CK (CF ns) ws js js.length ws.length (Cx w [])=(HX (Ml js) js.length).map λk=>Cx w k:=λw=>by
  rw [SO _ _ _ (Nat.le_refl _),Nat.sub_self,Qg];congr 1;funext k;exact AAq
 unfold pastsL;rw [OU,List.map_flatMap];have rhs:∀w:List Int,(if CF ns (Cx w [])=true then (HX (Ml js) js.length).map λk=>(w,k) else []).map (λx=>Cx x.1 x.2)=if CF ns (Cx w [])=true then CK (CF ns) ws js js.length ws.length (Cx w []) else []:=λw=>by
  split
  ·rw [wk,List.map_map];rfl
  ·rfl
 simp only [rhs];unfold AC;rcases Nat.eq_zero_or_pos ws.length with h | h
 ·rw [h,Nat.zero_add];show _=[[]].flatMap _;rw [List.flatMap_cons,List.flatMap_nil,List.append_nil];have z:(Cx [] []:AE)=AE.zero:=by rw [<-SP,SN]
  rw [z];by_cases c:CF ns AE.zero=true
  ·rw [if_pos (.inr c),if_pos c]
  ·rw [if_neg (λq=>q.elim aA c),if_neg c]
 ·rw [if_pos (.inl h)]
  have:=Vs (ag:=CF ns) (ws:=ws) (js:=js) (ws.length-1) 0 AE.zero aA
  rw [show ws.length-1+1=ws.length by omega] at this;rw [this,Qg];congr 1;funext w;rw [SP]
end
end Go.Ns
namespace Go.Ns
def J1(np:Nat)(o:Nat->Int):List Int:=(List.range np).map o
def bfIf(np x i:Nat):Nat->Int:=λv=>if v<i/\v≠x then 30*(np:Int) else 0
def SQ(np x i:Nat):List Int:=J1 np (bfIf np x i)
section
variable {np x i k:Nat} {o:Nat->Int} {v:Int} {ws:List AD} {p:AE}
theorem Kx:(J1 np o).length=np:=by unfold J1;rw [List.length_map,List.length_range]
theorem Zg:(SQ np x i).length=np:=Kx
theorem Mm(h:i<np):(J1 np o).getD i 0=o i:=by
 unfold J1;rw [DU 0 (by rw [List.length_map,List.length_range];exact h),List.getElem_map,List.getElem_range]
theorem XZ{j:Nat}(h:j<(J1 np o).length):(J1 np o)[j]=o j:=by
 simp only [J1,List.getElem_map,List.getElem_range]
theorem UG(h:i<np):(J1 np o).set i v=J1 np (KW o i v):=by
 apply List.ext_getElem
 ·rw [List.length_set,Kx,Kx]
 ·intro j h1 h2;rw [List.getElem_set,XZ,XZ];unfold KW;by_cases c:i=j
  ·rw [if_pos c,if_pos c.symm]
  ·rw [if_neg c,if_neg (λq=>c q.symm)]
theorem bfI_0:SQ np x 0=List.replicate np 0:=by
 apply List.ext_getElem
 ·rw [Zg,List.length_replicate]
 ·intro j h1 h2;rw [List.getElem_replicate];exact (XZ h1).trans (if_neg aA)
theorem bfI_put(hi:i<np)(h:i≠x):(SQ np x i).set i (30*(np:Int))=SQ np x (i+1):=by
 unfold SQ;rw [UG hi];congr 1;funext j;unfold KW bfIf;by_cases c:j=i
 ·rw [if_pos c,if_pos ⟨aA,aA⟩]
 ·rw [if_neg c];by_cases d:j<i/\j≠x
  ·rw [if_pos d,if_pos ⟨aA,d.2⟩]
  ·rw [if_neg d,if_neg (λq=>d ⟨aA,q.2⟩)]
theorem bfI_skip(h:i=x):SQ np x i=SQ np x (i+1):=by
 unfold SQ;congr 1;funext v;unfold bfIf;by_cases d:v<i/\v≠x
 ·rw [if_pos d,if_pos ⟨aA,d.2⟩]
 ·rw [if_neg d,if_neg (λq=>d ⟨aA,q.2⟩)]
theorem bfI_end(h:np<=i):SQ np x i=J1 np (NX np x):=by
 unfold SQ J1;apply List.map_congr_left;intro v hv
 have:=List.mem_range.1 hv
 unfold NX bfIf;by_cases c:v=x
 ·rw [if_neg (λq=>q.2 c),if_pos c]
 ·rw [if_pos ⟨aA,c⟩,if_neg c]
def Xa(np:Nat)(o:Nat->Int):Prop:=∀i,i<np->0<=o i/\o i<=30*(np:Int)
theorem bfZ_ok(x:Nat):Xa np (NX np x):=λi _=>by unfold NX;split <;> omega
theorem bfWay_ok(h:Xa np o)(ha:wA ws k<np)(hb:wB ws k<np)(hp:BF p):Xa np (Jx ws p o k):=λi hi=>by
 have w:=hp.ways k;have a:=h _ ha;have b:=h _ hb;have c:=h i hi;unfold Jx KW;by_cases e:i=wB ws k
 ·rw [if_pos e,if_pos rfl];by_cases e2:wB ws k=wA ws k
  ·rw [if_pos e2];omega
  ·rw [if_neg e2];omega
 ·rw [if_neg e];by_cases e2:i=wA ws k
  ·rw [if_pos e2];omega
  ·rw [if_neg e2];exact c
theorem Xb(h:Xa np o)(hw:∀k,k<ws.length->wA ws k<np/\wB ws k<np)(hp:BF p):∀n,n<=ws.length->Xa np (WU ws p o n)
 | 0,_=>h
 | n+1,hn=>bfWay_ok (Xb h hw hp n aA) (hw n aA).1 (hw n aA).2 hp
theorem bfN_ok(x:Nat)(hw:∀k,k<ws.length->wA ws k<np/\wB ws k<np)(hp:BF p):∀r,Xa np (RQ ws p (NX np x) r)
 | 0=>bfZ_ok x
 | r+1=>Xb (bfN_ok x hw hp r) hw hp _ (Nat.le_refl _)
theorem bfL_rng(h:Xa np o)(i:Nat):0<=(J1 np o).getD i 0/\(J1 np o).getD i 0<=30*(np:Int):=by
 by_cases c:i<np
 ·rw [Mm c];exact h i c
 ·rw [Bq (by rw [Kx];omega)];omega
theorem bfL_way(ha:wA ws k<np)(hb:wB ws k<np):((J1 np o).set (wA ws k) (min ((J1 np o).getD (wA ws k) 0) ((J1 np o).getD (wB ws k) 0+p.ways k))).set (wB ws k) (min (((J1 np o).set (wA ws k) (min ((J1 np o).getD (wA ws k) 0) ((J1 np o).getD (wB ws k) 0+p.ways k))).getD (wB ws k) 0) (((J1 np o).set (wA ws k) (min ((J1 np o).getD (wA ws k) 0) ((J1 np o).getD (wB ws k) 0+p.ways k))).getD (wA ws k) 0+p.ways k))=J1 np (Jx ws p o k):=by
 rw [Mm ha,Mm hb,UG ha,Mm hb,Mm ha,UG hb];rfl
theorem set_rng{l:List Int}{A:Nat}{b:Int}(h:∀i,0<=l.getD i 0/\l.getD i 0<=b)(hv:0<=v/\v<=b)(i:Nat):0<=(l.set A v).getD i 0/\(l.set A v).getD i 0<=b:=by
 rw [List.getD_eq_getElem?_getD,List.getElem?_set];by_cases c:A=i
 ·subst c;by_cases d:A<l.length
  ·rw [if_pos rfl,if_pos d];exact hv
  ·rw [if_pos rfl,if_neg d];have:=h A;show 0<=(0:Int)/\(0:Int)<=b;omega
 ·rw [if_neg c,<-List.getD_eq_getElem?_getD];exact h i
end
def ET(np:Nat)(ws:List AD)(p:AE)(x:Nat):List Int:=(List.range np).map (Aw np ws p x)
section
variable {bag kinds:Int} {ps:List ByteArray} {ws:List AD} {js:List AK} {ns:List AH} {p:AE} {x i:Nat}
theorem way_ab(bk:A7 bag kinds ps ws js ns)(k:Nat)(hk:k<ws.length):wA ws k<ps.length/\wB ws k<ps.length:=by
 have o:=HD bk.way k hk;have h3:=o.a;have h4:=o.b;unfold wA wB;omega
theorem AAr(bk:A7 bag kinds ps ws js ns)(hp:BF p)(hx:x<ps.length){r:Nat}(hr:r=ps.length):ET ps.length ws p x=J1 ps.length (RQ ws p (NX ps.length x) r):=by
 subst hr;unfold ET J1;apply List.map_congr_left;intro v hv;exact (bf_far bk hp hx (List.mem_range.1 hv)).symm
theorem SR:(ET ps.length ws p x).length=ps.length:=by unfold ET;rw [List.length_map,List.length_range]
theorem NY(h:i<ps.length):(ET ps.length ws p x).getD i 0=Aw ps.length ws p x i:=by
 unfold ET;rw [DU 0 (by rw [List.length_map,List.length_range];exact h),List.getElem_map,List.getElem_range]
end
theorem note_way{nw k q:Nat}{ns:List AH}(h:DH nw ns k=0)(hq:q<(ns.getD k AH.z).ways.length):0<=(ns.getD k AH.z).ways.getD q 0/\(ns.getD k AH.z).ways.getD q 0<=(nw:Int)-1:=by
 unfold DH at h;split at h
 ·cases h
 ·split at h
  ·cases h
  ·rename_i h6
   have h7:¬∃x ∈ (ns.getD k AH.z).ways,¬(0<=x/\x<=(nw:Int)-1):=by simpa [List.any_eq_true] using h6
   exact Classical.byContradiction λz=>h7 ⟨_,Be hq,z⟩
section
variable {F:AE->Int} {pq:List AE} {hl:List (List Int×List Int)}
end
end Go.Ns
namespace Go.Ns
open Go.Conc
section
variable {S:Nat->Int×Int}
theorem Qi:∀(m:Nat)(s:List Int),s ∈ HX S m->s.length=m/\∀k,k<m->(S k).1<=s.getD k 0/\s.getD k 0<=(S k).2
 | 0,s,h=>by rw [List.mem_singleton.1 h];exact ⟨rfl,λk hk=>absurd hk (Nat.not_lt_zero _)⟩
 | m+1,s,h=>by
  obtain ⟨x,hx,h⟩:=List.mem_flatMap.1 h;obtain ⟨n,hn,rfl⟩:=List.mem_map.1 h;obtain ⟨e,r⟩:=Qi m x hx;have hn:=LY.1 hn;refine ⟨by rw [List.length_append,e];rfl,λk hk=>?_⟩;rw [I4];by_cases c:k<m
  ·rw [if_pos aA];exact r k c
  ·have:k=m:=aA
   subst this;rw [if_neg aA,e,Nat.sub_self];show (S k).1<=n/\n<=(S k).2;omega
end
section
variable {bag kinds:Int} {ps:List ByteArray} {ws:List AD} {js:List AK} {ns:List AH} {k:Nat}
section
variable {W K:List (List Int)} {i j:Nat}
end
theorem num_ok(bk:A7 bag kinds ps ws js ns){s:List Int}(hs:s ∈ HX (LN ws) ws.length)(k:Nat):0<=s.getD k 0/\s.getD k 0<=30:=by
 obtain ⟨e,r⟩:=Qi _ s hs;by_cases h:k<ws.length
 ·have:=(HD bk.way k h).time
  have q:=r k h;unfold LN at q;omega
 ·rw [Bq aA];decide
theorem numJ_ok(bk:A7 bag kinds ps ws js ns){s:List Int}(hs:s ∈ HX (Ml js) js.length)(k:Nat):0<=s.getD k 0/\s.getD k 0<=30:=by
 obtain ⟨e,r⟩:=Qi _ s hs;by_cases h:k<js.length
 ·have:=(I3 (bk.job k h)).time
  have q:=r k h;unfold Ml at q;omega
 ·rw [Bq aA];decide
end
section
variable {bag kinds:Int} {ps:List ByteArray} {ws:List AD} {js:List AK} {ns:List AH} {l:List Int} {p:AE}
theorem AAs(hp:BF p)(x i:Nat):0<=(ET ps.length ws p x).getD i 0/\(ET ps.length ws p x).getD i 0<=1048576:=by
 by_cases h:i<ps.length
 ·rw [NY h];exact NK hp x i
 ·rw [Bq (by rw [SR];omega)];decide
theorem pk_at{pw pk:List Int}(i:Nat):(Cx pw pk).works i=pk.getD i 0:=rfl
theorem Qj{q:Nat}{j pl w:Int}(hj:j=l.getD q 0)(hpl:pl=(js.getD j.toNat AK.z).place)(hw:p.works j.toNat=w)(hr:pl.toNat<ps.length):BY ps.length ws js p l q+(ET ps.length ws p (Dq js l q).toNat).getD pl.toNat 0+w=BY ps.length ws js p l (q+1):=by
 subst hpl;subst hw;subst hj;rw [NY hr,Int.add_assoc];rfl
end
section
variable {G:AE->Int} {pq:List AE} {due:Int}
end
section
variable {bag kinds:Int} {ps:List ByteArray} {ws:List AD} {js:List AK} {ns:List AH} {l:List Int}
theorem hist_isR(hz:BS bag kinds ps ws js ns=0):Lc bag kinds ps ws js ns=((AC ws js ns).length:Int):=if_pos hz
theorem lateB0{i:Int}(hr:IY js.length l)(hi:0<=i/\i<=(l.length:Int)-1):EM js.length l i=0:=by
 unfold EM;rw [if_neg (λq=>q hr.bell),if_neg (λq=>q hi)]
theorem Qk(h0:Ae bag kinds ps ws js ns 0=0)(hr:IY js.length l):Eg bag kinds ps ws js ns l=HV ps.length ws js (AC ws js ns) l l.length:=by
 unfold Eg;rw [hr.bell,if_neg (λq=>q h0)]
theorem Xc(h0:Ae bag kinds ps ws js ns 0=0)(hr:IY js.length l):(Eg bag kinds ps ws js ns l).length=l.length:=by
 rw [Qk h0 hr,JU]
theorem AAt(h0:Ae bag kinds ps ws js ns 0=0)(hr:IY js.length l){k:Nat}(hk:k<l.length):(Eg bag kinds ps ws js ns l).getD k (0,0)=(Cq (λx=>BY ps.length ws js x l (k+1)) (AC ws js ns),Bu (λx=>BY ps.length ws js x l (k+1)) (AC ws js ns)):=by
 rw [Qk h0 hr,Qc _ _ _ _ hk];rfl
end
section
variable {G:AE->Int} {pq:List AE} {due v:Int} {i:Nat}
end
end Go.Ns
namespace Go.Ns
open Go.Conc
def Zh(p:AE)(x:AH):AH:=⟨x.wv,x.ways,min (Cn p x.ways) x.low,max (Cn p x.ways) x.high⟩
def Dy(p:AE)(ns:List AH):List AH:=ns.map (Zh p)
section
variable {bag kinds:Int} {ps:List ByteArray} {ws:List AD} {js:List AK} {ns:List AH} {p:AE} {k:Nat} {h:GH}
theorem Je:(Dy p ns).length=ns.length:=List.length_map _
theorem Vu(hk:k<ns.length):Dy p (ns.take (k+1))=Dy p (ns.take k)++[Zh p (ns.getD k AH.z)]:=by
 unfold Dy;rw [Dj AH.z hk,List.map_append];rfl
theorem Ql(hk:k<ns.length):(Dy p ns).getD k AH.z=Zh p (ns.getD k AH.z):=by
 unfold Dy;rw [DU AH.z (by simpa using hk),List.getElem_map,DU AH.z hk]
theorem Ap.truly(x:Ap h ns)(p:AE):Ap h (Dy p ns):=λq=>by
 by_cases hq:q<ns.length
 ·rw [Ql hq];exact x _
 ·rw [Bq (by rw [Je];omega)];exact Ap.nil h 0
theorem OV(hp:BF p):∀l:List Int,0<=Cn p l/\Cn p l<=30*(l.length:Int)
 | []=>⟨Int.le_refl 0,Int.le_refl 0⟩
 | x ::l=>by
  have a:=OV hp l;have b:=hp.ways x.toNat;have e:Cn p (x ::l)=p.ways x.toNat+Cn p l:=rfl;rw [e,List.length_cons];omega
theorem Qm(h:DH ws.length ns k=0):(ns.getD k AH.z).ways.length<=5/\IU (ns.getD k AH.z).low (ns.getD k AH.z).high 200 201:=by
 unfold DH at h;split at h
 ·cases h
 ·split at h
  ·cases h
  ·split at h
   ·cases h
   ·rename_i a _ c;exact ⟨aA,Decidable.not_not.1 c⟩
theorem Xd(hp:BF p)(hk:k<ns.length)(h:DH ws.length ns k=0):DH ws.length (Dy p ns) k=0:=by
 obtain ⟨hl,hs⟩:=Qm h;have r:=OV hp (ns.getD k AH.z).ways;unfold DH at h ⊢;rw [Ql hk];show (if (5:Int)<(ns.getD k AH.z).ways.length then (2:Int) else if (ns.getD k AH.z).ways.any _ then 6 else if¬IU (min (Cn p (ns.getD k AH.z).ways) (ns.getD k AH.z).low) (max (Cn p (ns.getD k AH.z).ways) (ns.getD k AH.z).high) 200 201 then 1 else 0)=0;rw [if_neg aA] at h ⊢;split at h
 ·cases h
 ·rename_i c
  rw [if_neg c,if_neg (λq=>q (by unfold IU at hs ⊢;omega))]
theorem A7.truly(b:A7 bag kinds ps ws js ns)(hp:BF p):A7 bag kinds ps ws js (Dy p ns):=
 { hbag:=b.hbag,hkin:=b.hkin,plen:=b.plen,place:=b.place,wlen:=b.wlen,way:=b.way,led:=b.led,jlen:=b.jlen,job:=b.job,nlen:=(by rw [Je];exact b.nlen),note:=λk hk=>(by rw [Je] at hk;exact Xd hp hk (b.note k hk)) }
theorem bell_ofR(b:A7 bag kinds ps ws js ns):BS bag kinds ps ws js ns=0:=by
 refine Bi (k:=5) (λj hj=>?_) (Nat.le_refl _)
 match j with
 | 0=>exact if_neg (by have:=b.hbag;have:=b.hkin;omega)
 | 1=>exact (if_neg (by have:=b.plen;omega)).trans (Bi b.place (Nat.le_refl _))
 | 2=>exact (MP (by have:=b.wlen;omega) b.way (Nat.le_refl _)).trans b.led
 | 3=>exact (if_neg (by have:=b.jlen;omega)).trans (Bi b.job (Nat.le_refl _))
 | 4=>exact (if_neg (by have:=b.nlen;omega)).trans (Bi b.note (Nat.le_refl _))
 | j+5=>omega
theorem Xe(hz:BS bag kinds ps ws js ns=0)(hp:BF p):BS bag kinds ps ws js (Dy p ns)=0:=bell_ofR ((Cg hz).truly hp)
theorem Vv:CF (Dy p ns) p=true:=by
 unfold CF Dy;rw [List.all_eq_true];intro x hx;obtain ⟨y,_,rfl⟩:=List.mem_map.1 hx;refine decide_eq_true ?_;show min (Cn p y.ways) y.low<=Cn p y.ways/\Cn p y.ways<=max (Cn p y.ways) y.high;omega
end
def Hd(l:List Int)(i:Int):Int:=if 0<=i/\i<(l.length:Int) then l.getD i.toNat 0 else 0
def Oq(lo hi n:Int):Int:=lo+n%(hi-lo+1)
theorem SS{l:List Int}(h:∀i,0<=l.getD i 0/\l.getD i 0<=65535)(i:Int):0<=Hd l i/\Hd l i<=65535:=by
 unfold Hd;split
 ·exact h _
 ·decide
theorem Vw{lo hi:Int}(h:lo<=hi)(n:Int):lo<=Oq lo hi n/\Oq lo hi n<=hi:=by
 unfold Oq;have a:=Int.emod_nonneg n (show hi-lo+1≠0 by omega);have b:=Int.emod_lt_of_pos n (show 0<hi-lo+1 by omega);omega
def GC(ws:List AD)(pk:List Int):Nat->List Int
 | 0=>[]
 | k+1=>GC ws pk k++[Oq (ws.getD k AD.z).low (ws.getD k AD.z).high (Hd pk (k:Int))]
def GV(js:List AK)(pk:List Int):Nat->List Int
 | 0=>[]
 | k+1=>GV js pk k++[Oq (js.getD k AK.z).low (js.getD k AK.z).high (Hd pk (5+(k:Int)))]
theorem I7(ws:List AD)(pk:List Int):∀k,(GC ws pk k).length=k
 | 0=>rfl
 | k+1=>by rw [GC,List.length_append,I7 ws pk k];rfl
theorem I8(js:List AK)(pk:List Int):∀k,(GV js pk k).length=k
 | 0=>rfl
 | k+1=>by rw [GV,List.length_append,I8 js pk k];rfl
section
variable {bag kinds:Int} {ps:List ByteArray} {ws:List AD} {js:List AK} {ns:List AH} {pk:List Int}
theorem Vx:∀k i,i<k->(∀i,i<k->(ws.getD i AD.z).low<=(ws.getD i AD.z).high)->(ws.getD i AD.z).low<=(GC ws pk k).getD i 0/\(GC ws pk k).getD i 0<=(ws.getD i AD.z).high
 | 0,i,h,_=>absurd h (Nat.not_lt_zero _)
 | k+1,i,h,e=>by
  rw [GC,I4,I7];by_cases c:i<k
  ·rw [if_pos c];exact Vx k i c λj hj=>e j aA
  ·have:i=k:=aA
   subst this;rw [if_neg aA,Nat.sub_self];exact Vw (e i h) _
theorem Vy:∀k i,i<k->(∀i,i<k->(js.getD i AK.z).low<=(js.getD i AK.z).high)->(js.getD i AK.z).low<=(GV js pk k).getD i 0/\(GV js pk k).getD i 0<=(js.getD i AK.z).high
 | 0,i,h,_=>absurd h (Nat.not_lt_zero _)
 | k+1,i,h,e=>by
  rw [GV,I4,I8];by_cases c:i<k
  ·rw [if_pos c];exact Vy k i c λj hj=>e j aA
  ·have:i=k:=aA
   subst this;rw [if_neg aA,Nat.sub_self];exact Vw (e i h) _
theorem UH{S:Nat->Int×Int}:∀(m:Nat)(s:List Int),s.length=m->(∀k,k<m->(S k).1<=s.getD k 0/\s.getD k 0<=(S k).2)->s ∈ HX S m
 | 0,s,h,_=>by rw [List.length_eq_zero_iff.1 h];exact List.mem_singleton.2 rfl
 | m+1,s,h,r=>by
  have e:s=s.take m++[s.getD m 0]:=by rw [<-Dj 0 aA,List.take_of_length_le aA]
  refine List.mem_flatMap.2 ⟨s.take m,UH m _ (by rw [List.length_take];omega) λk hk=>?_,List.mem_map.2 ⟨s.getD m 0,LY.2 ?_,e.symm⟩⟩
  ·have:=r k aA
   rw [List.getD_eq_getElem?_getD,List.getElem?_take_of_lt hk,<-List.getD_eq_getElem?_getD];exact this
  ·have:=r m aA;omega
theorem real_ok(bk:A7 bag kinds ps ws js ns):BF (Cx (GC ws pk ws.length) (GV js pk js.length))/\Cx (GC ws pk ws.length) (GV js pk js.length) ∈ AC ws js (Dy (Cx (GC ws pk ws.length) (GV js pk js.length)) ns):=by
 have hw:GC ws pk ws.length ∈ HX (LN ws) ws.length:=UH _ _ (I7 _ _ _) λk hk=>Vx _ _ hk λi hi=>(HD bk.way i hi).time.2.1;have hk:GV js pk js.length ∈ HX (Ml js) js.length:=UH _ _ (I8 _ _ _) λk hk=>Vy _ _ hk λi hi=>(I3 (bk.job i hi)).time.2.1;refine ⟨⟨num_ok bk hw,numJ_ok bk hk⟩,?_⟩;rw [Vt];exact List.mem_map.2 ⟨(_,_),List.mem_flatMap.2 ⟨_,List.mem_filter.2 ⟨hw,Vv (p:=Cx (GC ws pk ws.length) (GV js pk js.length))⟩,List.mem_map.2 ⟨_,hk,rfl⟩⟩,rfl⟩
end
theorem ST{x:Int}:∀(l acc:List Int),x ∈ acc\/x ∈ l->x ∈ l.foldl J8 acc
 | [],acc,h=>h.elim id λq=>by cases q
 | y ::l,acc,h=>by
  refine ST l (J8 acc y) ?_;rcases h with h | h
  ·exact .inl (by unfold J8;split <;> simp_all)
  ·rcases List.mem_cons.1 h with rfl | h
   ·exact .inl (List.mem_of_getLast? (Pn acc x))
   ·exact .inr h
theorem OW{i:Nat}{pq:List AE}:∀k j,j<k->(pq.getD j AE.zero).works i ∈ Fv i pq k
 | 0,j,h=>absurd h (Nat.not_lt_zero _)
 | k+1,j,h=>by
  unfold Fv;by_cases c:j<k
  ·exact List.mem_append_left _ (OW k j c)
  ·have:j=k:=aA
   subst this;exact List.mem_append_right _ (List.mem_singleton.2 rfl)
section
variable {bag kinds:Int} {ps:List ByteArray} {ws:List AD} {js:List AK} {ns:List AH} {l:List Int} {p:AE}
theorem AAu(hz:BS bag kinds ps ws js ns=0)(hp:p ∈ AC ws js ns):Ae bag kinds ps ws js ns 0=0/\0<(AC ws js ns).length:=by
 have:0<(AC ws js ns).length:=List.length_pos_iff.2 λe=>by rw [e] at hp;cases hp
 exact ⟨(openB_09 hz).elim (λq=>q.1) (λq=>absurd q.2 aA),this⟩
theorem Xf(h0:Ae bag kinds ps ws js ns 0=0)(hp:p ∈ AC ws js ns){i:Int}(hi:Ds js.length i=0):p.works i.toNat ∈ F1 bag kinds ps ws js ns i:=by
 unfold F1;rw [hi,if_neg (λq=>q h0)];obtain ⟨j,hj,e⟩:=List.mem_iff_getElem.1 hp;refine ST _ _ (.inr ?_);rw [J9,List.mem_mergeSort]
 have:=OW (i:=i.toNat) (pq:=AC ws js ns) (AC ws js ns).length j hj
 rw [DU AE.zero hj,e] at this;exact this
theorem real_end(h0:Ae bag kinds ps ws js ns 0=0)(hr:IY js.length l)(hp:p ∈ AC ws js ns){k:Nat}(hk:k<l.length):((Eg bag kinds ps ws js ns l).getD k (0,0)).1<=(Bf ps.length ws js p l l.length).getD k 0/\(Bf ps.length ws js p l l.length).getD k 0<=((Eg bag kinds ps ws js ns l).getD k (0,0)).2:=by
 rw [AAt h0 hr hk,IF _ _ _ _ _ _ _ hk];exact ⟨UE (F:=λx=>BY ps.length ws js x l (k+1)) hp,O8 (F:=λx=>BY ps.length ws js x l (k+1)) hp⟩
theorem SU(h0:Ae bag kinds ps ws js ns 0=0)(hp:p ∈ AC ws js ns)(l:List Int):Fu (Ae bag kinds ps ws js ns 0) (Cq (λx=>AW ps.length ws js x l) (AC ws js ns))<=AW ps.length ws js p l/\AW ps.length ws js p l<=Fu (Ae bag kinds ps ws js ns 0) (Bu (λx=>AW ps.length ws js x l) (AC ws js ns)):=by
 rw [h0,LM,LM];exact ⟨UE (F:=λx=>AW ps.length ws js x l) hp,O8 (F:=λx=>AW ps.length ws js x l) hp⟩
theorem real_due(hs:B4 ps.length ws js (AC ws js ns) l bag kinds=true)(hp:p ∈ AC ws js ns){k:Nat}(hk:k<l.length):(Bf ps.length ws js p l l.length).getD k 0<=(js.getD (l.getD k 0).toNat AK.z).due:=by
 unfold B4 at hs;rw [Bool.and_eq_true] at hs
 have:=of_decide_eq_true (List.all_eq_true.1 hs.2 k (List.mem_range.2 hk))
 rw [IF _ _ _ _ _ _ _ hk];exact Int.le_trans (O8 (F:=λx=>BY ps.length ws js x l (k+1)) hp) this
theorem AAv(hs:B4 ps.length ws js (AC ws js ns) l bag kinds=true):(B2 kinds js l).sum<=bag:=by
 unfold B4 at hs;rw [Bool.and_eq_true] at hs;exact of_decide_eq_true hs.1
theorem AAw(h0:Ae bag kinds ps ws js ns 0=0)(hr:IY js.length l)(hp:p ∈ AC ws js ns){i:Int}(hi:0<=i/\i<(l.length:Int)):(Dw bag kinds ps ws js ns l i=1->(js.getD (l.getD i.toNat 0).toNat AK.z).due<(Bf ps.length ws js p l l.length).getD i.toNat 0)/\(Dw bag kinds ps ws js ns l i=2->¬(js.getD (l.getD i.toNat 0).toNat AK.z).due<(Bf ps.length ws js p l l.length).getD i.toNat 0):=by
 rw [IF _ _ _ _ _ _ _ aA];have a:=UE (F:=λx=>BY ps.length ws js x l (i.toNat+1)) hp;have b:=O8 (F:=λx=>BY ps.length ws js x l (i.toNat+1)) hp;unfold Dw;rw [lateB0 hr (i:=i) aA,if_neg (λq=>q h0)];unfold ZV VD;split
 ·exact ⟨λ_=>aA,λq=>absurd q aC⟩
 ·split
  ·exact ⟨λq=>absurd q aC,λ_=>aA⟩
  ·exact ⟨λq=>absurd q aC,λq=>absurd q aC⟩
theorem fits_ok{L:Int}{D:Prop}[Decidable D](h:(L=1->D)/\(L=2->¬D)):(¬L=1\/decide D=true)/\(¬L=2\/¬decide D=true):=
 ⟨Classical.or_iff_not_imp_left.2 λq=>decide_eq_true (h.1 (Decidable.not_not.1 q)),Classical.or_iff_not_imp_left.2 λq e=>h.2 (Decidable.not_not.1 q) (of_decide_eq_true e)⟩
theorem AAx(hp:p ∈ AC ws js ns):(D5 bag kinds ps ws js ns).length=0:=by
 have:(0:Int)<(AC ws js ns).length:=by
  have:0<(AC ws js ns).length:=List.length_pos_iff.2 λe=>by rw [e] at hp;cases hp
  omega
 unfold D5;rw [if_pos this];split <;> rfl
end
end Go.Ns
namespace Go.Ns
open Go.Conc
universe u
theorem Z{V:Sort u}{a:V}:a=a:=rfl
theorem Lr{h:GH}:GH.Le h h:=GH.Le.refl h
theorem Ln{h h':GH}(l:h.Le h'){r:Nat}(hr:h' r=none):h r=none:=l.nothing hr
theorem Cc{h:GH}{b r:Nat}{p:Bool}{o:Obj}(hb:h b=some (p,o))(hr:h r=none):b≠r:=GH.ne_of hb hr
theorem Nb{a b:Nat}(h:Nat.ble a b=true):a<=b:=Nat.le_of_ble_eq_true h
theorem Dn{p:Prop}[Decidable p](h:¬¬p):p:=Decidable.not_not.1 h
theorem Et{V:Sort u}{a b c:V}(x:a=b)(y:b=c):a=c:=x.trans y
theorem Kl{h0 h:GH}(k:KeepD (λb=>h0 b=none) h0 h):h0.Le h:=k.leOf
theorem Bx{h:GH}{b:Nat}{p:Bool}{c:Array Value}{t:TypeId}{f:Nat×Nat}(hb:h b=some (p,.cells c t f)){n:Nat}(hn:c.size=n):AX h b 0 n c:=AX.box hb hn
abbrev lE(v:Value):Law2:=λ_ u _=>u=v
abbrev lF(v:Value):Rj:=λu _=>u=v
abbrev zP:Array Value:=#[.int .i64 0,.int .i64 0,.slice none 0 0,.slice none 0 0,.slice none 0 0,.slice none 0 0,.map none]
section
variable {P:Program} {E:Gh P} {O:Nat->Value} {ds:List Deferred} {h:GH} {Q:Post} {T:(Nat->Value)->List Deferred->GH->Prop}
variable {dst:Option Nat} {ty:TypeId} {pos:String} {af:Array Edge} {ops:Array Oper} {o:Oper} {l:List Oper}
theorem Sq{x y:Code}(a:Tr E x O ds h (λe σ' ds' h'=>match e with | .normal=>Tr E y σ' ds' h' Q | e=>Q e σ' ds' h')):Tr E (.seq x y) O ds h Q:=tr_seq a
theorem Rg{id:Nat}{l:List Oper}(a:DM E l.toArray l O ds h Q):Tr E (.region id l.toArray false) O ds h Q:=Zt a
theorem Nl(q:Q .normal O ds h):DM E ops [] O ds h Q:=trL_nil q
abbrev Rt:=@tr_ret
abbrev Bk:=@tr_block
abbrev Sk:=@tr_skip
abbrev Xt:=@tr_exit
def plainB(N:Nat)(o:Oper):Bool:=o.guard.isNone && !C5 o.op && C2 o.dst N
theorem Pl(hp:plainB E.N o=true)(x:BW E o O ds h λσ' ds' h'=>DM E ops l σ' ds' h' Q):DM E ops (o ::l) O ds h Q:=by
 simp only [plainB,Bool.and_eq_true,Option.isNone_iff_eq_none,Bool.not_eq_true'] at hp;exact Gj hp.1.1 hp.1.2 hp.2 x
theorem Mv{x:Operand}(v:Value)(hp:C2 dst E.N=true)(hx:AR O x=v)(k:DM E ops l (putS O dst v) ds h Q):DM E ops (⟨dst,.move x,ty,pos,af,none⟩ ::l) O ds h Q:=Gj rfl rfl hp (TU hx k)
theorem As{x:Operand}(v:Value)(hp:C2 dst E.N=true)(hx:AR O x=v)(k:DM E ops l (putS O dst v) ds h Q):DM E ops (⟨dst,.assign x,ty,pos,af,none⟩ ::l) O ds h Q:=Gj rfl rfl hp (Hx hx k)
theorem Ld{t:TypeId}{x:Operand}{b off:Nat}(v:Value)(hp:C2 dst E.N=true)(hx:AR O x=.pointer (some ⟨b,off,none⟩))(hr:Rd P h t b off v)(k:DM E ops l (putS O dst v) ds h Q):DM E ops (⟨dst,.load t x,ty,pos,af,none⟩ ::l) O ds h Q:=
 Gj rfl rfl hp (CW hx hr k)
theorem Fa{s:TypeId}{x:Operand}{f o b off:Nat}(hf:Dl P s f=some o)(hp:C2 dst E.N=true)(hx:AR O x=.pointer (some ⟨b,off,none⟩))(k:DM E ops l (putS O dst (.pointer (some ⟨b,off+o,none⟩))) ds h Q) :
  DM E ops (⟨dst,.fieldAddr s x f,ty,pos,af,none⟩ ::l) O ds h Q:=Gj rfl rfl hp (AF hf hx k)
theorem Pk{c a b:Operand}(t:Bool)(v:Value)(hp:C2 dst E.N=true)(hc:AR O c=.bool t)(hv:(if t then AR O a else AR O b)=v)(k:DM E ops l (putS O dst v) ds h Q):DM E ops (⟨dst,.pick c a b,ty,pos,af,none⟩ ::l) O ds h Q:=
 Gj rfl rfl hp (At hc hv k)
theorem Ad{xt yt:TypeId}{x y:Operand}(a b:Int)(hp:C2 dst E.N=true)(hx:AR O x=.int .i64 a)(hy:AR O y=.int .i64 b)(hr: -9223372036854775808<=a+b/\a+b<=9223372036854775807)(k:DM E ops l (putS O dst (.int .i64 (a+b))) ds h Q) :
  DM E ops (⟨dst,.binOp .add xt x y yt,ty,pos,af,none⟩ ::l) O ds h Q:=Gj rfl rfl hp (Cu hx hy hr k)
def skipB(N:Nat)(ops:Array Oper)(o:Oper)(j d:Nat)(is:Bool):Bool:=(match o.guard with
 | some (i,w)=>i==j && w !=is
 | none=>false) && (match ops[j]? with
 | some oj=>(match oj.dst with
  | some e=>e==d
  | none=>false)
 | none=>false) && Nat.blt d N && C2 o.dst N
theorem Gs(j d:Nat){is:Bool}(hv:O d=.bool is)(hs:skipB E.N ops o j d is=true)(x:DM E ops l (putS O o.dst undef) ds h Q):DM E ops (o ::l) O ds h Q:=by
 simp only [skipB,Bool.and_eq_true] at hs;obtain ⟨⟨⟨h1,h2⟩,h3⟩,h4⟩:=hs;cases hg:o.guard with
 | none=>rw [hg] at h1;cases h1
 | some q=>
  obtain ⟨i,w⟩:=q;rw [hg] at h1;simp only [Bool.and_eq_true,beq_iff_eq,bne_iff_ne,ne_eq] at h1;obtain ⟨rfl,hne⟩:=h1;cases hj:ops[i]? with
  | none=>rw [hj] at h2;cases h2
  | some oj=>
   cases hd:oj.dst with
   | none=>simp [hj,hd] at h2
   | some e=>
    obtain rfl:e=d:=by simpa [hj,hd] using h2
    exact PD hg hj hd hv h3 hne h4 x
def goB(N:Nat)(ops:Array Oper)(o:Oper)(j d:Nat)(is:Bool):Bool:=(match o.guard with
 | some (i,w)=>i==j && w==is
 | none=>false) && (match ops[j]? with
 | some oj=>(match oj.dst with
  | some e=>e==d
  | none=>false)
 | none=>false) && Nat.blt d N && !C5 o.op && C2 o.dst N
theorem Gg(j d:Nat){is:Bool}(hv:O d=.bool is)(hs:goB E.N ops o j d is=true)(x:BW E o O ds h λσ' ds' h'=>DM E ops l σ' ds' h' Q):DM E ops (o ::l) O ds h Q:=by
 simp only [goB,Bool.and_eq_true,Bool.not_eq_true'] at hs;obtain ⟨⟨⟨⟨h1,h2⟩,h3⟩,h5⟩,h4⟩:=hs;cases hg:o.guard with
 | none=>rw [hg] at h1;cases h1
 | some q=>
  obtain ⟨i,w⟩:=q;rw [hg] at h1;simp only [Bool.and_eq_true,beq_iff_eq] at h1;obtain ⟨rfl,rfl⟩:=h1;cases hj:ops[i]? with
  | none=>rw [hj] at h2;cases h2
  | some oj=>
   cases hd:oj.dst with
   | none=>simp [hj,hd] at h2
   | some e=>
    obtain rfl:e=d:=by simpa [hj,hd] using h2
    exact trL_opg hg hj hd hv h3 (.inr h5) h4 x
end
section
variable {S:Nat->Prop} {Pre:Nat->GH->Prop} {Φ:List Law2} {cl:List Nat} {k d:Nat} {h h':GH} {O:Nat->Value} {ds:List Deferred} {v:Value}
theorem fL{Φ:List Rj}(p:ME Φ k v h):ds=ds/\GH.Le h h/\∃w,putS O (some d) v=putS O (some d) w/\ME Φ k w h:=⟨rfl,GH.Le.refl _,_,rfl,p⟩
theorem K1{R:GH->GH->Prop}{Φ:List Rj}{a:Value}(x:GJ R Φ):GJ R (lF a ::Φ):=⟨λ_ _ _ _ y=>y,x⟩
theorem K2{R:GH->GH->Prop}{Φ:List Rj}{a b:Value}(x:GJ R Φ):GJ R (lF a ::lF b ::Φ):=K1 (K1 x)
theorem K4{R:GH->GH->Prop}{Φ:List Rj}{a b c d:Value}(x:GJ R Φ):GJ R (lF a ::lF b ::lF c ::lF d ::Φ):=K2 (K2 x)
theorem K8{R:GH->GH->Prop}{Φ:List Rj}{a b c d a' b' c' d':Value}(x:GJ R Φ):GJ R (lF a ::lF b ::lF c ::lF d ::lF a' ::lF b' ::lF c' ::lF d' ::Φ):=K4 (K4 x)
end
end Go.Ns
namespace Go.Ns
open Go.Conc
section
variable {P:Program} {E:Gh P} {O:Nat->Value} {ds:List Deferred} {h:GH} {Q:Post} {T:(Nat->Value)->List Deferred->GH->Prop}
variable {dst:Option Nat} {ty:TypeId} {pos:String} {af:Array Edge} {ops:Array Oper} {o:Oper} {l:List Oper} {gd:Option (Nat×Bool)}
theorem Mz{x:Operand}(v:Value)(e:(C2 dst E.N,AR O x)=(true,v))(k:DM E ops l (putS O dst v) ds h Q):DM E ops (⟨dst,.move x,ty,pos,af,none⟩ ::l) O ds h Q:=Mv v (congrArg Prod.fst e) (congrArg Prod.snd e) k
theorem Az{x:Operand}(v:Value)(e:(C2 dst E.N,AR O x)=(true,v))(k:DM E ops l (putS O dst v) ds h Q):DM E ops (⟨dst,.assign x,ty,pos,af,none⟩ ::l) O ds h Q:=As v (congrArg Prod.fst e) (congrArg Prod.snd e) k
theorem Lz{t:TypeId}{x:Operand}{b off:Nat}(v:Value)(e:(C2 dst E.N,AR O x)=(true,.pointer (some ⟨b,off,none⟩)))(hr:Rd P h t b off v)(k:DM E ops l (putS O dst v) ds h Q):DM E ops (⟨dst,.load t x,ty,pos,af,none⟩ ::l) O ds h Q:=
 Ld v (congrArg Prod.fst e) (congrArg Prod.snd e) hr k
theorem Fz{s:TypeId}{x:Operand}{f o b off:Nat}(hf:Dl P s f=some o)(e:(C2 dst E.N,AR O x)=(true,.pointer (some ⟨b,off,none⟩)))(k:DM E ops l (putS O dst (.pointer (some ⟨b,off+o,none⟩))) ds h Q) :
  DM E ops (⟨dst,.fieldAddr s x f,ty,pos,af,none⟩ ::l) O ds h Q:=Fa hf (congrArg Prod.fst e) (congrArg Prod.snd e) k
theorem Pz{c a b:Operand}(t:Bool)(v:Value)(e:(C2 dst E.N,AR O c,(if t then AR O a else AR O b))=(true,.bool t,v))(k:DM E ops l (putS O dst v) ds h Q):DM E ops (⟨dst,.pick c a b,ty,pos,af,none⟩ ::l) O ds h Q:=
 Pk t v (congrArg Prod.fst e) (congrArg (λq=>q.2.1) e) (congrArg (λq=>q.2.2) e) k
theorem Yd{xt yt:TypeId}{x y:Operand}{a b:Int}(e:(C2 dst E.N,AR O x,AR O y)=(true,.int .i64 a,.int .i64 b))(hr: -9223372036854775808<=a+b/\a+b<=9223372036854775807)(k:DM E ops l (putS O dst (.int .i64 (a+b))) ds h Q) :
  DM E ops (⟨dst,.binOp .add xt x y yt,ty,pos,af,none⟩ ::l) O ds h Q:=Ad a b (congrArg Prod.fst e) (congrArg (λq=>q.2.1) e) (congrArg (λq=>q.2.2) e) hr k
theorem Mo{x:Operand}(v:Value)(hx:AR O x=v)(k:T (putS O dst v) ds h):BW E ⟨dst,.move x,ty,pos,af,gd⟩ O ds h T:=TU hx k
theorem Lo{t:TypeId}{x:Operand}{b off:Nat}(v:Value)(hx:AR O x=.pointer (some ⟨b,off,none⟩))(hr:Rd P h t b off v)(k:T (putS O dst v) ds h):BW E ⟨dst,.load t x,ty,pos,af,gd⟩ O ds h T:=CW hx hr k
theorem Ex{x:Operand}{n:Nat}{vs:Array Value}(v:Value)(e:(AR O x,vs[n]?)=(.tuple vs,some v))(k:T (putS O dst v) ds h):BW E ⟨dst,.extract x n,ty,pos,af,gd⟩ O ds h T:=Wd (congrArg Prod.fst e) (congrArg Prod.snd e) k
theorem Bo{t:TypeId}{x:Operand}{v:Value}(c:Array Value)(hx:AR O x=v)(hc:v.cells=c)
  (k:∀r h',h r=none->h.Le h'->h' r=some (true,.cells c t (0,0))->(∀b,b≠r->h' b=h b)->T (putS O dst (.pointer (some ⟨r,0,none⟩))) ds h'):BW E ⟨dst,.box t x,ty,pos,af,gd⟩ O ds h T:=TV hx hc k
theorem So{t:TypeId}{a x:Operand}{b off n:Nat}{g:Bool}{c:Array Value}{et:TypeId}(v:Value)(c':Array Value)(ht:CX P t=some (g,n))(e:(AR O a,AR O x)=(.pointer (some ⟨b,off,none⟩),v))(hb:h b=some (true,.cells c et (0,0)))
  (e2:(v.cells.size,Value.fine v)=(n,true)) (hn:off+n<=c.size) (hc:Bh c off v.cells.toList=c') (k:∀h',h' b=some (true,.cells c' et (0,0))->(∀x,x≠b->h' x=h x)->T (putS O dst undef) ds h') :
  BW E ⟨dst,.store t a x,ty,pos,af,gd⟩ O ds h T:=Ac ht (congrArg Prod.fst e) (congrArg Prod.snd e) hb (congrArg Prod.fst e2) (congrArg Prod.snd e2) hn hc k
theorem Ot{fn:Func}{R:Value->GH->Prop}{t:Tmp}(v:Value)(e:(fn.results,O t)=(#[.tmp t],v))(x:R v h):Gi P fn O R [] h:=Js (congrArg Prod.fst e) (congrArg Prod.snd e) x
theorem Ou{fn:Func}{R:Value->GH->Prop}{t u:Tmp}(v v':Value)(e:(fn.results,O t,O u)=(#[.tmp t,.tmp u],v,v'))(x:R (.tuple #[v,v']) h):Gi P fn O R [] h:=outs2 (congrArg Prod.fst e) (congrArg (λq=>q.2.1) e) (congrArg (λq=>q.2.2) e) x
theorem Sr{id:Nat}{y:Code}(a:DM E l.toArray l O ds h (λe σ' ds' h'=>match e with | .normal=>Tr E y σ' ds' h' Q | e=>Q e σ' ds' h')):Tr E (.seq (.region id l.toArray false) y) O ds h Q:=Sq (Rg a)
theorem S2{id:Nat}{y z:Code}(a:DM E l.toArray l O ds h (λe σ' ds' h'=>match e with | .normal=>Tr E y σ' ds' h' (λe σ' ds' h'=>match e with | .normal=>Tr E z σ' ds' h' Q | e=>Q e σ' ds' h') | e=>(λe σ' ds' h'=>match e with | .normal=>Tr E z σ' ds' h' Q | e=>Q e σ' ds' h') e σ' ds' h')) :
  Tr E (.seq (.seq (.region id l.toArray false) y) z) O ds h Q:=Sq (Sq (Rg a))
theorem Zr{V:Type}{a b:V}:a=b\/a=a:=.inr rfl
theorem M2{x x':Operand}{dst':Option Nat}{ty':TypeId}{pos':String}{af':Array Edge}(v v':Value)(e:(C2 dst E.N,AR O x,C2 dst' E.N,AR (putS O dst v) x')=(true,v,true,v'))(k:DM E ops l (putS (putS O dst v) dst' v') ds h Q):DM E ops (⟨dst,.move x,ty,pos,af,none⟩ ::⟨dst',.move x',ty',pos',af',none⟩ ::l) O ds h Q:=
 Mv v (congrArg Prod.fst e) (congrArg (λq=>q.2.1) e) (Mv v' (congrArg (λq=>q.2.2.1) e) (congrArg (λq=>q.2.2.2) e) k)
theorem A2{x x':Operand}{dst':Option Nat}{ty':TypeId}{pos':String}{af':Array Edge}(v v':Value)(e:(C2 dst E.N,AR O x,C2 dst' E.N,AR (putS O dst v) x')=(true,v,true,v'))(k:DM E ops l (putS (putS O dst v) dst' v') ds h Q):DM E ops (⟨dst,.assign x,ty,pos,af,none⟩ ::⟨dst',.assign x',ty',pos',af',none⟩ ::l) O ds h Q:=
 As v (congrArg Prod.fst e) (congrArg (λq=>q.2.1) e) (As v' (congrArg (λq=>q.2.2.1) e) (congrArg (λq=>q.2.2.2) e) k)
theorem Ct{W:Wk P}{f:FuncId}{fn:Func}{c:Code}{args:Array Value}{R:Value->GH->Prop}(hf:P.funcs[f]? =some fn)(e:(fn.body,Nat.ble args.size fn.ntmps)=(some c,true))
  (x:Tr ⟨W,f,none,fn.ntmps⟩ c (λi=>args.getD i undef) [] h (λe O ds h'=>(e=.normal\/e=.ret)/\Gi P fn O R ds h')):AV W f args h R:=Wb hf (congrArg Prod.fst e) (Nat.le_of_ble_eq_true (congrArg Prod.snd e)) x
end
section
variable {P:Program} {E:Gh P} {l:List Oper} {n:Nat} {fl:Bool} {hs:GH} {ds:List Deferred} {Lw:Nat->Value->GH->Prop} {F:(Nat->Value)->GH->Prop} {π:List Nat} {O:Nat->Value} {h:GH} {m k g d:Nat} {dst:Option Nat} {op:Op} {ty:TypeId} {pos:String} {af:Array Edge} {v:Value} {w is:Bool} {og:Oper}
theorem Rz(e:(LH m,l[k]?)=((.r,k),some ⟨dst,op,ty,pos,af,none⟩))(x:Ta E ⟨dst,op,ty,pos,af,none⟩ O ds h v)(y:TD E l n fl hs ds Lw F (dK π) (putS O dst v) h):TD E l n fl hs ds Lw F (dK (m ::π)) O h:=tR (congrArg Prod.fst e) (congrArg Prod.snd e) x y
theorem Rm{x:Operand}(v:Value)(e:(LH m,l[k]?,AR O x)=((.r,k),some ⟨dst,.move x,ty,pos,af,none⟩,v))(y:TD E l n fl hs ds Lw F (dK π) (putS O dst v) h):TD E l n fl hs ds Lw F (dK (m ::π)) O h:=
 tR (congrArg Prod.fst e) (congrArg (λq=>q.2.1) e) (TU (congrArg (λq=>q.2.2) e) vz) y
theorem Rl{t:TypeId}{x:Operand}{b off:Nat}(v:Value)(e:(LH m,l[k]?,AR O x)=((.r,k),some ⟨dst,.load t x,ty,pos,af,none⟩,.pointer (some ⟨b,off,none⟩)))(hr:Rd P h t b off v)(y:TD E l n fl hs ds Lw F (dK π) (putS O dst v) h):TD E l n fl hs ds Lw F (dK (m ::π)) O h:=
 tR (congrArg Prod.fst e) (congrArg (λq=>q.2.1) e) (CW (congrArg (λq=>q.2.2) e) hr vz) y
theorem Py(e:(LH m,l[k]?)=((.p,k),some ⟨dst,op,ty,pos,af,none⟩))(x:∀hx,Ta E ⟨dst,op,ty,pos,af,none⟩ O ds hx v)(y:TD E l n fl hs ds Lw F (dK π) (putS O dst v) h):TD E l n fl hs ds Lw F (dK (m ::π)) O h:=tP (congrArg Prod.fst e) (congrArg Prod.snd e) x y
theorem Ry(e:(LH m,l[k]?,l[g]?,og.dst)=((.r,k),some ⟨dst,op,ty,pos,af,some (g,w)⟩,some og,some d))(h3:O d=.bool w)(x:Ta E ⟨dst,op,ty,pos,af,some (g,w)⟩ O ds h v)
  (y:TD E l n fl hs ds Lw F (dK π) (putS O dst v) h):TD E l n fl hs ds Lw F (dK (m ::π)) O h:=tRg (congrArg Prod.fst e) (congrArg (λq=>q.2.1) e) (congrArg (λq=>q.2.2.1) e) (congrArg (λq=>q.2.2.2) e) h3 x y
theorem Sz{kd:Kd}(e:(LH m,l[k]?,l[g]?,og.dst)=((kd,k),some ⟨dst,op,ty,pos,af,some (g,w)⟩,some og,some d))(h3:O d=.bool is)(hne:(is==w)=false)
  (y:TD E l n fl hs ds Lw F (dK π) (putS O dst undef) h) (hl:(kd !=Kd.l)=true:=by rfl):TD E l n fl hs ds Lw F (dK (m ::π)) O h:=tS (congrArg Prod.fst e) (congrArg (λq=>q.2.1) e) (congrArg (λq=>q.2.2.1) e) (congrArg (λq=>q.2.2.2) e) h3 hne y hl
end
end Go.Ns
namespace Go.Ns
open Go.Conc
structure Er(h:GH)(ps:List ByteArray)(psv:Value)(ws:List AD)(wsv:Value)(js:List AK)(jsv:Value)(ns:List AH)(nsv:Value):Prop where
 a:AO h psv 1 Ey ps
 b:AO h wsv 4 De ws
 c:AO h jsv 5 Cm js
 d:CZ h js
 e:AO h nsv 3 CE ns
 f:Ap h ns
theorem Er.le{h h':GH}{ps:List ByteArray}{psv:Value}{ws:List AD}{wsv:Value}{js:List AK}{jsv:Value}{ns:List AH}{nsv:Value}(x:Er h ps psv ws wsv js jsv ns nsv)(l:h.Le h'):Er h' ps psv ws wsv js jsv ns nsv:=⟨x.1.le l,x.2.le l,x.3.le l,x.4.le l,x.5.le l,x.6.le l⟩
abbrev J(x:Int):Value:=.int .i64 x
abbrev Pt(b:Nat):Value:=.pointer (some ⟨b,0,none⟩)
abbrev Sc(b:Nat)(n c:Nat):Value:=.slice (some ⟨b,0,none⟩) n c
abbrev Fh:Array Value:=#[J 0,J 0,.slice none 0 0,.slice none 0 0,.slice none 0 0,.slice none 0 0,.slice none 0 0,.map none]
abbrev Q1w(a:List AD)(b:List AK)(c:List AH)(d:Nat):Array Value:=#[J (((AC a b c).getD (((d:Int)-1).toNat) AE.zero).ways 0),J (((AC a b c).getD (((d:Int)-1).toNat) AE.zero).ways 1),J (((AC a b c).getD (((d:Int)-1).toNat) AE.zero).ways 2),J (((AC a b c).getD (((d:Int)-1).toNat) AE.zero).ways 3),J (((AC a b c).getD (((d:Int)-1).toNat) AE.zero).ways 4)]
abbrev Zi(a:List AD)(b:Nat):Array Value:=#[J ((a.getD b AD.z).a),J ((a.getD b AD.z).b),J ((a.getD b AD.z).low),J ((a.getD b AD.z).high)]
abbrev Q1y(a:List AD)(b:List AK)(c:List AH)(d:Nat):Array Value:=#[J (((AC a b c).getD d AE.zero).ways 0),J (((AC a b c).getD d AE.zero).ways 1),J (((AC a b c).getD d AE.zero).ways 2),J (((AC a b c).getD d AE.zero).ways 3),J (((AC a b c).getD d AE.zero).ways 4)]
abbrev Q1z(a:ByteArray)(b:Nat):=decide (¬(((97<=((bytesOf a).getD b 0))/\(((bytesOf a).getD b 0)<=122))\/(((0<(b:Int))/\(48<=((bytesOf a).getD b 0)))/\(((bytesOf a).getD b 0)<=57))))
abbrev UZ(a:Int):=K9 (K9 a (Fg a 13)) ((K9 a (Fg a 13)) / 128)
abbrev IO:Value:=.slice none 0 0
abbrev Q22(a:List AH)(b:Nat):Array Value:=#[(a.getD b AH.z).wv,J ((a.getD b AH.z).low),J ((a.getD b AH.z).high)]
abbrev Ia(a:ByteArray)(b:Nat):=(bytesOf a).getD b 0
abbrev Q24(a:List AK)(b:Nat):=decide ((¬(((0<=((a.getD b AK.z).low)/\((a.getD b AK.z).low)<=((a.getD b AK.z).high))/\((a.getD b AK.z).high)<=30)/\((a.getD b AK.z).high)-((a.getD b AK.z).low)<2))\/(¬(0<=((a.getD b AK.z).due)/\((a.getD b AK.z).due)<=200)))
abbrev LD(a:List AD)(b:Nat):=(a.getD b AD.z).b
abbrev Q26(a:List AK)(b:Nat):Array Value:=#[J ((a.getD b AK.z).place),J ((a.getD b AK.z).low),J ((a.getD b AK.z).high),J ((a.getD b AK.z).due),(a.getD b AK.z).pv]
abbrev Vz(a:List AE)(b:Nat):=(a.drop (1)).getD b AE.zero
abbrev Q28(a:List Value)(b:Array Int)(c:Nat)(d:Nat):=Br a ((b.setIfInBounds c (b[d]!)).setIfInBounds d (b[c]!))
abbrev D6(a:Nat)(b:Array Int)(c:Nat):=Sc a b.size c
abbrev Mn(a:List AD)(b:Nat):=(a.getD b AD.z).a
abbrev Q2b(a:List ByteArray)(b:List AD)(c:List AK)(d:List AH):=decide ((((20<(a.length:Int))\/(20<(b.length:Int)))\/(20<(c.length:Int)))\/(20<(d.length:Int)))
abbrev Q2c(a:Int)(b:Int):=decide ((¬(0<=a/\a<=9))\/(¬(0<=b/\b<=3)))
abbrev Q2d(a:List AD)(b:Nat):Array Value:=#[J ((a.getD b AD.z).low),J ((a.getD b AD.z).high)]
abbrev Q2e(a:List AK)(b:Nat):Array Value:=#[J ((a.getD b AK.z).low),J ((a.getD b AK.z).high)]
abbrev Q2f(a:List AD)(b:List AK)(c:List AH)(d:Nat):Value:=.agg (Ag ((AC a b c).getD d AE.zero))
abbrev Xg(a:Int)(b:Int):Value:=.bool (decide (a<=b))
abbrev Q2h(a:Int)(b:Int)(c:Int)(d:Int):=decide ((((0<=a)/\(a<=b))/\(b<=c))/\((b-a)<d))
abbrev Q2i(a:List ByteArray)(b:List AD)(c:Nat):=J (B7 a.length [(b.getD c AD.z).a,(b.getD c AD.z).b])
abbrev Q2j(a:Nat)(b:Nat)(c:Array Int)(d:Nat):=decide (((a:Int)<=(b:Int))/\(¬((c[b]!)<(c[d]!))))
abbrev M5(a:List Int)(b:Nat):=J (a.getD b 0)
abbrev Zj(a:List AE):=a.getD 0 AE.zero
abbrev WV(a:List AK)(b:List Int):=Ah a.length b
abbrev Q2n(a:List AK)(b:List Int)(c:Int):=(a.getD ((b.getD (c.toNat) 0).toNat) AK.z).due
abbrev Zk(a:List ByteArray)(b:Int)(c:Int):=B7 a.length [b,c]
abbrev Q2p(a:List AK)(b:Nat):=(a.getD b AK.z).high
abbrev Q2q(a:List AH)(b:Nat):Array Value:=#[J ((a.getD b AH.z).low),J ((a.getD b AH.z).high)]
abbrev Zl(a:List AK)(b:Int):=Ds a.length b
abbrev Q2s(a:List AK)(b:Nat):=(a.getD b AK.z).low
abbrev Q2t(a:List AH)(b:Nat)(c:Nat):=((a.getD b AH.z).ways).getD c 0
abbrev Q2u(a:Int)(b:Int):=decide (((0<=a/\a<=b)/\b<=30)/\((b-a)<2))
abbrev Q2v(a:List Value)(b:Array Int)(c:Nat)(d:Nat):=Br a (b.setIfInBounds c (b[d]!))
abbrev Q2w(a:Nat):=J ((2*(a:Int))+1)
abbrev Q2x(a:Nat)(b:Int)(c:Array Int)(d:Nat):=decide (((((2*(a:Int))+1)+1)<b)/\((c[(d+((2*a)+1))]!)<(c[((d+((2*a)+1))+1)]!)))
abbrev Q2y(a:List AK)(b:List Int)(c:Int):=EM a.length b c
abbrev Q2z(a:Int)(b:Int)(c:Int):=decide ((a<=b)/\(b<=c))
abbrev Q30(a:Nat)(b:Nat):Value:=.bool (decide ((a:Int)<=(b:Int)))
abbrev Q31(a:Nat)(b:Nat):=J ((a:Int)-(b:Int))
abbrev Q32(a:Int)(b:Int)(c:Int)(d:Int):=decide (((a<=b)/\(b<=c))/\(c<=d))
abbrev Q33(a:Nat)(b:Nat)(c:Array Int):=decide (((a:Int)<(b:Int))/\((c[b]!)<(c[((b:Int)-1).toNat]!)))
abbrev Q34(a:List AK)(b:Nat):=(a.getD b AK.z).due
abbrev Q35(a:List AH)(b:Nat):=(a.getD b AH.z).wv
abbrev Q36:Array Value:=#[J 0,J 0,.slice none 0 0,.slice none 0 0,.slice none 0 0,.slice none 0 0]
abbrev Q37(a:Nat):=J (((2*(a:Int))+1)+1)
abbrev Q38(a:Nat)(b:Array Int)(c:Nat):=decide ((0<(a:Int))/\(¬((b[((a:Int)-1).toNat]!)<(b[c]!))))
abbrev Q39(a:ByteArray):=decide (((a.size:Int)<1)\/(10<(a.size:Int)))
abbrev Q3a(a:List AD)(b:Nat):=(a.getD b AD.z).high
abbrev Q3b(a:Int):=decide ((97<=a)/\(a<=122))
abbrev V0(a:Int)(b:Int)(c:Value)(d:Value)(e:Value)(f:Value):Array Value:=#[.agg #[J a,J b,c,d,e,f]]
abbrev Q3d(a:Array Int)(b:Nat)(c:Nat):=decide (¬((a[b]!)<(a[c]!)))
abbrev Q3e(a:Int):=decide (¬(0<=a/\a<=3))
abbrev Q3f(a:List Int)(b:Nat)(c:List Int):=J (Th (a.getD b 0) (c.getD b 0))
abbrev Q3g(a:List Sl)(b:Nat):=((a.drop (1)).getD b Sl.z).1
abbrev Q3h(a:Int):=decide ((48<=a)/\(a<=57))
abbrev Q3i(a:Nat):Value:=.func (.func 95) #[] #[Pt a]
abbrev Q3j(a:Nat):Value:=.func (.func 69) #[] #[Pt a]
abbrev Q3k(a:List AD)(b:Nat):=(a.getD b AD.z).low
abbrev Q3l:=Ag AE.zero
abbrev Q3m(a:Nat)(b:Nat):Value:=.func (.func 81) #[] #[Pt a,Pt b]
abbrev Q3n(a:Nat)(b:Nat):Value:=.func (.func 66) #[] #[Pt a,Pt b]
abbrev Q3o(a:List AK)(b:List Int)(c:Nat):=J (Ds a.length (b.getD c 0))
abbrev Q3p(a:List AD)(b:Nat):=De (a.getD b AD.z)
end Go.Ns
