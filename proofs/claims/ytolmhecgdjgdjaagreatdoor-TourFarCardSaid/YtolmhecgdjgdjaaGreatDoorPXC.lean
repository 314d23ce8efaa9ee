/- Rules and walks, part 3 of 6. No conditions. -/
import Derived.Carry
import Derived.Conc.LeavingOf
import Derived.LaidMore
import Derived.OpenShut
import Derived.Test.YtolmhecgdjgdjaaGreatDoorPXB
import Derived.Test.YtolmhecgdjgdjaaGreatDoorProg
set_option linter.unusedVariables false
set_option linter.unusedSimpArgs false
set_option linter.unnecessarySimpa false
set_option linter.unusedSectionVars false
namespace Go.Ns
open Go.Conc
section
variable {P:Program} {E:GX P} {O:Nat->Value} {ds:List Deferred} {h:GH} {T:(Nat->Value)->List Deferred->GH->Prop} {dst:Option Nat} {ty:TypeId} {pos:String} {af:Array Edge} {gd:Option (Nat×Bool)}
theorem ok_eqlB{xt yt:TypeId}{x y:Operand}{a b:Bool}(hx:AQ O x=.bool a)(hy:AQ O y=.bool b)(he:Nr P 1 xt (.bool a) (.bool b)=some (a==b))(k:T (putS O dst (.bool (a==b))) ds h):BU E ⟨dst,.binOp .eql xt x y yt,ty,pos,af,gd⟩ O ds h T:=by
 unfold BU execOp;simp only [hx,hy];refine FS (AH _ _ ?_);have hg:∀(Q:Unit->GH->Prop),Q () h->(eqGuard .eql xt x y (.bool a) (.bool b)).gh P h Q:=λQ q=>q;refine hg _ ?_;show Sem.gh P (do pure (Value.bool (<-Op.equal xt (.bool a) (.bool b))):Sem Value) h _;refine AH _ _ ?_;exact HU 1 _ _ _ _ (a==b) h _ aC he k
theorem P3{t:TypeId}{x o:Operand}{m n b off hi:Nat}(ht:Mr P t=some (m,n))(hx:AQ O x=.pointer (some ⟨b,off,none⟩))(ho:∃kd,AQ O o=.int kd hi)(h2:hi<=m)(k:T (putS O dst (.slice (some ⟨b,off,none⟩) hi m)) ds h) :
  BU E ⟨dst,.slice t x none (some o) none,ty,pos,af,gd⟩ O ds h T:=by
 obtain ⟨kd,e⟩:=ho;unfold BU execOp;simp only [hx];refine FS ?_;unfold Mr at ht;unfold Instr.sliceAt;cases hu:P.underlying t with
 | none=>rw [hu] at ht;cases ht
 | some d=>
  rw [hu] at ht;cases d <;> first | (cases ht;done) | skip
  rename_i el
  simp only [Option.map_eq_some_iff,Prod.mk.injEq] at ht;obtain ⟨x0,hx0,rfl,rfl⟩:=ht;refine AH _ _ (Ao hu ?_);dsimp only;refine AH _ _ (Av ?_);unfold Instr.sliceBounds;simp only [Option.map_some,Option.map_none,e,Bool.false_eq_true,↓reduceIte];refine AH _ _ (AH _ _ (Av (AH _ _ (DH aA aA (AH _ _ (Av (Av ?_)))))));refine AH _ _ (D2 hx0 (Av ?_));simp only [Nat.sub_zero,Nat.zero_mul,Ij,Nat.add_zero,ite_self,Int.toNat_natCast];exact k
end
def eBo(b:Bool):Array Value:=#[.bool b]
theorem can_sl{h:GH}{r n:Nat}{p:Bool}{c:He}{t:TypeId}{f:Nat×Nat}(hb:h r=some (p,.cells (Fw c) t f))(hn:n<=4):AF h (.slice (some ⟨r,0,none⟩) n 4) 1 eBo (Ol c n):=by
 refine ⟨some ⟨r,0,none⟩,4,by simp [Ol],by simpa [Ol] using hn,by simp [Ol];omega,λi hi=>⟨r,0,rfl,p,_,t,f,hb,?_,?_⟩⟩
 ·have:i<n:=by simpa [Ol] using hi
  show 0+i*1+1<=4;omega
 ·have hi':i<n:=by simpa [Ol] using hi
  have h4:i<4:=aA
  have e:(Ol c n)[i]=c i:=by simp [Ol]
  rw [e]
  match i,h4 with
  | 0,_=>rfl
  | 1,_=>rfl
  | 2,_=>rfl
  | 3,_=>rfl
theorem Oo{ws:List AE}{c c':He}{np k:Nat}(h:El ws (np-k) c=c')(hk:np<=k):c=c':=by
 rw [Nat.sub_eq_zero_of_le hk] at h;exact h
theorem Tx{ws:List AE}{c c':He}{np k:Nat}(h:El ws (np-k) c=c')(hk:k<np):El ws (np-(k+1)) (Gm ws c)=c':=by
 rw [show np-k=(np-(k+1))+1 by omega] at h;exact h
def BH(ws:List AE)(c:He)(k:Nat):He:=(ws.take k).foldl Hf c
theorem Vc{ws:List AE}{c:He}{k:Nat}(hk:k<ws.length):BH ws c (k+1)=Hf (BH ws c k) (ws.getD k AE.z):=by
 unfold BH;rw [EQ AE.z hk,List.foldl_append];rfl
theorem YK{ws:List AE}{c:He}{k:Nat}(hk:ws.length<=k):BH ws c k=Gm ws c:=by
 unfold BH Gm;rw [List.take_of_length_le hk]
structure AI where
 ways:Nat->Int
 works:Nat->Int
def AI.zero:AI:=⟨λ_=>0,λ_=>0⟩
def Af(p:AI):Array Value:=#[.int .i64 (p.ways 0),.int .i64 (p.ways 1),.int .i64 (p.ways 2),.int .i64 (p.ways 3),.int .i64 (p.ways 4),
 .int .i64 (p.works 0),.int .i64 (p.works 1),.int .i64 (p.works 2),.int .i64 (p.works 3)]
theorem Fd(p:AI):(Value.agg (Af p)).cells.size=9:=rfl
theorem Fe(p:AI):Value.fine (.agg (Af p))=true:=rfl
theorem GM(p:AI):0+9<=(Af p).size:=Nat.le_refl 9
theorem GN(p q:AI):Bw (Af p) 0 (Value.agg (Af q)).cells.toList=Af q:=by
 simp [Value.cells,Af,Bw]
def AI.setWay(p:AI)(i:Nat)(n:Int):AI:={ p with ways:=λk=>if k=i then n else p.ways k }
def AI.setWork(p:AI)(i:Nat)(n:Int):AI:={ p with works:=λk=>if k=i then n else p.works k }
theorem GO{p:AI}{i:Nat}(h:i<5):(Af p)[0+i*1]? =some (.int .i64 (p.ways i)):=by
 match i,h with
 | 0,_=>rfl
 | 1,_=>rfl
 | 2,_=>rfl
 | 3,_=>rfl
 | 4,_=>rfl
theorem JY{p:AI}{i:Nat}(h:i<4):(Af p)[5+i*1]? =some (.int .i64 (p.works i)):=by
 match i,h with
 | 0,_=>rfl
 | 1,_=>rfl
 | 2,_=>rfl
 | 3,_=>rfl
theorem P4{p:AI}{i:Nat}{n:Int}(h:i<5):Bw (Af p) (0+i*1) [.int .i64 n]=Af (p.setWay i n):=by
 match i,h with
 | 0,_=>rfl
 | 1,_=>rfl
 | 2,_=>rfl
 | 3,_=>rfl
 | 4,_=>rfl
theorem Oq{p:AI}{i:Nat}{n:Int}(h:i<4):Bw (Af p) (5+i*1) [.int .i64 n]=Af (p.setWork i n):=by
 match i,h with
 | 0,_=>rfl
 | 1,_=>rfl
 | 2,_=>rfl
 | 3,_=>rfl
def AI.put(p:AI)(nw i:Nat)(n:Int):AI:=if i<nw then p.setWay i n else p.setWork (i-nw) n
theorem AI.put_put(p:AI)(nw i:Nat)(n m:Int):(p.put nw i n).put nw i m=p.put nw i m:=by
 unfold AI.put;split
 ·unfold AI.setWay;congr 1;funext k;simp only [];split <;> rfl
 ·unfold AI.setWork;congr 1;funext k;simp only [];split <;> rfl
def FO(p:AI)(l:List Int):Int:=(l.map λk=>p.ways k.toNat).sum
def Ci(ns:List AM)(p:AI):Bool:=ns.all λx=>decide (x.low<=FO p x.ways/\FO p x.ways<=x.high)
structure B3(p:AI):Prop where
 ways:∀k,0<=p.ways k/\p.ways k<=30
 works:∀k,0<=p.works k/\p.works k<=30
def Nw(ns:List AM)(p:AI)(k:Nat):Bool:=decide ((ns.getD k AM.z).low<=FO p (ns.getD k AM.z).ways/\FO p (ns.getD k AM.z).ways<=(ns.getD k AM.z).high)
theorem Sh{p:AI}{l:List Int}{q:Nat}(h:q<l.length):FO p (l.take (q+1))=FO p (l.take q)+p.ways (l.getD q 0).toNat:=by
 unfold FO;rw [EQ 0 h];simp
theorem NB{p:AI}{l:List Int}{q:Nat}(h:l.length<=q):FO p (l.take q)=FO p l:=by rw [List.take_of_length_le h]
theorem Tz{p:AI}{ns:List AM}{k q:Nat}{s:Int}(hs:s=FO p ((ns.getD k AM.z).ways.take q))(hq:(ns.getD k AM.z).ways.length<=q)(h:(ns.getD k AM.z).low<=s/\s<=(ns.getD k AM.z).high):Nw ns p k=true:=by
 rw [NB hq] at hs;subst hs;exact decide_eq_true h
theorem Vd{p:AI}{ns:List AM}{k:Nat}(h:∀j,j<k->Nw ns p j=true)(hk:ns.length<=k):Ci ns p=true:=by
 unfold Ci;rw [List.all_eq_true];intro x hx;obtain ⟨i,hi,rfl⟩:=List.mem_iff_getElem.1 hx
 have:=h i aA
 unfold Nw at this;rw [FN AM.z hi] at this;exact this
theorem YL{p:AI}{ns:List AM}{k q:Nat}{s:Int}(hk:k<ns.length)(hs:s=FO p ((ns.getD k AM.z).ways.take q))(hq:(ns.getD k AM.z).ways.length<=q)(h:¬((ns.getD k AM.z).low<=s/\s<=(ns.getD k AM.z).high)):Ci ns p=false:=by
 rw [NB hq] at hs;subst hs;rw [FN AM.z hk] at h;unfold Ci;rw [List.all_eq_false];exact ⟨ns[k],List.getElem_mem hk,by simpa using h⟩
theorem Or{f:Nat->Bool}{k:Nat}(h:∀j,j<k->f j=true)(e:f k=true):∀j,j<k+1->f j=true:=λj hj=>by
 rcases Nat.lt_succ_iff_lt_or_eq.1 hj with q | rfl
 ·exact h j q
 ·exact e
theorem Ov{nw:Nat}{ns:List AM}(h:∀k,k<ns.length->Dw nw ns k=0)(k:Nat):(ns.getD k AM.z).ways.length<=5/\(∀q,0<=(ns.getD k AM.z).ways.getD q 0/\((ns.getD k AM.z).ways.getD q 0=0\/(ns.getD k AM.z).ways.getD q 0<=(nw:Int)-1)):=by
 rcases Nat.lt_or_ge k ns.length with hk | hk
 ·have e:=h k hk;unfold Dw at e;split at e
  ·cases e
  ·split at e
   ·cases e
   ·rename_i h5 h6
    refine ⟨aA,λq=>?_⟩;rcases Nat.lt_or_ge q (ns.getD k AM.z).ways.length with hq | hq
    ·have h7:¬∃x ∈ (ns.getD k AM.z).ways,¬(0<=x/\x<=(nw:Int)-1):=by simpa [List.any_eq_true] using h6
     have h8:0<=(ns.getD k AM.z).ways.getD q 0/\(ns.getD k AM.z).ways.getD q 0<=(nw:Int)-1:=Classical.byContradiction λz=>h7 ⟨_,Bz hq,z⟩;exact ⟨h8.1,.inr h8.2⟩
    ·rw [CK hq];exact ⟨Int.le_refl _,.inl rfl⟩
 ·rw [CK hk];refine ⟨by simp [AM.z],λq=>?_⟩;simp [AM.z]
def CT(ws:List AE)(js:List AP)(i:Nat):Int:=if i<ws.length then (ws.getD i AE.z).low else (js.getD (i-ws.length) AP.z).low
def GC(ws:List AE)(js:List AP)(i:Nat):Int:=if i<ws.length then (ws.getD i AE.z).high else (js.getD (i-ws.length) AP.z).high
def Cf(ag:AI->Bool)(ws:List AE)(js:List AP):Nat->Nat->AI->List AI
 | 0,_,p=>[p]
 | f+1,i,p=>(IR (CT ws js i) (GC ws js i)).flatMap λn=>if i+1=ws.length/\ag (p.put ws.length i n)=false then [] else Cf ag ws js f (i+1) (p.put ws.length i n)
def CM(ag:AI->Bool)(ws:List AE)(js:List AP)(f i:Nat)(p:AI)(n:Int):List AI:=
 if i+1=ws.length/\ag (p.put ws.length i n)=false then [] else Cf ag ws js f (i+1) (p.put ws.length i n)
theorem Gc(ag:AI->Bool)(ws:List AE)(js:List AP)(f i:Nat)(p:AI) :
  Cf ag ws js (f+1) i p=(IR (CT ws js i) (GC ws js i)).flatMap (CM ag ws js f i p):=rfl
def AA(ws:List AE)(js:List AP)(ns:List AM):List AI:=
 if 0<ws.length\/Ci ns AI.zero=true then Cf (Ci ns) ws js (ws.length+js.length) 0 AI.zero else []
def G7(nw i:Nat):Nat:=if i<nw then 0+i*1 else 5+(i-nw)*1
theorem YM{nw i:Nat}(h:i<nw):G7 nw i=0+i*1:=if_pos h
theorem Ve{nw i:Nat}(h:¬i<nw):G7 nw i=5+(i-nw)*1:=if_neg h
theorem J3{p:AI}{nw nj i:Nat}{v:Int}(hw:nw<=5)(hj:nj<=4)(hi:i<nw+nj):(Af (p.put nw i v))[G7 nw i]? =some (.int .i64 v):=by
 unfold AI.put G7;split
 ·rw [GO aA];simp [AI.setWay]
 ·rw [JY aA];simp [AI.setWork]
theorem Fx{p:AI}{nw nj i:Nat}{v:Int}(hw:nw<=5)(hj:nj<=4)(hi:i<nw+nj):Bw (Af p) (G7 nw i) [.int .i64 v]=Af (p.put nw i v):=by
 unfold AI.put G7;split
 ·exact P4 aA
 ·exact Oq aA
theorem JZ{nw nj i:Nat}(hw:nw<=5)(hj:nj<=4)(hi:i<nw+nj):G7 nw i+1<=9:=by unfold G7;split <;> omega
def AI.zeros(p:AI)(nw i:Nat):Prop:=(∀k,i<=k->k<nw->p.ways k=0)/\∀k,i<=nw+k->p.works k=0
theorem AI.zeros_put{p:AI}{nw i:Nat}(h:p.zeros nw i):p.put nw i 0=p:=by
 obtain ⟨wy,wo⟩:=p;unfold AI.put AI.setWay AI.setWork;split
 ·rename_i hi
  congr 1;funext k;split
  ·rename_i e;subst e;exact (h.1 k (Nat.le_refl _) hi).symm
  ·rfl
 ·rename_i hi
  congr 1;funext k;split
  ·rename_i e;subst e;exact (h.2 (i-nw) aA).symm
  ·rfl
theorem AI.zeros_next{p:AI}{nw i:Nat}{v:Int}(h:p.zeros nw i):(p.put nw i v).zeros nw (i+1):=by
 unfold AI.put;split
 ·refine ⟨λk h1 h2=>?_,λk h1=>h.2 k aA⟩;show (if k=i then v else p.ways k)=0;rw [if_neg aA];exact h.1 k aA h2
 ·refine ⟨λk h1 h2=>h.1 k aA h2,λk h1=>?_⟩;show (if k=i-nw then v else p.works k)=0;rw [if_neg aA];exact h.2 k aA
theorem AI.zeros_zero(nw i:Nat):AI.zero.zeros nw i:=⟨λ_ _ _=>rfl,λ_ _=>rfl⟩
theorem B3.zero:B3 AI.zero:=⟨λ_=>(aC:(0:Int)<=0/\(0:Int)<=30),λ_=>(aC:(0:Int)<=0/\(0:Int)<=30)⟩
theorem B3.put{p:AI}(h:B3 p){nw i:Nat}{v:Int}(hv:0<=v/\v<=30):B3 (p.put nw i v):=by
 unfold AI.put;split
 ·refine ⟨λk=>?_,h.works⟩;show 0<=(if k=i then v else p.ways k)/\(if k=i then v else p.ways k)<=30;split
  ·exact hv
  ·exact h.ways k
 ·refine ⟨h.ways,λk=>?_⟩;show 0<=(if k=i-nw then v else p.works k)/\(if k=i-nw then v else p.works k)<=30;split
  ·exact hv
  ·exact h.works k
section
variable {bag kinds:Int} {ps:List ByteArray} {ws:List AE} {js:List AP} {ns:List AM} {ag:AI->Bool} {p:AI} {all pre:List AI} {f i k:Nat}
theorem BV.few(b:BV bag kinds ps ws js ns)(hi:i<ws.length+js.length):0<=CT ws js i/\CT ws js i<=GC ws js i/\GC ws js i<=30/\GC ws js i-CT ws js i<2:=by
 unfold CT GC;by_cases h:i<ws.length
 ·rw [if_pos h,if_pos h];exact (Tv b.way i h).time
 ·rw [if_neg h,if_neg h];exact (On (b.job (i-ws.length) aA)).time
theorem YN(e:i+1=ws.length)(h:ag (p.put ws.length i (CT ws js i+(k:Int)))=false) :
  pre++(Ch (CT ws js i) (k+1)).flatMap (CM ag ws js f i p)=pre++(Ch (CT ws js i) k).flatMap (CM ag ws js f i p):=by
 rw [M1];unfold CM;rw [if_pos ⟨e,h⟩,List.append_nil]
theorem RC(h:¬(i+1=ws.length/\ag (p.put ws.length i (CT ws js i+(k:Int)))=false)) :
  pre++(Ch (CT ws js i) (k+1)).flatMap (CM ag ws js f i p)=(pre++(Ch (CT ws js i) k).flatMap (CM ag ws js f i p))++Cf ag ws js f (i+1) (p.put ws.length i (CT ws js i+(k:Int))):=by
 rw [M1,<-List.append_assoc];congr 1;unfold CM;rw [if_neg h]
theorem NC(hw:CW all pre (Cf ag ws js (f+1) i p))(hk:CT ws js i+(k:Int)<=GC ws js i)(h:¬(i+1=ws.length/\ag (p.put ws.length i (CT ws js i+(k:Int)))=false)) :
  CW all (pre++(Ch (CT ws js i) k).flatMap (CM ag ws js f i p)) (Cf ag ws js f (i+1) (p.put ws.length i (CT ws js i+(k:Int)))):=by
 rw [Gc] at hw
 have:=hw.round hk
 unfold CM at this ⊢;rw [if_neg h] at this;exact this
end
theorem Vf{lo hi:Int}(h:hi-lo<2):(IR lo hi).length<=2:=by unfold IR Ch;simp;omega
theorem LS{bag kinds:Int}{ps:List ByteArray}{ws:List AE}{js:List AP}{ns:List AM}(b:BV bag kinds ps ws js ns)(ag:AI->Bool):∀(f i:Nat)(p:AI),i+f=ws.length+js.length->(Cf ag ws js f i p).length<=2 ^ f
 | 0,_,_,_=>Nat.le_refl _
 | f+1,i,p,h=>by
  rw [Gc];have h1:=(b.few (i:=i) aA).2.2.2;have h2:=Te (f:=CM ag ws js f i p) (c:=2 ^ f) (l:=IR (CT ws js i) (GC ws js i)) λx _=>by
   unfold CM;split
   ·exact Nat.zero_le _
   ·exact LS b ag f (i+1) _ aA
  have h3:=Nat.mul_le_mul_right (2 ^ f) (Vf h1);rw [Nat.pow_succ];omega
theorem Ff{bag kinds:Int}{ps:List ByteArray}{ws:List AE}{js:List AP}{ns:List AM}(b:BV bag kinds ps ws js ns):(AA ws js ns).length<=2000000:=by
 unfold AA;split
 ·have h1:=LS b (Ci ns) (ws.length+js.length) 0 AI.zero aA;have h2:2 ^ (ws.length+js.length)<=2 ^ 9:=Nat.pow_le_pow_right aA (by have:=b.wlen;have:=b.jlen;omega);omega
 ·exact Nat.zero_le _
def Ea(bag kinds:Int)(ps:List ByteArray)(ws:List AE)(js:List AP)(ns:List AM):Int:=if BZ bag kinds ps ws js ns=0 then ((AA ws js ns).length:Int) else 0
section
variable {bag kinds:Int} {ps:List ByteArray} {ws:List AE} {js:List AP} {ns:List AM}
theorem YO(h:¬BZ bag kinds ps ws js ns=0):(.tuple #[.int .i64 0,.int .i64 (BZ bag kinds ps ws js ns)]:Value)=.tuple #[.int .i64 (Ea bag kinds ps ws js ns),.int .i64 (BZ bag kinds ps ws js ns)]:=by
 unfold Ea;rw [if_neg h]
theorem tHist_ok(h:¬¬BZ bag kinds ps ws js ns=0):(.tuple #[.int .i64 ((AA ws js ns).length:Int),.int .i64 0]:Value)=.tuple #[.int .i64 (Ea bag kinds ps ws js ns),.int .i64 (BZ bag kinds ps ws js ns)]:=by
 have e:=Decidable.not_not.1 h;unfold Ea;rw [if_pos e,e]
end
section
variable {V:Type} {hB h hc h':GH} {I:List V->(Nat->Prop)->GH->Prop} {S:GH->Prop} {rp:Nat} {T:TypeId} {c c':Array Value} {X0 X:Nat->Prop} {pre l:List V} {v:Value}
theorem EY.stoppedI{I':List V->(Nat->Prop)->GH->Prop}{pre':List V}(hv:v=.bool false)(r:∀l',EY hB I S pre X0 h l' (.bool false) h'):EY hB I' S pre' X0 h l v h':=by
 obtain ⟨ok,X',e,hs,hk,hl,_,h2⟩:=r [];cases e;exact ⟨false,X',hv,hs,hk,hl,(λx=>by cases x),h2⟩
def DP(I:List V->(Nat->Prop)->GH->Prop)(rp:Nat)(T:TypeId)(c:Array Value):List V->(Nat->Prop)->GH->Prop:=λpre X h=>
 ∃X',I pre X' h/\¬X' rp/\(∀b,X b↔X' b\/b=rp)/\h rp=some (true,.cells c T (0,0))
theorem DP.prom(P:F9 hB I):F9 hB (DP I rp T c):=by
 refine ⟨?_,?_⟩
 ·rintro pre X h b ⟨X',i,n,hX,hp⟩ hb;rcases (hX b).1 hb with q | rfl
  ·exact P.dom _ _ _ _ i q
  ·exact ⟨_,_,hp,rfl⟩
 ·rintro pre X h h' ⟨X',i,n,hX,hp⟩ same lB;exact ⟨X',P.stable _ _ _ _ i (λb hb=>same b ((hX b).2 (.inl hb))) lB,n,hX,by rw [same rp ((hX rp).2 (.inr rfl))];exact hp⟩
theorem DP.box(x:DP I rp T c pre X h):h rp=some (true,.cells c T (0,0)):=by obtain ⟨_,_,_,_,e⟩:=x;exact e
theorem DP.mem(x:DP I rp T c pre X h):X rp:=by obtain ⟨X',_,_,hX,_⟩:=x;exact (hX rp).2 (.inr rfl)
theorem EL.put(P:F9 hB I)(y:EL hB (DP I rp T c) X0 h pre X hc)(rB:hB rp=none)(nb:h' rp=some (true,.cells c' T (0,0)))(ho:∀b,b≠rp->h' b=hc b):EL hB (DP I rp T c') X0 h pre X h':=by
 obtain ⟨⟨X',i,n,hX,hp⟩,sub,keep,base⟩:=y;exact ⟨⟨X',P.store i n ho (base.upd rB ho),n,hX,nb⟩,sub,keep.store' (sub rp ((hX rp).2 (.inr rfl))) ho,base.upd rB ho⟩
theorem DP.call{P:Program}{W:Wk P}{yv:Value}{args:Array Value}(x:DP I rp T c pre X hc)(k:∀X',I pre X' hc->By W yv args hc (EY hB I S pre X' hc l)):By W yv args hc (EY hB (DP I rp T c) S pre X hc l):=by
 have x':=x;obtain ⟨X',i,n,hX,hp⟩:=x;refine (k X' i).mono λv h' r=>?_;obtain ⟨ok,X1,hv,hs,hk,hl,h1,h2⟩:=r;have n1:¬X1 rp:=λq=>(hs rp q).elim n λe=>by rw [hp] at e;cases e
 refine ⟨ok,λb=>X1 b\/b=rp,hv,?_,λb p o hb hn=>hk b p o hb λq=>hn ((hX b).2 (.inl q)),hl,λe=>⟨X1,h1 e,n1,λ_=>Iff.rfl,hk.box hp n rfl⟩,h2⟩;rintro b (q | rfl)
 ·exact (hs b q).imp (λq=>(hX b).2 (.inl q)) id
 ·exact .inl ((hX _).2 (.inr rfl))
theorem DP.start(x:I pre X hc)(hp:hc rp=some (true,.cells c T (0,0)))(n:¬X rp):DP I rp T c pre (λb=>X b\/b=rp) hc:=⟨X,x,n,λ_=>Iff.rfl,hp⟩
theorem DP.final{X0:Nat->Prop}(y:EL hB I X0 h pre X hc)(hn:h rp=none)(r:EY hB (DP I rp T c) S pre (λb=>X b\/b=rp) hc l v h'):EY hB I S pre X0 h l v h':=by
 obtain ⟨ok,X1,hv,hs,hk,hl,h1,h2⟩:=r;cases ok with
 | true=>
  obtain ⟨X2,i2,n2,hX2,hp2⟩:=h1 rfl;refine ⟨true,X2,hv,λb q=>?_,?_,hl,λ_=>i2,λe=>by cases e⟩
  ·rcases hs b ((hX2 b).2 (.inl q)) with (q1 | rfl) | q1
   ·exact y.sub b q1
   ·exact absurd q n2
   ·exact subX y.sub y.keep (X1:=λz=>z=b) (λz e=>.inr (by rw [e];exact q1)) b rfl
  ·intro b p o hb hX;obtain ⟨o',e1,e2⟩:=y.keep b p o hb hX;obtain ⟨o2,e3,e4⟩:=hk b p o' e1 (λq=>q.elim (λq=>(y.sub b q).elim hX λe=>by rw [e] at hb;cases hb) λe=>by rw [e,hn] at hb;cases hb);refine ⟨o2,e3,?_⟩;rcases e2 with rfl | e2
   ·exact e4
   ·rcases e4 with rfl | e4
    ·exact .inr e2
    ·exact .inr ⟨e2.1,e4.2⟩
 | false=>
  refine ⟨false,λb=>X0 b\/h b=none,hv,λb q=>q,?_,hl,(λe=>by cases e),λ_=>h2 rfl⟩;intro b p o hb hX;obtain ⟨o',e1,e2⟩:=y.keep b p o hb hX;obtain ⟨o2,e3,e4⟩:=hk b p o' e1 (λq=>q.elim (λq=>(y.sub b q).elim hX λe=>by rw [e] at hb;cases hb) λe=>by rw [e,hn] at hb;cases hb);refine ⟨o2,e3,?_⟩;rcases e2 with rfl | e2
  ·exact e4
  ·rcases e4 with rfl | e4
   ·exact .inr e2
   ·exact .inr ⟨e2.1,e4.2⟩
end
end Go.Ns
namespace Go.Ns
open Go.Conc
abbrev ED:=Nat->Nat->Int
def KH(m:ED):Array Value:=#[.int .i64 (m 0 0),.int .i64 (m 0 1),.int .i64 (m 0 2),.int .i64 (m 0 3),.int .i64 (m 1 0),.int .i64 (m 1 1),.int .i64 (m 1 2),.int .i64 (m 1 3),
 .int .i64 (m 2 0),.int .i64 (m 2 1),.int .i64 (m 2 2),.int .i64 (m 2 3),.int .i64 (m 3 0),.int .i64 (m 3 1),.int .i64 (m 3 2),.int .i64 (m 3 3)]
def ED.zero:ED:=λ_ _=>0
def ED.set(m:ED)(i k:Nat)(v:Int):ED:=λa b=>if a=i/\b=k then v else m a b
theorem Ja{m:ED}{i k:Nat}(hi:i<4)(hk:k<4):(KH m)[0+i*4+k*1]? =some (.int .i64 (m i k)):=by
 match i,hi with
 | 0,_=>match k,hk with
  | 0,_=>rfl
  | 1,_=>rfl
  | 2,_=>rfl
  | 3,_=>rfl
 | 1,_=>match k,hk with
  | 0,_=>rfl
  | 1,_=>rfl
  | 2,_=>rfl
  | 3,_=>rfl
 | 2,_=>match k,hk with
  | 0,_=>rfl
  | 1,_=>rfl
  | 2,_=>rfl
  | 3,_=>rfl
 | 3,_=>match k,hk with
  | 0,_=>rfl
  | 1,_=>rfl
  | 2,_=>rfl
  | 3,_=>rfl
theorem LT{m:ED}{i k:Nat}{v:Int}(hi:i<4)(hk:k<4):Bw (KH m) (0+i*4+k*1) [.int .i64 v]=KH (m.set i k v):=by
 match i,hi with
 | 0,_=>match k,hk with
  | 0,_=>rfl
  | 1,_=>rfl
  | 2,_=>rfl
  | 3,_=>rfl
 | 1,_=>match k,hk with
  | 0,_=>rfl
  | 1,_=>rfl
  | 2,_=>rfl
  | 3,_=>rfl
 | 2,_=>match k,hk with
  | 0,_=>rfl
  | 1,_=>rfl
  | 2,_=>rfl
  | 3,_=>rfl
 | 3,_=>match k,hk with
  | 0,_=>rfl
  | 1,_=>rfl
  | 2,_=>rfl
  | 3,_=>rfl
def Kh(i:Nat)(m:ED)(k:Nat):ED:=if¬(i:Int)=(k:Int) then m.set i k 1048576 else m
def Gn(i:Nat)(m:ED)(n:Nat):ED:=(List.range n).foldl (Kh i) m
def IU(n:Nat):ED:=(List.range n).foldl (λm i=>Gn i m 4) ED.zero
def Ki(p:AI)(ws:List AE)(m:ED)(k:Nat):ED:=(m.set (ws.getD k AE.z).a.toNat (ws.getD k AE.z).b.toNat (p.ways k)).set (ws.getD k AE.z).b.toNat (ws.getD k AE.z).a.toNat (p.ways k)
def BI(p:AI)(ws:List AE)(n:Nat):ED:=(List.range n).foldl (Ki p ws) (IU 4)
def Nx(by_ i:Nat)(m:ED)(k:Nat):ED:=m.set i k (min (m i k) (m i by_+m by_ k))
def HF(by_ i:Nat)(m:ED)(n:Nat):ED:=(List.range n).foldl (Nx by_ i) m
def ND(by_ np:Nat)(m:ED)(i:Nat):ED:=if m i by_=1048576 then m else HF by_ i m np
def Ec(by_ np:Nat)(m:ED)(n:Nat):ED:=(List.range n).foldl (ND by_ np) m
def DA(np:Nat)(m:ED)(n:Nat):ED:=(List.range n).foldl (λm b=>Ec b np m np) m
def AG(np:Nat)(ws:List AE)(p:AI):ED:=DA np (BI p ws ws.length) np
theorem Ax{β:Type}(f:β->Nat->β)(b:β)(n:Nat):(List.range (n+1)).foldl f b=f ((List.range n).foldl f b) n:=by rw [List.range_succ,List.foldl_append];rfl
def ED.ok(m:ED):Prop:=∀i k,0<=m i k/\m i k<=1048576
theorem ED.ok_set{m:ED}(h:m.ok){i k:Nat}{v:Int}(hv:0<=v/\v<=1048576):(m.set i k v).ok:=λa b=>by
 unfold ED.set;split
 ·exact hv
 ·exact h a b
theorem ED.ok_zero:ED.zero.ok:=λ_ _=>⟨Int.le_refl 0,(aC:(0:Int)<=1048576)⟩
theorem Hg{β:Type}{Q:β->Prop}{f:β->Nat->β}(hf:∀b k,Q b->Q (f b k)):∀{l:List Nat}{b:β},Q b->Q (l.foldl f b)
 | [],_,h=>h
 | x ::l,b,h=>Hg hf (l:=l) (hf b x h)
theorem YP{i:Nat}{m:ED}{k:Nat}(h:m.ok):(Kh i m k).ok:=by
 unfold Kh;split
 ·exact ED.ok_set h aC
 ·exact h
theorem far0K_ok{i:Nat}{m:ED}{n:Nat}(h:m.ok):(Gn i m n).ok:=Hg (λ_ _=>YP) h
theorem XX{n:Nat}:(IU n).ok:=Hg (λ_ _ h=>far0K_ok h) ED.ok_zero
theorem YQ{p:AI}{ws:List AE}{m:ED}{k:Nat}(hp:B3 p)(h:m.ok):(Ki p ws m k).ok:=by
 have:=hp.ways k
 exact ED.ok_set (ED.ok_set h aA) aA
theorem Kj{p:AI}{ws:List AE}{n:Nat}(hp:B3 p):(BI p ws n).ok:=Hg (λ_ _ h=>YQ hp h) XX
theorem Vg{b i:Nat}{m:ED}{k:Nat}(h:m.ok):(Nx b i m k).ok:=by
 have h1:=h i k;have h2:=h i b;have h3:=h b k;exact ED.ok_set h aA
theorem XY{b i:Nat}{m:ED}{n:Nat}(h:m.ok):(HF b i m n).ok:=Hg (λ_ _ h=>Vg h) h
theorem farI1_ok{b np:Nat}{m:ED}{i:Nat}(h:m.ok):(ND b np m i).ok:=by
 unfold ND;split
 ·exact h
 ·exact XY h
theorem Ny{b np:Nat}{m:ED}{n:Nat}(h:m.ok):(Ec b np m n).ok:=Hg (λ_ _ h=>farI1_ok h) h
theorem T0{np:Nat}{m:ED}{n:Nat}(h:m.ok):(DA np m n).ok:=Hg (λ_ _ h=>Ny h) h
theorem CB{c c':Array Value}(h:c.size=c'.size):Bw c 0 c'.toList=c':=by
 apply Array.toList_inj.1;rw [EJ _ _ _ (by simp [h])];simp [h]
theorem IF{b:Bool}(h:(!b)=true):b=false:=by cases b <;> simp_all
theorem IG{b:Bool}(h:(!b)=false):b=true:=by cases b <;> simp_all
abbrev E4:=(Int×Int×Int×Int×Int)×Int×Int
def En(a:E4):Value:=.agg #[.int .i64 a.1.1,.int .i64 a.1.2.1,.int .i64 a.1.2.2.1,.int .i64 a.1.2.2.2.1,.int .i64 a.1.2.2.2.2,.int .i64 a.2.1,.int .i64 a.2.2]
def T1:E4->Option Int:=λ_=>none
def AI.w5(p:AI):Int×Int×Int×Int×Int:=(p.ways 0,p.ways 1,p.ways 2,p.ways 3,p.ways 4)
theorem E4.eq_iff(a b:E4):((a.1.1==b.1.1 && (a.1.2.1==b.1.2.1 && (a.1.2.2.1==b.1.2.2.1 && (a.1.2.2.2.1==b.1.2.2.2.1 && (a.1.2.2.2.2==b.1.2.2.2.2 && true))))) && (a.2.1==b.2.1 && (a.2.2==b.2.2 && true)))=decide (a=b):=by
 obtain ⟨⟨a1,a2,a3,a4,a5⟩,a6,a7⟩:=a;obtain ⟨⟨b1,b2,b3,b4,b5⟩,b6,b7⟩:=b;rw [Bool.eq_iff_iff];simp [and_assoc]
theorem P5(a:E4):Instr.sameBits 10000 (En a) (En a)=true:=by
 have hi:∀(n:Nat)(x:Int),Instr.sameBits n (.int .i64 x) (.int .i64 x)=true:=λn x=>by
  cases n <;> (unfold Instr.sameBits;simp)
 unfold En;show Instr.sameBits (9999+1) _ _=true;unfold Instr.sameBits;simp only [List.zip_cons_cons,List.zip_nil_left,List.all_cons,List.all_nil,hi];simp
def Vh(m:ED)(w:Int×Int×Int×Int×Int)(i:Nat)(M:E4->Option Int)(k:Nat):E4->Option Int:=λb=>if b=(w,(i:Int),(k:Int)) then some (m i k) else M b
def Fy(m:ED)(w:Int×Int×Int×Int×Int)(i:Nat)(M:E4->Option Int)(n:Nat):E4->Option Int:=(List.range n).foldl (Vh m w i) M
def CL(m:ED)(w:Int×Int×Int×Int×Int)(np:Nat)(M:E4->Option Int)(n:Nat):E4->Option Int:=(List.range n).foldl (λM i=>Fy m w i M np) M
theorem NE{m:ED}{w:Int×Int×Int×Int×Int}{i k:Nat}{M:E4->Option Int}:∀{n:Nat},k<n->Fy m w i M n (w,(i:Int),(k:Int))=some (m i k)
 | 0,h=>absurd h (Nat.not_lt_zero _)
 | n+1,h=>by
  unfold Fy;rw [Ax];unfold Vh;by_cases e:k=n
  ·subst e;rw [if_pos rfl]
  ·rw [if_neg (λq=>e (by have h2:(k:Int)=(n:Int):=congrArg (λz:E4=>z.2.2) q;omega))];exact NE (n:=n) aA
theorem Iq{m:ED}{w:Int×Int×Int×Int×Int}{i:Nat}{M:E4->Option Int}{b:E4}(hb:b.1≠w\/b.2.1≠(i:Int)):∀{n:Nat},Fy m w i M n b=M b
 | 0=>rfl
 | n+1=>by
  unfold Fy;rw [Ax];unfold Vh;rw [if_neg (λq=>by subst q;rcases hb with h | h <;> exact h rfl)];exact Iq hb (n:=n)
theorem NF{m:ED}{w:Int×Int×Int×Int×Int}{np i k:Nat}{M:E4->Option Int}(hk:k<np):∀{n:Nat},i<n->CL m w np M n (w,(i:Int),(k:Int))=some (m i k)
 | 0,h=>absurd h (Nat.not_lt_zero _)
 | n+1,h=>by
  unfold CL;rw [Ax];by_cases e:i=n
  ·subst e;exact NE hk
  ·rw [Iq (.inr (by show (i:Int)≠(n:Int);omega))];exact NF hk (n:=n) aA
theorem LU{m:ED}{w:Int×Int×Int×Int×Int}{np:Nat}{M:E4->Option Int}{b:E4}(hb:b.1≠w):∀{n:Nat},CL m w np M n b=M b
 | 0=>rfl
 | n+1=>by
  unfold CL;rw [Ax,Iq (.inl hb)];exact LU hb (n:=n)
theorem w5_at{p q:AI}(e:q.w5=p.w5){k:Nat}(h:k<5):q.ways k=p.ways k:=by
 simp only [AI.w5,Prod.mk.injEq] at e;obtain ⟨e0,e1,e2,e3,e4⟩:=e
 match k,h with
 | 0,_=>exact e0
 | 1,_=>exact e1
 | 2,_=>exact e2
 | 3,_=>exact e3
 | 4,_=>exact e4
theorem Ow{p q:AI}{ws:List AE}(e:q.w5=p.w5):∀{n:Nat},n<=5->BI q ws n=BI p ws n
 | 0,_=>rfl
 | n+1,h=>by
  have h1:=Ow (ws:=ws) e (n:=n) aA;unfold BI at h1 ⊢;rw [Ax,Ax,h1];unfold Ki;rw [w5_at e aA]
theorem RD{p q:AI}{ws:List AE}{np:Nat}(hw:ws.length<=5)(e:q.w5=p.w5):AG np ws q=AG np ws p:=by
 unfold AG;rw [Ow e hw]
def GD(np:Nat)(ws:List AE)(l:List AI)(M:E4->Option Int):Prop:=∀q ∈ l,∀i k:Nat,i<np->k<np->M (q.w5,(i:Int),(k:Int))=some (AG np ws q i k)
theorem GD.call{np:Nat}{ws:List AE}{pq:List AI}{k:Nat}{M:E4->Option Int}(h:GD np ws (pq.take k) M)(hk:k<pq.length)(hw:ws.length<=5) :
  GD np ws (pq.take (k+1)) (CL (AG np ws (pq.getD k AI.zero)) (pq.getD k AI.zero).w5 np M np):=by
 intro q hq i j hi hj;by_cases e:q.w5=(pq.getD k AI.zero).w5
 ·rw [e,NF hj hi,RD hw e]
 ·rw [LU e];rw [EQ AI.zero hk] at hq;rcases List.mem_append.1 hq with h1 | h1
  ·exact h q h1 i j hi hj
  ·rw [List.mem_singleton.1 h1] at e;exact absurd rfl e
theorem GD.skip{np:Nat}{ws:List AE}{pq:List AI}{k:Nat}{M:E4->Option Int}(h:GD np ws (pq.take k) M)(hk:k<pq.length)(hw:ws.length<=5)(h0:¬(k:Int)=0)(e:(pq.getD k AI.zero).w5=(pq.getD (k-1) AI.zero).w5) :
  GD np ws (pq.take (k+1)) M:=by
 intro q hq i j hi hj;rw [EQ AI.zero hk] at hq;rcases List.mem_append.1 hq with h1 | h1
 ·exact h q h1 i j hi hj
 ·rw [List.mem_singleton.1 h1,e,RD hw e];refine h _ ?_ i j hi hj;rw [FN AI.zero aA];exact List.mem_take_iff_getElem.2 ⟨k-1,aA,rfl⟩
def D4(h:GH)(r np:Nat)(ws:List AE)(pq:List AI):Prop:=∃pm M,MapAt h r pm En De M/\GD np ws pq M
theorem D4.le{h h':GH}{r np:Nat}{ws:List AE}{pq:List AI}(x:D4 h r np ws pq)(l:h.Le h'):D4 h' r np ws pq:=by
 obtain ⟨pm,M,⟨es,clk,hb,hl⟩,hM⟩:=x;exact ⟨pm,M,⟨es,clk,l.keep hb rfl,hl⟩,hM⟩
structure DS(hB:GH)(r:Nat)(M:E4->Option Int)(h hc:GH):Prop where
 ok:Co hc r En De M
 keep:Ba (λb=>b=r) h hc
 base:hB.Le hc
def FRes(hB:GH)(r:Nat)(M:E4->Option Int)(h h':GH):Prop:=Co h' r En De M/\Ba (λb=>b=r) h h'/\hB.Le h'
section
variable {hB h hc h':GH} {r:Nat} {M M':E4->Option Int}
theorem Co.some(x:Co h r En De M):∃o,h r=some (true,o)/\JK o=false:=by obtain ⟨es,clk,hb,_⟩:=x;exact ⟨_,hb,rfl⟩
theorem DS.start(x:Co h r En De M)(l:hB.Le h):DS hB r M h h:=⟨x,Ba.refl _ _,l⟩
theorem DS.le(y:DS hB r M h hc)(l:hc.Le h'):DS hB r M h h':=by
 obtain ⟨o,ho,_⟩:=y.ok.some;exact ⟨y.ok.le_other ((l.keep ho rfl).trans ho.symm),y.keep.trans (λ_ q=>.inl q) (l.keepX _),y.base.trans l⟩
theorem DS.store(y:DS hB r M h hc){q:Nat}(hq:h q=none)(qB:hB q=none)(hn:q≠r)(ho:∀b,b≠q->h' b=hc b):DS hB r M h h':=
 ⟨y.ok.le_other (ho r (Ne.symm hn)),y.keep.store hq ho,y.base.upd qB ho⟩
theorem DS.put(y:DS hB r M h hc)(rB:hB r=none)(x:Co h' r En De M')(ho:∀b,b≠r->h' b=hc b):DS hB r M' h h':=⟨x,y.keep.store' (.inl rfl) ho,y.base.upd rB ho⟩
theorem DS.call(y:DS hB r M h hc)(m:FRes hB r M' hc h'):DS hB r M' h h':=⟨m.1,y.keep.trans (λ_ q=>.inl q) m.2.1,m.2.2⟩
theorem DS.ne(y:DS hB r M h hc){q:Nat}(hq:hc q=none):q≠r:=λe=>by
 obtain ⟨o,ho,_⟩:=y.ok.some;rw [e,ho] at hq;cases hq
theorem DS.nothing(y:DS hB r M h hc){q:Nat}(hq:hc q=none):h q=none:=by
 cases hx:h q with
 | none=>rfl
 | some x=>
  obtain ⟨o',h1,_⟩:=y.keep q x.1 x.2 hx (y.ne hq);rw [h1] at hq;cases hq
theorem NG(x:h r=some (true,.map #[] 0)):Co h r En De T1:=Co.empty x
theorem Co.slDel{V:Type}(x:Co h r En De M){v:Value}{n:Nat}{enc:V->Array Value}{xs:List V}(y:AF h v n enc xs):AF (h.del r) v n enc xs:=by
 obtain ⟨es,clk,hb,_⟩:=x;exact AF.slDel y hb
theorem Co.leF(x:Co h r En De M)(l:h.Le h'):Co h' r En De M:=by
 obtain ⟨o,ho,e⟩:=x.some;exact x.le_other ((l.keep ho e).trans ho.symm)
theorem DS.res(y:DS hB r M h hc):FRes hB r M h hc:=⟨y.ok,y.keep,y.base⟩
end
theorem NH{bag kinds:Int}{ps:List ByteArray}{ws:List AE}{js:List AP}{ns:List AM}(b:BV bag kinds ps ws js ns){ag:AI->Bool}:∀{f i:Nat}{p:AI},i+f=ws.length+js.length->B3 p->∀q ∈ Cf ag ws js f i p,B3 q
 | 0,_,p,_,hp,q,hq=>by rw [List.mem_singleton.1 hq];exact hp
 | f+1,i,p,h,hp,q,hq=>by
  rw [Gc] at hq;obtain ⟨n,hn,hq⟩:=List.mem_flatMap.1 hq;have h1:=b.few (i:=i) aA;have h2:=QU.1 hn;unfold CM at hq;split at hq
  ·cases hq
  ·exact NH b (f:=f) aA (hp.put aA) q hq
section
variable {bag kinds:Int} {ps:List ByteArray} {ws:List AE} {js:List AP} {ns:List AM}
theorem D5(b:BV bag kinds ps ws js ns):∀q ∈ AA ws js ns,B3 q:=by
 intro q hq;unfold AA at hq;split at hq
 ·exact NH b aA B3.zero q hq
 ·cases hq
theorem Kk(b:BV bag kinds ps ws js ns)(k:Nat):B3 ((AA ws js ns).getD k AI.zero):=by
 rcases Nat.lt_or_ge k (AA ws js ns).length with h | h
 ·exact D5 b _ (Bz h)
 ·rw [CK h];exact B3.zero
def AD(bag kinds:Int)(ps:List ByteArray)(ws:List AE)(js:List AP)(ns:List AM)(s:Int):Int:=
 if¬BZ bag kinds ps ws js ns=0 then BZ bag kinds ps ws js ns else if¬s=0 then s else if (AA ws js ns).length=0 then 9 else 0
variable {s:Int}
theorem XZ(h:¬BZ bag kinds ps ws js ns=0):AD bag kinds ps ws js ns s=BZ bag kinds ps ws js ns:=if_pos h
theorem Xa(h:¬¬BZ bag kinds ps ws js ns=0)(h2:¬s=0):AD bag kinds ps ws js ns s=s:=by unfold AD;rw [if_neg h,if_pos h2]
theorem Xb(h:¬¬BZ bag kinds ps ws js ns=0)(h2:¬¬s=0)(h3:(AA ws js ns).length=0):AD bag kinds ps ws js ns s=9:=by unfold AD;rw [if_neg h,if_neg h2,if_pos h3]
theorem openB_4(h:¬¬BZ bag kinds ps ws js ns=0)(h2:¬¬s=0)(h3:¬(AA ws js ns).length=0):AD bag kinds ps ws js ns s=0:=by unfold AD;rw [if_neg h,if_neg h2,if_neg h3]
theorem Eo(h:AD bag kinds ps ws js ns s=0):BV bag kinds ps ws js ns/\s=0/\0<(AA ws js ns).length:=by
 unfold AD at h;split at h
 ·rename_i a;exact absurd h a
 ·split at h
  ·rename_i a b;exact absurd h b
  ·split at h
   ·cases h
   ·rename_i a b c
    exact ⟨Cu (Decidable.not_not.1 a),Decidable.not_not.1 b,aA⟩
theorem w5_eq{p q:AI}(h:(!((p.ways 0==q.ways 0 && (p.ways 1==q.ways 1 && (p.ways 2==q.ways 2 && (p.ways 3==q.ways 3 && (p.ways 4==q.ways 4 && true)))))))=false):p.w5=q.w5:=by
 simp only [Bool.not_eq_false',Bool.and_eq_true,beq_iff_eq,and_true] at h;obtain ⟨e0,e1,e2,e3,e4⟩:=h;simp only [AI.w5,e0,e1,e2,e3,e4]
theorem GD.is{h:GH}{r np:Nat}{ws:List AE}{pq:List AI}{M:E4->Option Int}{k:Nat}(x:Co h r En De M)(hM:GD np ws (pq.take k) M)(hk:pq.length<=k):D4 h r np ws pq:=by
 rw [List.take_of_length_le hk] at hM;exact ⟨true,M,x,hM⟩
theorem RE{a b c d e f w:Value}{r:Nat}(h:w.cells=#[w]):Instr.fill (λx=>#[(0,6),(6,1),(7,1)][x]?) #[.int .i64 0,.int .i64 0,.slice none 0 0,.slice none 0 0,.slice none 0 0,.slice none 0 0,.slice none 0 0,.map none] [(0,.agg #[a,b,c,d,e,f]),(1,w),(2,.map (some r))]=some #[a,b,c,d,e,f,w,.map (some r)]:=by
 have e1:∀cs,(Value.agg cs).cells=cs:=λ_=>rfl;have e2:∀q,(Value.map q).cells=#[.map q]:=λ_=>rfl;simp [Instr.fill,h,e1,e2]
end
end Go.Ns
namespace Go.Ns
open Go.Conc
section
variable {P:Program} {E:GX P} {O:Nat->Value} {ds:List Deferred} {h:GH} {T:(Nat->Value)->List Deferred->GH->Prop}
variable {dst:Option Nat} {ty:TypeId} {pos:String} {af:Array Edge} {gd:Option (Nat×Bool)}
def LV(P:Program)(e:TypeId):Option Nat:=(P.info? e).map (·.bytes)
theorem Si(z:Value)(n:Nat):(Array.range n).map (λi=>(#[z]:Array Value)[i%(#[z]:Array Value).size]!)=Array.replicate n z:=by
 apply Array.ext
 ·simp
 ·intro i h1 h2;simp [Nat.mod_one]
theorem LW{t:TypeId}{l c:Operand}{N by_:Nat}{z:Value}{e:TypeId}(hs:DO P t=some (1,#[z],e))(hby:LV P e=some by_)(hl:AQ O l=.int .i64 N)(hc:AQ O c=.int .i64 N)(hb:by_*N<=281474976710656)(hN2:N<=16777216)
  (k:∀r h',h r=none->h.Le h'->h' r=some (true,.cells (Array.replicate N z) e (0,0))->(∀b,b≠r->h' b=h b)->T (putS O dst (.slice (some ⟨r,0,none⟩) N N)) ds h'):BU E ⟨dst,.makeSlice t l c,ty,pos,af,gd⟩ O ds h T:=by
 unfold BU execOp;refine FS ?_;unfold DO at hs;unfold Instr.makeSlice;rw [hl,hc];cases hu:P.underlying t with
 | none=>rw [hu] at hs;cases hs
 | some d=>
  rw [hu] at hs;cases d <;> first | (cases hs;done) | skip
  rename_i e'
  simp only at hs;cases ht:Cc P e' with
  | none=>rw [ht] at hs;cases hs
  | some x=>
   cases hz:Bu P e' with
   | none=>rw [ht,hz] at hs;cases hs
   | some z'=>
    rw [ht,hz] at hs;simp only [Option.some.injEq,Prod.mk.injEq] at hs;obtain ⟨hx2,rfl,rfl⟩:=hs;refine AH _ _ (Ao hu ?_);refine AH _ _ (Av ?_);refine AH _ _ (Av ?_);unfold LV at hby;unfold Bu at hz;cases hi:P.info? e' with
    | none=>rw [hi] at hz;cases hz
    | some i=>
    rw [hi] at hz hby;simp only [Option.map_some,Option.some.injEq] at hby;simp only [Option.map_eq_some_iff] at hz;obtain ⟨v,hv,hvz⟩:=hz;refine AH _ _ (Cl hi ?_);have hw:IntKind.i64.wrap (N:Int)=N:=IntWalk.i64_in _ aA;simp only [hw,hby];have hb':((by_:Int)*(N:Int))<=281474976710656:=by rw [<-Int.natCast_mul];exact Int.ofNat_le.2 hb
    rw [if_neg (by simp;omega)];simp only [Int.toNat_natCast];have hask:∀(m:Nat)(Q:Unit->GH->Prop),Q () h->(askRoom m).gh P h Q:=λm Q q=>by
     unfold askRoom;split
     ·exact ⟨rfl,q⟩
     ·exact q
    refine AH _ _ (hask _ _ ?_);refine AH _ _ (GG (by rw [ht];rfl) ?_);dsimp only;rw [hx2,Nat.mul_one];by_cases hN:N=0
    ·subst hN;rw [if_pos rfl];refine AH _ _ (Av ?_);rw [show (Array.range 0).map (λi=>(#[]:Array Value)[i%(#[]:Array Value).size]!)=Array.replicate 0 z from aD];refine AH _ _ ?_;unfold newRow;refine AH _ _ (λr hr=>?_);exact k r _ hr (GH.Le.new hr _ _) (GH.set_same _ _ _ _) λb hb=>GH.set_ne _ _ _ hb
    rw [if_neg hN];unfold zeroValue;refine AH _ _ (AH _ _ (AH _ _ (Cl hi ?_)));rw [hv];refine Av ?_;refine AH _ _ (Av ?_);rw [hvz,Si];refine AH _ _ ?_;unfold newRow;refine AH _ _ (λr hr=>?_);exact k r _ hr (GH.Le.new hr _ _) (GH.set_same _ _ _ _) λb hb=>GH.set_ne _ _ _ hb
theorem Jb{V:Type}{enc:V->Array Value}{x:V}{z:Value}(he:enc x=#[z]):∀N:Nat,DT enc (List.replicate N x)=List.replicate N z
 | 0=>rfl
 | N+1=>by
  have:=Jb he N
  unfold DT at this ⊢;rw [List.replicate_succ,List.flatMap_cons,this,he];rfl
theorem AT.made{V:Type}{h h':GH}{r N:Nat}{t:TypeId}{enc:V->Array Value}{x:V}{z:Value}(hr:h r=none)(hb:h' r=some (true,.cells (Array.replicate N z) t (0,0)))(hN:N<=16777216)(he:enc x=#[z]) :
  AT h h' (.slice (some ⟨r,0,none⟩) N N) t 1 enc (List.replicate N x):=
 .inr ⟨r,N,_,by rw [List.length_replicate],hr,hb,aD,aD,by rw [List.length_replicate];omega,by rw [Jb he,List.length_replicate,Nat.mul_one];simp,λy hy=>by rw [(List.mem_replicate.1 hy).2,he];rfl⟩
end
def F0(nj:Nat)(k:Int):Int:=if¬(0<=k/\k<=(nj:Int)-1) then 6 else 0
def Hx(nj:Nat)(l:List Int)(k:Nat):Int:=if¬F0 nj (l.getD k 0)=0 then F0 nj (l.getD k 0) else if (l.take k).any (λx=>decide (l.getD k 0=x))=true then 5 else 0
def Ai(nj:Nat)(l:List Int):Int:=Cv (Hx nj l) 0 l.length
def F1(bag kinds:Int)(ps:List ByteArray)(ws:List AE)(js:List AP)(ns:List AM)(l:List Int):Int:=
 if¬BZ bag kinds ps ws js ns=0 then BZ bag kinds ps ws js ns else Ai js.length l
theorem NI{nj:Nat}{k:Int}(h:F0 nj k=0):0<=k/\k<nj:=by
 unfold F0 at h;split at h
 ·cases h
 ·omega
theorem E5{nj:Nat}{l:List Int}(h:Ai nj l=0)(k:Nat)(hk:k<l.length):0<=l.getD k 0/\l.getD k 0<nj:=by
 have h1:=DK h k (Nat.zero_le _) aA;unfold Hx at h1;split at h1
 ·rename_i a;exact absurd h1 a
 ·rename_i a;exact NI (Decidable.not_not.1 a)
def GP(out ps:List Int):Nat->List Int
 | 0=>out
 | i+1=>(GP out ps i).set i ((GP out ps i).getD i 0+ps.getD i 0)
def Cj(kinds:Int)(js:List AP)(l:List Int):Nat->List Int
 | 0=>List.replicate kinds.toNat 0
 | q+1=>GP (Cj kinds js l q) (js.getD (l.getD q 0).toNat AP.z).parts (js.getD (l.getD q 0).toNat AP.z).parts.length
def DE(kinds:Int)(js:List AP)(l:List Int):List Int:=Cj kinds js l l.length
theorem LX(out ps:List Int):∀i,(GP out ps i).length=out.length
 | 0=>rfl
 | i+1=>by rw [GP,List.length_set,LX out ps i]
theorem Ox(out ps:List Int)(hl:ps.length=out.length):∀i,i<=ps.length->∀j,(GP out ps i).getD j 0=if j<i then out.getD j 0+ps.getD j 0 else out.getD j 0
 | 0,_,j=>by rw [if_neg aA];rfl
 | i+1,h,j=>by
  have e:=Ox out ps hl i aA;have hn:=LX out ps i;unfold GP;rw [List.getD_eq_getElem?_getD,List.getElem?_set];by_cases hij:i=j
  ·subst hij;rw [if_pos rfl,if_pos aA,if_pos aA,Option.getD_some,e i,if_neg aA]
  ·rw [if_neg hij,<-List.getD_eq_getElem?_getD,e j];by_cases h1:j<i
   ·rw [if_pos h1,if_pos aA]
   ·rw [if_neg h1,if_neg aA]
section
variable {bag kinds:Int} {ps:List ByteArray} {ws:List AE} {js:List AP} {ns:List AM} {l:List Int}
theorem Oy(b:BV bag kinds ps ws js ns){k:Int}(h:0<=k/\k<js.length):JobOK ps.length kinds (js.getD k.toNat AP.z):=On (b.job k.toNat aA)
theorem Ir(b:BV bag kinds ps ws js ns):∀q,(Cj kinds js l q).length=kinds.toNat
 | 0=>List.length_replicate
 | q+1=>by rw [Cj,LX,Ir b q]
theorem Km(b:BV bag kinds ps ws js ns)(hr:∀k,k<l.length->0<=l.getD k 0/\l.getD k 0<js.length):∀q,q<=l.length->∀j,0<=(Cj kinds js l q).getD j 0/\(Cj kinds js l q).getD j 0<=5*(q:Int)
 | 0,_,j=>by
  unfold Cj;rw [List.getD_eq_getElem?_getD,List.getElem?_replicate];split <;> simp
 | q+1,h,j=>by
  have e:=Km b hr q aA j;have x:=Oy b (hr q aA);have x2:=x.part j;have x3:=x.len;unfold Cj;rw [Ox _ _ (by rw [Ir b q];omega) _ (Nat.le_refl _)];split <;> omega
theorem addP_rng(b:BV bag kinds ps ws js ns)(hr:∀k,k<l.length->0<=l.getD k 0/\l.getD k 0<js.length){q:Nat}(hq:q<l.length){i:Nat}(hi:i<(js.getD (l.getD q 0).toNat AP.z).parts.length) :
  (GP (Cj kinds js l q) (js.getD (l.getD q 0).toNat AP.z).parts i).length=(js.getD (l.getD q 0).toNat AP.z).parts.length/\0<=(GP (Cj kinds js l q) (js.getD (l.getD q 0).toNat AP.z).parts i).getD i 0/\(GP (Cj kinds js l q) (js.getD (l.getD q 0).toNat AP.z).parts i).getD i 0<=5*(q:Int)/\
  0<=(js.getD (l.getD q 0).toNat AP.z).parts.getD i 0/\(js.getD (l.getD q 0).toNat AP.z).parts.getD i 0<=5:=by
 have x:=Oy b (hr q hq);have e:=Km b hr q aA i;have x3:=x.len;have hl:=Ir (l:=l) b q;refine ⟨by rw [LX,hl];omega,?_⟩;rw [Ox _ _ (by rw [hl];omega) i aA,if_neg aA];exact ⟨e.1,e.2,x.part i⟩
theorem Vi(b:BV bag kinds ps ws js ns):(DE kinds js l).length=kinds.toNat:=Ir b _
theorem Vj(b:BV bag kinds ps ws js ns)(hr:∀k,k<l.length->0<=l.getD k 0/\l.getD k 0<js.length)(j:Nat):0<=(DE kinds js l).getD j 0/\(DE kinds js l).getD j 0<=5*(l.length:Int):=Km b hr _ (Nat.le_refl _) j
theorem sum_take(xs:List Int){k:Nat}(h:k<xs.length):(xs.take (k+1)).sum=(xs.take k).sum+xs.getD k 0:=by
 rw [List.take_add_one,List.sum_append,List.getD_eq_getElem?_getD,List.getElem?_eq_getElem h];simp
theorem sum_all(xs:List Int){k:Nat}(h:xs.length<=k):(xs.take k).sum=xs.sum:=by rw [List.take_of_length_le h]
theorem T3(h:F1 bag kinds ps ws js ns l=0):BV bag kinds ps ws js ns/\∀k,k<l.length->0<=l.getD k 0/\l.getD k 0<js.length:=by
 unfold F1 at h;split at h
 ·rename_i a;exact absurd h a
 ·rename_i a;exact ⟨Cu (Decidable.not_not.1 a),E5 h⟩
def RF(bag kinds:Int)(ps:List ByteArray)(ws:List AE)(js:List AP)(ns:List AM)(l:List Int):List Int:=if¬F1 bag kinds ps ws js ns l=0 then [] else DE kinds js l
def Xc(bag kinds:Int)(ps:List ByteArray)(ws:List AE)(js:List AP)(ns:List AM)(l:List Int):Bool:=if¬F1 bag kinds ps ws js ns l=0 then false else decide ((DE kinds js l).sum<=bag)
end
end Go.Ns
namespace Go.Ns
open Go.Conc
section
variable {P:Program} {E:GX P} {O:Nat->Value} {ds:List Deferred} {h:GH} {T:(Nat->Value)->List Deferred->GH->Prop}
variable {dst:Option Nat} {ty:TypeId} {pos:String} {af:Array Edge} {gd:Option (Nat×Bool)}
theorem Kn{t kt vt:TypeId}{x ix:Operand}{r np:Nat}{ws:List AE}{pq:List AI}{q:AI}{a b:Int}{z:Value}(ht:LH P t=some (kt,vt))(hx:AQ O x=.map (some r))(hk:AQ O ix=En (q.w5,a,b))(hm:D4 h r np ws pq)
  (hc:∀a:E4,ckP P 4 kt (En a)=true)
  (he:∀a b:E4,Nr P 4 kt (En a) (En b)=some ((a.1.1==b.1.1 && (a.1.2.1==b.1.2.1 && (a.1.2.2.1==b.1.2.2.1 && (a.1.2.2.2.1==b.1.2.2.2.1 && (a.1.2.2.2.2==b.1.2.2.2.2 && true))))) && (a.2.1==b.2.1 && (a.2.2==b.2.2 && true))))
  (hz:(P.info? vt).bind (·.zero)=some z) (hq:q ∈ pq) (ha:0<=a/\a<np) (hb:0<=b/\b<np)
  (k:T (putS O dst (.int .i64 (AG np ws q a.toNat b.toNat))) ds h):BU E ⟨dst,.lookup t x ix false,ty,pos,af,gd⟩ O ds h T:=by
 obtain ⟨pm,M,hM,hF⟩:=hm;have e:=hF q hq a.toNat b.toNat aA aA;rw [Int.toNat_of_nonneg ha.1,Int.toNat_of_nonneg hb.1] at e;refine QQ (d:=3) (a:=(q.w5,a,b)) ht hx hk hM rfl (hc _) (λb=>by rw [he,E4.eq_iff]) hz ?_;rw [e];exact k
theorem RG{V:Type}{t:TypeId}{x:Operand}{olo ohi:Option Operand}{n:Nat}{enc:V->Array Value}{xs:List V}{v:Value}{hk:GH}(lo hi:Nat)(ht:Ee P t=some n)(hs:AF hk v n enc xs)(hx:AQ O x=v)
  (hlo:match olo with | none=>lo=0 | some o=>∃kd,AQ O o=.int kd lo) (hhi:match ohi with | none=>hi=xs.length | some o=>∃kd,AQ O o=.int kd hi) (h1:lo<=hi) (h2:hi<=xs.length)
  (k:∀v',AF hk v' n enc ((xs.take hi).drop lo)->T (putS O dst v') ds h):BU E ⟨dst,.slice t x olo ohi none,ty,pos,af,gd⟩ O ds h T:=by
 have hs':=hs;obtain ⟨a,cap,rfl,hc,_,_⟩:=hs';exact J0 lo hi ht hc hx hlo hhi h1 h2 (k _ (hs.part h1 h2))
end
def Sj(F:AI->Int)(l:List AI):Nat->Int
 | 0=>F (l.getD 0 AI.zero)
 | k+1=>min (Sj F l k) (F ((l.drop 1).getD k AI.zero))
def Sm(F:AI->Int)(l:List AI):Nat->Int
 | 0=>F (l.getD 0 AI.zero)
 | k+1=>max (Sm F l k) (F ((l.drop 1).getD k AI.zero))
def Ay(F:AI->Int)(l:List AI):Int:=Sj F l (l.length-1)
def An(F:AI->Int)(l:List AI):Int:=Sm F l (l.length-1)
theorem MK{l:List AI}{k:Nat}(h:k<l.length-1):(l.drop 1).getD k AI.zero ∈ l:=List.mem_of_mem_drop (Bz (by rw [List.length_drop];exact h))
def BO(s v:Int):Int:=if s=0 then v else 0
theorem KQ(v:Int):BO 0 v=v:=if_pos rfl
theorem NJ{s v:Int}(h:¬s=0):BO s v=0:=if_neg h
end Go.Ns
namespace Go.Ns
open Go.Conc
theorem Vk:∀(n m:Nat)(f:Nat->Nat),(∀i,i<m->f i<n)->(∀i j,i<j->j<m->f i≠f j)->m<=n
 | 0,m,f,h,_=>by
  rcases Nat.eq_zero_or_pos m with e | e
  ·omega
  ·exact absurd (h 0 e) (Nat.not_lt_zero _)
 | n+1,m,f,h,d=>by
  rcases Nat.eq_zero_or_pos m with e | e
  ·omega
  ·have x:=Vk n (m-1) (λi=>if f i=n then f (m-1) else f i) (λi hi=>by
    have h1:=h i aA;have h2:=h (m-1) aA;have h3:=d i (m-1) hi aA;show (if f i=n then f (m-1) else f i)<n;split <;> omega) (λi j hij hj=>by
    have h1:=d i j hij aA;have h2:=d i (m-1) aA aA;have h3:=d j (m-1) aA aA;show (if f i=n then f (m-1) else f i)≠(if f j=n then f (m-1) else f j);split <;> split <;> omega)
   omega
theorem IV{nj:Nat}{l:List Int}(h:Ai nj l=0):l.length<=nj:=by
 refine Vk nj l.length (λk=>(l.getD k 0).toNat) (λi hi=>?_) λi j hij hj=>?_
 ·have:=E5 h i hi
  show (l.getD i 0).toNat<nj;omega
 ·have hi:=E5 h i aA;have hj':=E5 h j hj;have h1:=DK h j (Nat.zero_le _) aA;unfold Hx at h1;split at h1
  ·rename_i a;exact absurd h1 a
  ·split at h1
   ·cases h1
   ·rename_i a b
    show (l.getD i 0).toNat≠(l.getD j 0).toNat;intro e;refine b (List.any_eq_true.2 ⟨l.getD i 0,?_,decide_eq_true aA⟩);rw [List.mem_iff_getElem];refine ⟨i,by rw [List.length_take];omega,?_⟩;rw [List.getElem_take,List.getD_eq_getElem?_getD,List.getElem?_eq_getElem aA];rfl
def G1(js:List AP)(l:List Int):Nat->Int
 | 0=>0
 | q+1=>(js.getD (l.getD q 0).toNat AP.z).place
def B9(np:Nat)(ws:List AE)(js:List AP)(p:AI)(l:List Int):Nat->Int
 | 0=>0
 | q+1=>B9 np ws js p l q+(AG np ws p (G1 js l q).toNat (js.getD (l.getD q 0).toNat AP.z).place.toNat+p.works (l.getD q 0).toNat)
def Ep(np:Nat)(ws:List AE)(js:List AP)(p:AI)(l:List Int):Nat->List Int
 | 0=>[]
 | q+1=>Ep np ws js p l q++[B9 np ws js p l (q+1)]
def A1(np:Nat)(ws:List AE)(js:List AP)(p:AI)(l:List Int):Int:=B9 np ws js p l l.length+AG np ws p (G1 js l l.length).toNat 0
theorem Is(np:Nat)(ws:List AE)(js:List AP)(p:AI)(l:List Int):∀q,(Ep np ws js p l q).length=q
 | 0=>rfl
 | q+1=>by rw [Ep,List.length_append,Is np ws js p l q];rfl
theorem Oz(np:Nat)(ws:List AE)(js:List AP)(p:AI)(l:List Int):∀q i,i<q->(Ep np ws js p l q).getD i 0=B9 np ws js p l (i+1)
 | 0,i,h=>absurd h (Nat.not_lt_zero _)
 | q+1,i,h=>by
  have hl:=Is np ws js p l q;rw [Ep,List.getD_eq_getElem?_getD];by_cases e:i<q
  ·rw [List.getElem?_append_left aA,<-List.getD_eq_getElem?_getD];exact Oz np ws js p l q i e
  ·have e2:i=q:=aA
   subst e2;rw [List.getElem?_append_right aA,hl,Nat.sub_self];rfl
section
variable {bag kinds:Int} {ps:List ByteArray} {ws:List AE} {js:List AP} {ns:List AM} {l:List Int} {p:AI}
theorem ML{np:Nat}(hp:B3 p):(AG np ws p).ok:=T0 (Kj hp)
theorem goAt_rng(b:BV bag kinds ps ws js ns)(hr:∀k,k<l.length->0<=l.getD k 0/\l.getD k 0<js.length):∀q,q<=l.length->0<=G1 js l q/\G1 js l q<ps.length
 | 0,_=>by have:=b.plen;show (0:Int)<=0/\(0:Int)<_;omega
 | q+1,h=>by have:=(Oy b (hr q aA)).place;show 0<=(js.getD (l.getD q 0).toNat AP.z).place/\(js.getD (l.getD q 0).toNat AP.z).place<ps.length;omega
theorem RH(hp:B3 p):∀q,0<=B9 ps.length ws js p l q/\B9 ps.length ws js p l q<=1048606*(q:Int)
 | 0=>⟨Int.le_refl 0,Int.le_refl 0⟩
 | q+1=>by
  have e:=RH hp q;have f:=ML (np:=ps.length) (ws:=ws) hp (G1 js l q).toNat (js.getD (l.getD q 0).toNat AP.z).place.toNat;have w:=hp.works (l.getD q 0).toNat;unfold B9;omega
end
end Go.Ns
namespace Go.Ns
open Go.Conc
theorem D4.store{h h':GH}{q r np:Nat}{ws:List AE}{pq:List AI}(x:D4 h r np ws pq)(ho:∀b,b≠q->h' b=h b)(n:r≠q):D4 h' r np ws pq:=by
 obtain ⟨pm,M,⟨es,clk,hb,hl⟩,hM⟩:=x;exact ⟨pm,M,⟨es,clk,(ho r n).trans hb,hl⟩,hM⟩
def eSp(x:Int×Int):Array Value:=#[.int .i64 x.1,.int .i64 x.2]
section
variable (np:Nat) (ws:List AE) (js:List AP) (pq:List AI) (l:List Int)
def endLo(i:Nat):Int:=Ay (λx=>B9 np ws js x l (i+1)) pq
def endHi(i:Nat):Int:=An (λx=>B9 np ws js x l (i+1)) pq
def It:Nat->List (Int×Int)
 | 0=>[]
 | q+1=>It q++[(endLo np ws js pq l q,endHi np ws js pq l q)]
theorem O0:∀q,(It np ws js pq l q).length=q
 | 0=>rfl
 | q+1=>by rw [It,List.length_append,O0 q];rfl
def O1(i:Nat):Bool:=decide (endHi np ws js pq l i<=(js.getD (l.getD i 0).toNat AP.z).due)
def CD(bag kinds:Int):Bool:=decide ((DE kinds js l).sum<=bag) && (List.range l.length).all (O1 np ws js pq l)
variable {np ws js pq l}
theorem YR{q:Nat}(h:¬(js.getD (l.getD q 0).toNat AP.z).due<An (λx=>B9 np ws js x l ((q:Int).toNat+1)) pq):O1 np ws js pq l q=true:=decide_eq_true (Int.not_lt.1 h)
theorem YS{q:Nat}(h:(js.getD (l.getD q 0).toNat AP.z).due<An (λx=>B9 np ws js x l ((q:Int).toNat+1)) pq):O1 np ws js pq l q=false:=decide_eq_false (Int.not_le.2 h)
variable {bag kinds:Int}
theorem Vl(h:¬(DE kinds js l).sum<=bag):CD np ws js pq l bag kinds=false:=by unfold CD;rw [decide_eq_false h];rfl
theorem YT{k:Nat}(hk:k<l.length)(h:(js.getD (l.getD k 0).toNat AP.z).due<An (λx=>B9 np ws js x l ((k:Int).toNat+1)) pq):CD np ws js pq l bag kinds=false:=by
 unfold CD;rw [Bool.and_eq_false_iff];refine .inr (Bool.eq_false_iff.2 λe=>?_)
 have:=List.all_eq_true.1 e k (List.mem_range.2 hk)
 rw [YS h] at this;cases this
theorem safe_all{k:Nat}(h:¬¬(DE kinds js l).sum<=bag)(hs:∀j,j<k->O1 np ws js pq l j=true)(hk:l.length<=k):CD np ws js pq l bag kinds=true:=by
 unfold CD;rw [decide_eq_true (Decidable.not_not.1 h),Bool.true_and];exact List.all_eq_true.2 λj hj=>hs j (by have:=List.mem_range.1 hj;omega)
end
def Dh:Nat->List Int
 | 0=>[]
 | k+1=>Dh k++[(k:Int)]
theorem Dx:∀n,(Dh n).length=n
 | 0=>rfl
 | n+1=>by rw [Dh,List.length_append,Dx n];rfl
def Eq(nj:Nat)(l:List Int)(i:Int):Int:=if¬Ai nj l=0 then Ai nj l else if¬(0<=i/\i<=(l.length:Int)-1) then 1 else 0
theorem T4{nj:Nat}{l:List Int}{i:Int}(h:Eq nj l i=0):Ai nj l=0/\0<=i/\i<l.length:=by
 unfold Eq at h;split at h
 ·rename_i a;exact absurd h a
 ·rename_i a
  split at h
  ·cases h
  ·exact ⟨Decidable.not_not.1 a,aA⟩
section
variable (bag kinds:Int) (ps:List ByteArray) (ws:List AE) (js:List AP) (ns:List AM) (l:List Int)
def RI:List (Int×Int):=if¬AD bag kinds ps ws js ns (Ai js.length l)=0 then [] else It ps.length ws js (AA ws js ns) l l.length
def Xd:Bool:=if¬AD bag kinds ps ws js ns (Ai js.length l)=0 then false else CD ps.length ws js (AA ws js ns) l bag kinds
def KR(i:Int):Int:=
 if¬AD bag kinds ps ws js ns (Eq js.length l i)=0 then 0 else if (js.getD (l.getD i.toNat 0).toNat AP.z).due<endLo ps.length ws js (AA ws js ns) l i.toNat then 1
 else if endHi ps.length ws js (AA ws js ns) l i.toNat<=(js.getD (l.getD i.toNat 0).toNat AP.z).due then 2 else 0
variable {bag kinds ps ws js ns l} {i:Int}
theorem late_yes(h0:AD bag kinds ps ws js ns (Eq js.length l i)=0)(h:(js.getD (l.getD i.toNat 0).toNat AP.z).due<Ay (λx=>B9 ps.length ws js x l (i.toNat+1)) (AA ws js ns)):(1:Int)=KR bag kinds ps ws js ns l i:=by
 unfold KR;rw [if_neg (λx=>x h0)];exact (if_pos h).symm
theorem late_no(h0:AD bag kinds ps ws js ns (Eq js.length l i)=0)(h:¬(js.getD (l.getD i.toNat 0).toNat AP.z).due<Ay (λx=>B9 ps.length ws js x l (i.toNat+1)) (AA ws js ns))
  (h2:An (λx=>B9 ps.length ws js x l (i.toNat+1)) (AA ws js ns)<=(js.getD (l.getD i.toNat 0).toNat AP.z).due):(2:Int)=KR bag kinds ps ws js ns l i:=by
 unfold KR;rw [if_neg (λx=>x h0)];exact ((if_neg h).trans (if_pos h2)).symm
theorem YU(h0:AD bag kinds ps ws js ns (Eq js.length l i)=0)(h:¬(js.getD (l.getD i.toNat 0).toNat AP.z).due<Ay (λx=>B9 ps.length ws js x l (i.toNat+1)) (AA ws js ns))
  (h2:¬An (λx=>B9 ps.length ws js x l (i.toNat+1)) (AA ws js ns)<=(js.getD (l.getD i.toNat 0).toNat AP.z).due):(0:Int)=KR bag kinds ps ws js ns l i:=by
 unfold KR;rw [if_neg (λx=>x h0)];exact ((if_neg h).trans (if_neg h2)).symm
theorem late_bad(h0:¬AD bag kinds ps ws js ns (Eq js.length l i)=0):(0:Int)=KR bag kinds ps ws js ns l i:=by unfold KR;rw [if_pos h0]
end
end Go.Ns
namespace Go.Ns
open Go.Conc
def Ge(i:Nat)(pq:List AI):Nat->List Int
 | 0=>[]
 | k+1=>Ge i pq k++[(pq.getD k AI.zero).works i]
theorem Gp(i:Nat)(pq:List AI):∀k,(Ge i pq k).length=k
 | 0=>rfl
 | k+1=>by rw [Ge,List.length_append,Gp i pq k];rfl
theorem O2{i:Nat}{pq:List AI}{k:Nat}(h:0<k):Ge i pq k≠[]:=λe=>by
 have:=Gp i pq k
 rw [e] at this;simp at this;omega
def MM(bag kinds:Int)(ps:List ByteArray)(ws:List AE)(js:List AP)(ns:List AM)(i:Int):List Int:=
 if¬AD bag kinds ps ws js ns (F0 js.length i)=0 then [] else Db (Eb (Ge i.toNat (AA ws js ns) (AA ws js ns).length))
end Go.Ns
namespace Go.Ns
open Go.Conc
theorem T5{h:GH}{r:Nat}{M:Int->Option Int}(x:Co h r De De M):∃y,h r=some y:=by
 obtain ⟨es,clk,hb,_⟩:=x;exact ⟨_,hb⟩
def Dg(ns:List AM)(mask:Int)(k:Nat):List AM:=((List.range k).filter (M4 mask)).map λ(i:Nat)=>ns.getD i AM.z
section
variable {ns:List AM} {mask:Int} {k:Nat} {h:GH}
theorem pickN_t(hb:mask.fdiv (2 ^ k)%2=1):Dg ns mask (k+1)=Dg ns mask k++[ns.getD k AM.z]:=by
 unfold Dg;rw [JR (by unfold M4;rw [decide_eq_true hb]),List.map_append];rfl
theorem pickN_f(hb:¬mask.fdiv (2 ^ k)%2=1):Dg ns mask (k+1)=Dg ns mask k:=by
 unfold Dg;rw [JS (by unfold M4;rw [decide_eq_false hb])]
theorem RJ(ns:List AM)(mask:Int)(k:Nat):(Dg ns mask k).length<=k:=by
 unfold Dg;rw [List.length_map]
 have:=List.length_filter_le (M4 mask) (List.range k)
 rwa [List.length_range] at this
theorem T6(ns:List AM)(mask:Int)(k q:Nat)(hq:q<(Dg ns mask k).length):∃i,i<k/\(Dg ns mask k).getD q AM.z=ns.getD i AM.z:=by
 have hm:(Dg ns mask k).getD q AM.z ∈ Dg ns mask k:=Bz hq;unfold Dg at hm ⊢;obtain ⟨i,hi,e⟩:=List.mem_map.1 hm;exact ⟨i,List.mem_range.1 (List.mem_filter.1 hi).1,e.symm⟩
theorem AX.pick(x:AX h ns)(mask:Int)(k:Nat):AX h (Dg ns mask k):=λq=>by
 by_cases hq:q<(Dg ns mask k).length
 ·obtain ⟨i,_,e⟩:=T6 ns mask k q hq;rw [e];exact x i
 ·rw [List.getD_eq_getElem?_getD,List.getElem?_eq_none aA];exact AX.nil h 0
theorem AX.fine1(x:AX h ns)(k:Nat):(At (ns.getD k AM.z)).toList.all (·.oneCell')=true:=by
 show (((ns.getD k AM.z).wv.oneCell') && (true && (true && true)))=true;rw [(AF.one (x k)).2];rfl
theorem AX.fine(x:AX h ns):∀y ∈ ns,(At y).toList.all (·.oneCell')=true:=λy hy=>by
 obtain ⟨i,hi,e⟩:=List.mem_iff_getElem.1 hy
 have:=x.fine1 i
 rw [List.getD_eq_getElem?_getD,List.getElem?_eq_getElem hi] at this;rw [<-e];exact this
theorem Sn{nw:Nat}{ns ns':List AM}{k i:Nat}(e:ns'.getD k AM.z=ns.getD i AM.z):Dw nw ns' k=Dw nw ns i:=by unfold Dw;rw [e]
theorem BV.pick{bag kinds:Int}{ps:List ByteArray}{ws:List AE}{js:List AP}(b:BV bag kinds ps ws js ns)(mask:Int):BV bag kinds ps ws js (Dg ns mask ns.length):=
 { b with
  nlen:=Nat.le_trans (RJ ns mask ns.length) b.nlen
  note:=λk hk=>by
   obtain ⟨i,hi,e⟩:=T6 ns mask ns.length k hk;rw [Sn e];exact b.note i hi }
end
section
variable (ws:List AE) (js:List AP) (ns:List AM)
def FX(x:Bool×List Int)(l:List Int):Bool:=x.1 && (decide ((x.2.length:Int)<l.length) || (decide ((l.length:Int)=x.2.length) && decide (0<Tg l x.2)))
def B8:Nat->Bool×List Int
 | 0=>(false,[])
 | q+1=>if FX (B8 q) (Df (q:Int) ns.length)=true then B8 q else if (AA ws js (Dg ns (q:Int) ns.length)).length=0 then (true,Df (q:Int) ns.length) else B8 q
variable {ws js ns} {q:Nat}
theorem Hy(h:FX (B8 ws js ns q) (Df (q:Int) ns.length)=true):B8 ws js ns (q+1)=B8 ws js ns q:=if_pos h
theorem NK(h:FX (B8 ws js ns q) (Df (q:Int) ns.length)=false)(h2:((AA ws js (Dg ns (q:Int) ns.length)).length:Int)=0):B8 ws js ns (q+1)=(true,Df (q:Int) ns.length):=by
 rw [B8,if_neg (by rw [h];simp),if_pos aA]
theorem NL(h:FX (B8 ws js ns q) (Df (q:Int) ns.length)=false)(h2:¬((AA ws js (Dg ns (q:Int) ns.length)).length:Int)=0):B8 ws js ns (q+1)=B8 ws js ns q:=by
 rw [B8,if_neg (by rw [h];simp),if_neg aA]
theorem YV{x:Bool×List Int}{l:List Int}(h:x.1=false):FX x l=false:=by unfold FX;rw [h];rfl
theorem YW{x:Bool×List Int}{l:List Int}(h:¬(x.2.length:Int)<l.length)(h2:¬(l.length:Int)=x.2.length):FX x l=false:=by
 unfold FX;rw [decide_eq_false h,decide_eq_false h2];simp
theorem YX{x:Bool×List Int}{l:List Int}(h:¬(x.2.length:Int)<l.length)(h2:¬0<Tg l x.2):FX x l=false:=by
 unfold FX;rw [decide_eq_false h,decide_eq_false h2];simp
theorem RK{x:Bool×List Int}{l:List Int}(h:x.1=true)(h1:(x.2.length:Int)<l.length):FX x l=true:=by
 unfold FX;rw [h,decide_eq_true h1];simp
theorem RL{x:Bool×List Int}{l:List Int}(h:x.1=true)(h1:(l.length:Int)=x.2.length)(h2:0<Tg l x.2):FX x l=true:=by
 unfold FX;rw [h,decide_eq_true h1,decide_eq_true h2];simp
theorem pow_16:∀{n:Nat},n<=4->(1:Int)<=(2:Int) ^ n/\(2:Int) ^ n<=16
 | 0,_=>aC
 | 1,_=>aC
 | 2,_=>aC
 | 3,_=>aC
 | 4,_=>aC
theorem O3:∀q,(B8 ws js ns q).2.length<=ns.length
 | 0=>Nat.zero_le _
 | q+1=>by
  have e:=O3 q;unfold B8;split
  ·exact e
  ·split
   ·exact QX _ _
   ·exact e
def Gf(bag kinds:Int)(ps:List ByteArray)(ws:List AE)(js:List AP)(ns:List AM):List Int:=
 if¬BZ bag kinds ps ws js ns=0 then [] else if (0:Int)<(AA ws js ns).length then [] else (B8 ws js ns (2 ^ ns.length)).2
end
section
variable {bag kinds:Int} {ps:List ByteArray} {ws:List AE} {js:List AP} {ns:List AM} {q:Nat}
theorem T7(h:¬BZ bag kinds ps ws js ns=0):Gf bag kinds ps ws js ns=[]:=if_pos h
theorem Ss(h:(0:Int)<(AA ws js ns).length):Gf bag kinds ps ws js ns=[]:=by
 unfold Gf;rw [if_pos h];exact ite_self _
theorem T8(h:BZ bag kinds ps ws js ns=0)(h1:¬(0:Int)<(AA ws js ns).length)(hq:¬(q:Int)<(2:Int) ^ ((ns.length:Int)).toNat)(hq2:(q:Int)<=(2:Int) ^ ((ns.length:Int)).toNat):Gf bag kinds ps ws js ns=(B8 ws js ns q).2:=by
 have e:((2 ^ ns.length:Nat):Int)=(2:Int) ^ ((ns.length:Int)).toNat:=by rw [Int.toNat_natCast,Int.natCast_pow];rfl
 rw [<-e] at hq hq2
 have:2 ^ ns.length=q:=aA
 unfold Gf;rw [if_neg (λx=>x h),if_neg h1,this]
end
section
variable (ws:List AE) (js:List AP) (ns:List AM)
abbrev KI(pq:List AI)(i:Nat):Nat->Int:=λk=>(pq.getD k AI.zero).ways i
def T9(pq:List AI)(i:Nat):Int:=KO (KI pq i) pq.length
def HG(pq:List AI)(k:Nat):Int×Int:=askTo (T9 pq) (pq.length:Int) k
theorem RM{pq:List AI}{k:Nat}(h:T9 pq k<(HG pq k).2):HG pq (k+1)=((k:Int),T9 pq k):=if_pos h
theorem RN{pq:List AI}{k:Nat}(h:¬T9 pq k<(HG pq k).2):HG pq (k+1)=HG pq k:=if_neg h
def St(bag kinds:Int)(ps:List ByteArray)(ws:List AE)(js:List AP)(ns:List AM):Int:=if¬AD bag kinds ps ws js ns 0=0 then 0 else (HG (AA ws js ns) ws.length).1
def Nz(bag kinds:Int)(ps:List ByteArray)(ws:List AE)(js:List AP)(ns:List AM):Int:=if¬AD bag kinds ps ws js ns 0=0 then 0 else (HG (AA ws js ns) ws.length).2
end
end Go.Ns
namespace Go.Ns
open Go.Conc
def P6(hs:GH)(k0 ln:Nat)(c:Array Value)(t:TypeId)(k:Nat)(v:Value)(h:GH):Prop:=k=k0->∃r,v=.slice (some ⟨r,0,none⟩) ln ln/\hs r=none/\h r=some (true,.cells c t (0,0))
theorem P6.mono(hs:GH)(k0 ln:Nat)(c:Array Value)(t:TypeId):∀k v h1 h2,GH.Le h1 h2->P6 hs k0 ln c t k v h1->P6 hs k0 ln c t k v h2:=λ_ _ _ _ l x e=>by
 obtain ⟨r,q1,q2,q3⟩:=x e;exact ⟨r,q1,q2,l.keep q3 rfl⟩
theorem RO{P:Program}{E:GX P}{O:Nat->Value}{ds:List Deferred}{hs hx:GH}{dst:Option Nat}{ty:TypeId}{pos:String}{af:Array Edge}{gd:Option (Nat×Bool)}{t:TypeId}{len n k0 k:Nat}{z cells:Array Value}{e:TypeId}{parts:Array (Nat×Operand)}
  (h0:DO P t=some (n,z,e)) (hl:len*n<=2 ^ 24) (hn:(len*n=0)=False) (hf:Instr.fill (λi=>some (i*n,n)) ((Array.range (len*n)).map (z[·%z.size]!)) (parts.map λ(i,x)=>(i,AQ O x)).toList=some cells) (l:hs.Le hx) :
  BU E ⟨dst,.buildSlice t len parts,ty,pos,af,gd⟩ O ds hx λσ' ds' h'=>ds'=ds/\∃v,σ'=putS O dst v/\hx.Le h'/\P6 hs k0 len cells e k v h':=
 AZ h0 hl hn hf λr h' hr le bx _=>⟨rfl,_,rfl,le,λ_=>⟨r,rfl,GH.Le.nothing l hr,bx⟩⟩
def LfW(hs:GH)(k0 ln:Nat)(c:Array Value)(t:TypeId)(n:Nat)(Fr:GH->Prop)(k:Nat)(v:Value)(h:GH):Prop:=P6 hs k0 ln c t k v h/\(k=n->Fr h)
theorem LfW.mono(hs:GH)(k0 ln:Nat)(c:Array Value)(t:TypeId)(n:Nat){Fr:GH->Prop}(m:∀h1 h2,GH.Le h1 h2->Fr h1->Fr h2):∀k v h1 h2,GH.Le h1 h2->LfW hs k0 ln c t n Fr k v h1->LfW hs k0 ln c t n Fr k v h2:=λ_ _ _ _ l x=>⟨P6.mono _ _ _ _ _ _ _ _ _ l x.1,λe=>m _ _ l (x.2 e)⟩
theorem Vm{P:Program}{E:GX P}{O:Nat->Value}{ds:List Deferred}{hs hx:GH}{dst:Option Nat}{ty:TypeId}{pos:String}{af:Array Edge}{gd:Option (Nat×Bool)}{t:TypeId}{len n k0 N:Nat}{z cells:Array Value}{e:TypeId}{parts:Array (Nat×Operand)}{Fr:GH->Prop}(hk:k0≠N)
  (h0:DO P t=some (n,z,e)) (hl:len*n<=2 ^ 24) (hn:(len*n=0)=False) (hf:Instr.fill (λi=>some (i*n,n)) ((Array.range (len*n)).map (z[·%z.size]!)) (parts.map λ(i,x)=>(i,AQ O x)).toList=some cells) (l:hs.Le hx) :
  BU E ⟨dst,.buildSlice t len parts,ty,pos,af,gd⟩ O ds hx λσ' ds' h'=>ds'=ds/\∃v,σ'=putS O dst v/\hx.Le h'/\LfW hs k0 len cells e N Fr k0 v h':=
 AZ h0 hl hn hf λr h' hr le bx _=>⟨rfl,_,rfl,le,λ_=>⟨r,rfl,GH.Le.nothing l hr,bx⟩,λe=>absurd e hk⟩
theorem tFg{P:Program}{E:GX P}{l:List Oper}{n:Nat}{fl:Bool}{hs:GH}{ds:List Deferred}{Lw:Nat->Value->GH->Prop}{F:(Nat->Value)->GH->Prop}{π:List Nat}{O:Nat->Value}{h:GH}{m k g d:Nat}{dst:Option Nat}{op:Op}{ty:TypeId}{pos:String}{af:Array Edge}{v:Value}{w:Bool}{og:Oper}
  (hk:KE m=(.p,k)) (ho:l[k]? =some ⟨dst,op,ty,pos,af,some (g,w)⟩) (h1:l[g]? =some og) (h2:og.dst=some d) (h3:O d=.bool w) (x:∀hx,Lw n undef hx->SI E ⟨dst,op,ty,pos,af,some (g,w)⟩ O ds hx v)
  (y:TD E l n fl hs ds Lw F (dK π) (putS O dst v) h):TD E l n fl hs ds Lw F (dK (m ::π)) O h:=by
 unfold dK;rw [hk];exact ⟨_,true,ho,HD h1 h2 h3,λe=>(by cases e),λ_=>⟨v,x,y⟩⟩
theorem tWLg{P:Program}{E:GX P}{l:List Oper}{n:Nat}{hs:GH}{ds:List Deferred}{Lw:Nat->Value->GH->Prop}{F:(Nat->Value)->GH->Prop}{π:List Nat}{O:Nat->Value}{h:GH}{m k g d:Nat}{dst:Option Nat}{op:Op}{ty:TypeId}{pos:String}{af:Array Edge}{w:Bool}{og:Oper}(hk:KE m=(.w,k))(ho:l[k]? =some ⟨dst,op,ty,pos,af,some (g,w)⟩)(h1:l[g]? =some og)(h2:og.dst=some d)(h3:O d=.bool w)
  (x:BU E ⟨dst,op,ty,pos,af,some (g,w)⟩ O ds h λσ' ds' h'=>ds'=ds/\∃v,σ'=putS O dst v/\Lw n undef h'/\TD E l n false hs ds Lw F (dK π) (putS O dst v) h'):TD E l n false hs ds Lw F (dK (m ::π)) O h:=by
 unfold dK;rw [hk];exact ⟨_,true,ho,HD h1 h2 h3,λe=>(by cases e),λ_ hx hg=>by rw [hg.2 rfl];exact x⟩
def Ty(h:GH)(t:TypeId)(v:Value):Prop:=∀b,Cb v=some b->∃p c f,h b=some (p,.cells c t f)
def D1(h:GH)(t:TypeId)(v:Value)(xs:List Int):Prop:=AF h v 1 eI xs/\Ty h t v
theorem D1.le{h h':GH}{t:TypeId}{v:Value}{xs:List Int}(x:D1 h t v xs)(l:h.Le h'):D1 h' t v xs:=⟨x.1.le l,λb hb=>by
 obtain ⟨p,c,f,q⟩:=x.2 b hb;exact ⟨p,c,f,l.keep q rfl⟩⟩
theorem D1.nil(h:GH)(t:TypeId):D1 h t (.slice none 0 0) []:=⟨AF.nil _ _ _,λb hb=>by cases hb⟩
theorem D1.own{h0 h:GH}{t:TypeId}{v:Value}{xs:List Int}(o:AT h0 h v t 1 eI xs):D1 h t v xs:=⟨o.sl,λb hb=>by
 rcases o with ⟨rfl,_⟩ | ⟨b1,cap,c,rfl,_,h2,_⟩
 ·cases hb
 ·simp only [Cb,Option.some.injEq] at hb;subst hb;exact ⟨_,_,_,h2⟩⟩
theorem D1.same{h h':GH}{t:TypeId}{w:Value}{xs:List Int}(x:D1 h t w xs)(key:∀b,Cb w=some b->h' b=h b):D1 h' t w xs:=by
 refine ⟨?_,λb hb=>by rw [key b hb];exact x.2 b hb⟩;obtain ⟨a,cap,hv,hc,hm,he⟩:=x.1;refine ⟨a,cap,hv,hc,hm,λi hi=>?_⟩;obtain ⟨b,off,h1,h2⟩:=he i hi;exact ⟨b,off,h1,h2.same (key b (by rw [hv,h1];rfl))⟩
theorem D1.keepX{X:Nat->Prop}{h h':GH}{t:TypeId}{w:Value}{xs:List Int}(x:D1 h t w xs)(k:Ba X h h')(n:∀b,Cb w=some b->¬X b):D1 h' t w xs:=
 x.same λb hb=>by
  obtain ⟨p,c,f,q⟩:=x.2 b hb;rw [q];exact k.box q (n b hb) rfl
theorem D1.store{h h':GH}{t t':TypeId}{w:Value}{xs:List Int}{r:Nat}{p:Bool}{c:Array Value}{f:Nat×Nat}(x:D1 h t w xs)(hr:h r=some (p,.cells c t' f))(ne:t'≠t)(ho:∀b,b≠r->h' b=h b):D1 h' t w xs:=
 x.same λb hb=>ho b λe=>by
  obtain ⟨p2,c2,f2,q⟩:=x.2 b hb;rw [e,hr] at q;cases q;exact ne rfl
def CX(h:GH)(t:TypeId)(l:List Sl):Prop:=∀k,D1 h t (l.getD k Sl.z).1 (l.getD k Sl.z).2
theorem CX.le{h h':GH}{t:TypeId}{l:List Sl}(x:CX h t l)(e:h.Le h'):CX h' t l:=λk=>(x k).le e
theorem CX.nil(h:GH)(t:TypeId):CX h t []:=λk=>by
 rw [CK aD];exact D1.nil _ _
theorem O4{V:Type}(z:V)(a b:List V)(k:Nat):(a++b).getD k z=if k<a.length then a.getD k z else b.getD (k-a.length) z:=by
 simp only [List.getD_eq_getElem?_getD,List.getElem?_append];split <;> rfl
theorem CX.app{h:GH}{t:TypeId}{l l':List Sl}(a:CX h t l)(b:CX h t l'):CX h t (l++l'):=λk=>by
 rw [O4];split
 ·exact a k
 ·exact b _
theorem CX.one{h:GH}{t:TypeId}{x:Sl}(a:D1 h t x.1 x.2):CX h t [x]:=λk=>by
 cases k with
 | zero=>exact a
 | succ k=>rw [CK aD];exact D1.nil _ _
theorem MN(a b:List Sl):A4 (a++b)=A4 a++A4 b:=by simp [A4]
section
variable {V:Type} {hB:GH} {I:List V->(Nat->Prop)->GH->Prop} {S:GH->Prop} {X0 X X1:Nat->Prop} {h hc h':GH} {pre l:List V} {v v':Value}
def Iu(hB:GH)(X0 X:Nat->Prop)(h:GH)(v:Value):Prop:=∀b,Cb v=some b->¬X b/\(X0 b\/h b=none)/\hB b=none
theorem EL.old(y:EL hB I X0 h pre X hc){b:Nat}(e:hc b=none):X0 b\/h b=none:=by
 by_cases q:X0 b
 ·exact .inl q
 ·refine .inr ?_;cases hb:h b with
  | none=>rfl
  | some x=>
   obtain ⟨o',h1,_⟩:=y.keep b x.1 x.2 hb q;rw [e] at h1;cases h1
theorem EL.fresh(P:F9 hB I)(y:EL hB I X0 h pre X hc)(o:∀b,Cb v=some b->hc b=none):Iu hB X0 X h v:=λb hb=>⟨P.off y.inv (o b hb),y.old (o b hb),y.base.nothing (o b hb)⟩
theorem Iu.grown(f:Iu hB X0 X h v)(P:F9 hB I)(y:EL hB I X0 h pre X hc)(g:HV hc h' v v'):Iu hB X0 X h v':=λb hb=>by
 rcases g.2 with e | ⟨⟨r,e1,e2⟩,_⟩
 ·exact f b (e▸hb)
 ·rw [e1] at hb;cases hb;exact ⟨P.off y.inv e2,y.old e2,y.base.nothing e2⟩
theorem EL.app(P:F9 hB I)(y:EL hB I X0 h pre X hc)(g:HV hc h' v v')(f:Iu hB X0 X h v):EL hB I X0 h pre X h':=by
 have lB:hB.Le h':=λb p o hb=>by
  obtain ⟨o1,h1,h2⟩:=y.base b p o hb;exact ⟨o1,g.1 b _ h1 λe=>(by rw [(f b e).2.2] at hb;cases hb),h2⟩
 refine ⟨P.stable _ _ hc h' y.inv (λb hb=>?_) lB,y.sub,λb p o hb hn=>?_,lB⟩
 ·obtain ⟨p,o,h1,_⟩:=P.dom _ _ _ b y.inv hb;rw [h1];exact g.1 b _ h1 λe=>(f b e).1 hb
 ·obtain ⟨o1,h1,h2⟩:=y.keep b p o hb hn;exact ⟨o1,g.1 b _ h1 λe=>(f b e).2.1.elim hn λq=>(by rw [q] at hb;cases hb),h2⟩
theorem EL.callL(y:EL hB I X0 h pre X hc)(f:Iu hB X0 X h v){u:Value}(r:EY hB I S pre (λb=>X b\/Cb v=some b) hc l u h') :
  ∃ok X',u=.bool ok/\(∀b,X' b->(X b\/Cb v=some b)\/hc b=none)/\Ba (λb=>X b\/Cb v=some b) hc h'/\(ok=true->EL hB I X0 h (pre++l) X' h')/\(ok=false->∀l',EY hB I S pre X0 h l' (.bool false) h'):=by
 obtain ⟨ok,X',hv,hs,hk,hl,h1,h2⟩:=r;have s:∀b,(X b\/Cb v=some b)->X0 b\/h b=none:=λb q=>q.elim (y.sub b) λe=>(f b e).2.1;have kk:Ba X0 h h':=y.keep.trans s hk;have ss:=subX s y.keep hs;exact ⟨ok,X',hv,hs,hk,λe=>⟨h1 e,ss,kk,hl⟩,λe l'=>⟨false,X',rfl,ss,kk,hl,(λx=>by cases x),λ_=>h2 e⟩⟩
end
structure O5{P:Program}(W:Wk P)(hB:GH)(yv:Value)(t:TypeId)(I:List (List Int)->(Nat->Prop)->GH->Prop)(S:GH->Prop)(all:List (List Int)):Prop where
 prom:F9 hB I
 one:yv.cells=#[yv]
 call:∀pre p post X h v,all=pre++p ::post->I pre X h->hB.Le h->D1 h t v p->(∀b,Cb v=some b->¬X b/\hB b=none)->By W yv #[v] h (EY hB I S pre (λb=>X b\/Cb v=some b) h [p])
section
variable {P:Program} {E:GX P} {O:Nat->Value} {ds:List Deferred}
theorem RP{t0:TypeId}{all:List (List Int)}{hB hc:GH}{J:List (List Int)->(Nat->Prop)->GH->Prop}{Stop:Code->GH->Prop}{Y0:Nat->Prop}{par:Tmp}{f:Operand}{assign body:Code}{Q:Post}
  (hrd:E.rd=none) (hpar:Nat.blt par E.N=true) (hJ:F9 hB J) (hB0:hB.Le hc) (j0:J [] Y0 hc)
  (hS:∀c (h h':GH) l lo,Stop c h->h l=some (true,.loop lo)->(∀b,b≠l->h' b=h b)->Stop c h')
  (src:∀(yv:Value)(I:List (List Int)->(Nat->Prop)->GH->Prop)(Sp:GH->Prop)(X:Nat->Prop)(h:GH),O5 E.wk hB yv t0 I Sp all->hB.Le h->I [] X h->By E.wk (AQ O f) #[yv] h λ_ h'=>YEnd hB I Sp all X h h')
  (round:∀(l d:Nat)(lo:Loop)(pre:List (List Int))(p:List Int)(post:List (List Int))(Y:Nat->Prop)(h:GH)(v:Value),all=pre++p ::post->J pre Y h->hB.Le h->hB l=none->¬Y l->h l=some (true,.loop lo)->D1 h t0 v p->(∀b,Cb v=some b->¬Y b/\hB b=none)->
   Tr ⟨E.wk,E.fn,some l,E.N⟩ assign (upd O par v) [] h λe σ' ds' h1=>e=.normal/\h1 l=some (true,.loop lo)/\∀h2,h2 l=some (true,.loop { lo with state:=.busy })->(∀b,b≠l->h2 b=h1 b)->
    Tr ⟨E.wk,E.fn,some l,E.N⟩ body σ' ds' h2 (Tf hB J Stop (pre++[p]) (λb=>Y b\/Cb v=some b) h l lo))
  (fin:∀(d l:Nat)(h':GH),hB.Le h'->hB d=none->hB l=none->hc d=none->h' d=some (true,.deferred (some []))->
   (∀Y,J all Y h'->(∀b,Y b->b≠d)->Q .normal O ({ target:=.collected d,args:=#[] } ::ds) h')/\
   (∀c,Stop c h'->match c with
    | .exit id=>Q (.exit id) O ({ target:=.collected d,args:=#[] } ::ds) h'
    | .ret=>Q .ret O ({ target:=.collected d,args:=#[] } ::ds) h'
    | _=>False)):Tr E (.rangeFunc f #[par] assign body) O ds hc Q:=by
 refine LJ hrd λt d l hs hd hl hne=>?_;have hl':hB l=none:=hB0.nothing hl;have hd':hB d=none:=hB0.nothing hd;let lo:Loop:={ state:=.ready,pending:=none,fn:=E.fn,tmps:=t,params:=#[par],assign,body,defers:=d };have nYl:¬Y0 l:=hJ.off j0 hl;have nYd:¬Y0 d:=hJ.off j0 hd;have hL1:((hc.set d true (.deferred (some []))).set l true (.loop lo)) l=some (true,.loop lo):=GH.set_same _ _ _ _;have hL2:((hc.set d true (.deferred (some []))).set l true (.loop lo)) d=some (true,.deferred (some [])):=by rw [GH.set_ne _ _ _ (Ne.symm hne)];exact GH.set_same _ _ _ _
 have hL3:∀b,b≠l->b≠d->((hc.set d true (.deferred (some []))).set l true (.loop lo)) b=hc b:=λb h1 h2=>by rw [GH.set_ne _ _ _ h1,GH.set_ne _ _ _ h2]
 have hLB:hB.Le ((hc.set d true (.deferred (some []))).set l true (.loop lo)):=(hB0.trans (GH.Le.new hd _ _)).trans (GH.Le.new (by rw [GH.set_ne _ _ _ hne];exact hl) _ _);have hI0:M3 J l d lo [] (λb=>Y0 b\/b=l\/b=d) ((hc.set d true (.deferred (some []))).set l true (.loop lo)):=by
  refine ⟨Y0,hJ.stable _ _ hc _ j0 (λb hb=>hL3 b (λe=>nYl (e▸hb)) (λe=>nYd (e▸hb))) hLB,λb=>Iff.rfl,nYl,nYd,hL1,hL2⟩
 have prom:F9 hB (M3 J l d lo):=by
  refine ⟨?_,?_⟩
  ·rintro pre X h b ⟨Y,j,hX,_,_,h1,h2⟩ hb;rcases (hX b).1 hb with h3 | rfl | rfl
   ·exact hJ.dom _ _ _ _ j h3
   ·exact ⟨_,_,h1,rfl⟩
   ·exact ⟨_,_,h2,rfl⟩
  ·rintro pre X h h' ⟨Y,j,hX,n1,n2,h1,h2⟩ same lB;refine ⟨Y,hJ.stable _ _ h h' j (λb hb=>same b ((hX b).2 (.inl hb))) lB,hX,n1,n2,?_,?_⟩
   ·rw [same l ((hX l).2 (.inr (.inl rfl)))];exact h1
   ·rw [same d ((hX d).2 (.inr (.inr rfl)))];exact h2
 have yk:O5 E.wk hB (.func (.yield l) #[] #[]) t0 (M3 J l d lo) (QV Stop l d lo) all:=by
  refine ⟨prom,rfl,?_⟩;rintro pre p post X h v hall ⟨Y,j,hX,n1,n2,h1,h2⟩ lB hsv hvX;have nvl:Cb v≠some l:=λe=>by obtain ⟨_,_,_,q⟩:=hsv.2 l e;rw [h1] at q;cases q
  have nvd:Cb v≠some d:=λe=>by obtain ⟨_,_,_,q⟩:=hsv.2 d e;rw [h2] at q;cases q
  refine OL h1 rfl ?_;have ef:(lo.params.zip #[v]).foldl (λtmps x=>tmps.setIfInBounds x.1 x.2) lo.tmps=t.setIfInBounds par v:=by simp [lo]
  rw [ef];show Bc E.wk l E.fn (t.setIfInBounds par v) assign body h _;have hs':=hs.put hpar v;refine Mw (N:=E.N) hs'.1 ?_;have e0:(λi=>(t.setIfInBounds par v).getD i undef)=upd O par v:=funext hs'.2;rw [e0];refine Jv ?_ (round l d lo pre p post Y h v hall j lB hl' n1 h1 hsv λb hb=>⟨λq=>(hvX b hb).1 ((hX b).2 (.inl q)),(hvX b hb).2⟩);rintro e σ' ds' ha ⟨rfl,ha1,hb⟩;refine ⟨rfl,lo,ha1,rfl,?_⟩;refine Jv ?_ (hb _ (GH.set_same _ _ _ _) λb hb=>GH.set_ne _ _ _ hb);rintro e σ2 ds2 h3 ⟨g1,Y',g2,g3,g4,g5⟩;have hd3:h3 d=some (true,.deferred (some [])):=g3.box h2 (λq=>q.elim (λq=>q.elim n2 nvd) (λe=>hne e.symm)) rfl;have nl:¬Y' l:=λq=>(g2 l q).elim (λq=>q.elim n1 nvl) λe=>by rw [h1] at e;cases e
  have nd:¬Y' d:=λq=>(g2 d q).elim (λq=>q.elim n2 nvd) λe=>by rw [h2] at e;cases e
  have key:∀(lo2:Loop)(ok:Bool),(if ok then J (pre++[p]) Y' (h3.set l true (.loop lo2))/\lo2=lo else QV Stop l d lo (h3.set l true (.loop lo2)))->EY hB (M3 J l d lo) (QV Stop l d lo) pre (λb=>X b\/Cb v=some b) h [p] (.bool ok) (h3.set l true (.loop lo2)):=by
   intro lo2 ok hok;refine ⟨ok,λb=>Y' b\/b=l\/b=d,rfl,?_,?_,?_,?_,?_⟩
   ·rintro b (hb | rfl | rfl)
    ·exact (g2 b hb).imp (λq=>q.imp (λq=>(hX b).2 (.inl q)) id) id
    ·exact .inl (.inl ((hX _).2 (.inr (.inl rfl))))
    ·exact .inl (.inl ((hX _).2 (.inr (.inr rfl))))
   ·intro b q o hb hn;have nb:b≠l:=λe=>hn (.inl ((hX b).2 (.inr (.inl e))));rw [GH.set_ne _ _ _ nb];exact g3 b q o hb λq=>q.elim (λz=>z.elim (λz=>hn (.inl ((hX b).2 (.inl z)))) λz=>hn (.inr z)) nb
   ·exact g4.upd hl' λb hb=>GH.set_ne _ _ _ hb
   ·rintro rfl;simp only [if_true] at hok;obtain ⟨hj,rfl⟩:=hok;exact ⟨Y',hj,λb=>Iff.rfl,nl,nd,GH.set_same _ _ _ _,by rw [GH.set_ne _ _ _ (Ne.symm hne)];exact hd3⟩
   ·rintro rfl;simpa using hok
  have js:∀(lo2:Loop),J (pre++[p]) Y' h3->J (pre++[p]) Y' (h3.set l true (.loop lo2)):=λlo2 hj=>hJ.store hj nl (λb hb=>GH.set_ne _ _ _ hb) (g4.upd hl' λb hb=>GH.set_ne _ _ _ hb);have ss:∀c (lo2:Loop),Stop c h3->Stop c (h3.set l true (.loop lo2)):=λc lo2 hc=>hS c h3 _ l _ hc g1 λb hb=>GH.set_ne _ _ _ hb;refine ⟨_,g1,?_⟩;cases e with
  | normal=>exact key _ true (by simp only [if_true];exact ⟨js _ g5,rfl⟩)
  | exit id=>exact key _ false (by simp only [Bool.false_eq_true,if_false];exact ⟨_,ss _ _ g5,GH.set_same _ _ _ _,by rw [GH.set_ne _ _ _ (Ne.symm hne)];exact hd3⟩)
  | ret=>exact key _ false (by simp only [Bool.false_eq_true,if_false];exact ⟨_,ss _ _ g5,GH.set_same _ _ _ _,by rw [GH.set_ne _ _ _ (Ne.symm hne)];exact hd3⟩)
  | goto _=>exact g5.elim
  | panic _=>exact g5.elim
  | outgrown=>exact g5.elim
 refine (src _ _ _ _ _ yk hLB hI0).mono ?_;rintro v h' ⟨X',hs',hk,hl2,hor⟩;rcases hor with ⟨Y,j,hX,n1,n2,h1,h2⟩ | ⟨c,hst,h1,h2⟩
 ·refine ⟨lo,h1,rfl,?_⟩;show Q .normal O _ _;have hB':=hl2.upd hl' (λb hb=>GH.set_ne h' true (.loop { lo with state:=.exhausted }) hb);refine (fin d l _ hB' hd' hl' hd (by rw [GH.set_ne _ _ _ (Ne.symm hne)];exact h2)).1 Y (hJ.store j n1 (λb hb=>GH.set_ne _ _ _ hb) hB') λb hb e=>n2 (e▸hb)
 ·refine ⟨_,h1,rfl,?_⟩;have hB':=hl2.upd hl' (λb hb=>GH.set_ne h' true (.loop { { lo with state:=.done,pending:=some c } with state:=.exhausted }) hb)
  have:=(fin d l _ hB' hd' hl' hd (by rw [GH.set_ne _ _ _ (Ne.symm hne)];exact h2)).2 c (hS c h' _ l _ hst h1 λb hb=>GH.set_ne _ _ _ hb)
  cases c with
  | exit id=>exact this
  | ret=>exact this
  | _=>exact this.elim
end
def IH(l:List Int)(k:Int):Bool:=l.any (λx=>decide (k=x))
def BT(jobs:List Int):Nat->List Int->List (List Int)
 | 0,l=>[l]
 | f+1,l=>l ::jobs.flatMap λk=>if IH l k=true then [] else BT jobs f (l++[k])
def CE(jobs:List Int):Nat->List Int->Int->List (List Int)
 | 0,_,_=>[]
 | f+1,l,k=>if IH l k=true then [] else BT jobs f (l++[k])
theorem Gh(jobs:List Int)(f:Nat)(l:List Int):BT jobs f l=l ::jobs.flatMap (CE jobs f l):=by
 cases f with
 | zero=>simp [BT,CE]
 | succ f=>rfl
def DL(jobs:List Int):List (List Int):=BT jobs jobs.length []
def Ko(jobs l:List Int):Nat:=(jobs.filter λk=> !IH l k).length
theorem hasI_app(l:List Int)(k j:Int):IH (l++[k]) j=(IH l j || decide (j=k)):=by simp [IH]
theorem NM{jobs l:List Int}{k:Int}(hk:k ∈ jobs)(h:IH l k=false):Ko jobs (l++[k])<Ko jobs l:=by
 unfold Ko;have key:∀js:List Int,(js.filter λj=> !IH (l++[k]) j).length<=(js.filter λj=> !IH l j).length/\(k ∈ js->(js.filter λj=> !IH (l++[k]) j).length<(js.filter λj=> !IH l j).length):=by
  intro js
  induction js with
  | nil=>exact ⟨Nat.le_refl _,λe=>by cases e⟩
  | cons j js ih=>
   obtain ⟨ih1,ih2⟩:=ih;rw [List.filter_cons,List.filter_cons,hasI_app];by_cases e:j=k
   ·subst e;simp only [h,Bool.false_or,decide_true,Bool.not_true,Bool.false_eq_true,if_false,Bool.not_false,if_true,List.length_cons];exact ⟨aA,λ_=>aA⟩
   ·rw [decide_eq_false e,Bool.or_false];split
    ·simp only [List.length_cons];exact ⟨aA,λq=>by have:=ih2 ((List.mem_cons.1 q).resolve_left λz=>e z.symm);omega⟩
    ·exact ⟨ih1,λq=>ih2 ((List.mem_cons.1 q).resolve_left λz=>e z.symm)⟩
 exact (key jobs).2 hk
theorem Vn{jobs:List Int}{i:Nat}{F:Int->List (List Int)}(hi:i<jobs.length):(jobs.take (i+1)).flatMap F=(jobs.take i).flatMap F++F (jobs.getD i 0):=by
 rw [EQ 0 hi,List.flatMap_append];simp
theorem CW.job{all pre:List (List Int)}{jobs:List Int}{f i:Nat}{l:List Int}(w:CW all pre (BT jobs f l))(hi:i<jobs.length):CW all (pre++[l]++(jobs.take i).flatMap (CE jobs f l)) (CE jobs f l (jobs.getD i 0)):=by
 rw [Gh] at w;have w2:CW all pre ([l]++((jobs.take i).flatMap (CE jobs f l)++(CE jobs f l (jobs.getD i 0)++(jobs.drop (i+1)).flatMap (CE jobs f l)))):=by
  rw [<-List.append_assoc (List.flatMap _ _),<-Vn hi,<-List.flatMap_append,List.take_append_drop];exact w
 exact (w2.right.right).left
theorem CW.head{all pre:List (List Int)}{jobs:List Int}{f:Nat}{l:List Int}(w:CW all pre (BT jobs f l)):CW all pre [l]:=by
 rw [Gh] at w;exact CW.left (a:=[l]) w
section
variable {jobs l:List Int} {f f' i:Nat} {k:Int} {all pre:List (List Int)}
theorem Vo(hk:k ∈ jobs)(h:IH l k=false)(hu:Ko jobs l<=f):∃f',f=f'+1:=⟨f-1,by have:=NM hk h;omega⟩
theorem LY(hf:f=f'+1)(h:IH l k=false):CE jobs f l k=BT jobs f' (l++[k]):=by
 subst hf;exact if_neg (by rw [h];simp)
theorem P7(h:IH l k=true):CE jobs f l k=[]:=by
 cases f with
 | zero=>rfl
 | succ f=>exact if_pos h
theorem P8(hi:i<jobs.length)(h:IH l (jobs.getD i 0)=true):pre++[l]++(jobs.take (i+1)).flatMap (CE jobs f l)=pre++[l]++(jobs.take i).flatMap (CE jobs f l):=by
 rw [Vn hi,P7 h,List.append_nil]
theorem Su(hi:i<jobs.length)(hf:f=f'+1)(h:IH l (jobs.getD i 0)=false):pre++[l]++(jobs.take (i+1)).flatMap (CE jobs f l)=(pre++[l]++(jobs.take i).flatMap (CE jobs f l))++BT jobs f' (l++[jobs.getD i 0]):=by
 rw [Vn hi,LY hf h,<-List.append_assoc]
theorem YY(hi:jobs.length<=i):pre++BT jobs f l=pre++[l]++(jobs.take i).flatMap (CE jobs f l):=by
 rw [List.take_of_length_le hi,Gh];simp
theorem CW.go(w:CW all pre (BT jobs f l))(hi:i<jobs.length)(hf:f=f'+1)(h:IH l (jobs.getD i 0)=false):CW all (pre++[l]++(jobs.take i).flatMap (CE jobs f l)) (BT jobs f' (l++[jobs.getD i 0])):=by
 have z:=w.job hi
 rwa [LY hf h] at z
end
end Go.Ns
namespace Go.Ns
open Go.Conc
theorem G5.mem{h:GH}{l:List Sl}(a:G5 h l){x:Sl}(hx:x ∈ l):AF h x.1 1 eI x.2:=by
 obtain ⟨i,hi,e⟩:=List.mem_iff_getElem.1 hx;have z:=a i;rw [List.getD_eq_getElem?_getD,List.getElem?_eq_getElem hi] at z;have z2:AF h l[i].1 1 eI l[i].2:=z;rw [<-e];exact z2
theorem CX.all{h:GH}{t:TypeId}{l:List Sl}(a:CX h t l):G5 h l:=λk=>(a k).1
theorem CX.drop1{h:GH}{t:TypeId}{l:List Sl}(a:CX h t l):CX h t (l.drop 1):=λk=>by
 rw [List.getD_eq_getElem?_getD,List.getElem?_drop,<-List.getD_eq_getElem?_getD];exact a (1+k)
theorem Vp{l:List Sl}{k:Nat}(h:k<l.length-1):(l.drop 1).getD k Sl.z ∈ l:=List.mem_of_mem_drop (Bz (by rw [List.length_drop];exact h))
section
variable (G:List Int->Int) (l:List (List Int))
def Dp:Nat->List Int×Int
 | 0=>(l.getD 0 [],G (l.getD 0 []))
 | k+1=>if G ((l.drop 1).getD k [])<(Dp k).2 then ((l.drop 1).getD k [],G ((l.drop 1).getD k [])) else Dp k
def DM:List Int:=(Dp G l (l.length-1)).1
end
section
variable {G:List Int->Int} {l:List Sl} {k:Nat}
theorem Vq(l:List Sl):(A4 l).length=l.length:=List.length_map _
theorem NN(hk:k<l.length-1):((A4 l).drop 1).getD k []=((l.drop 1).getD k Sl.z).2:=by
 have e:(A4 l).drop 1=A4 (l.drop 1):=by unfold A4;rw [List.map_drop]
 rw [e,FU (by rw [List.length_drop];exact hk)]
theorem LZ(hk:k<l.length-1)(h:G ((l.drop 1).getD k Sl.z).2<(Dp G (A4 l) k).2):Dp G (A4 l) (k+1)=(((l.drop 1).getD k Sl.z).2,G ((l.drop 1).getD k Sl.z).2):=by
 rw [Dp,NN hk,if_pos h]
theorem La(hk:k<l.length-1)(h:¬G ((l.drop 1).getD k Sl.z).2<(Dp G (A4 l) k).2):Dp G (A4 l) (k+1)=Dp G (A4 l) k:=by
 rw [Dp,NN hk,if_neg h]
theorem UA(hk:k=l.length-1):DM G (A4 l)=(Dp G (A4 l) k).1:=by unfold DM;rw [Vq,hk]
end
theorem O6:∀(n k:Nat),k<n->(Dh n).getD k 0=(k:Int)
 | 0,k,h=>absurd h (Nat.not_lt_zero _)
 | n+1,k,h=>by
  have hl:=Dx n;rw [Dh,List.getD_eq_getElem?_getD];by_cases e:k<n
  ·rw [List.getElem?_append_left aA,<-List.getD_eq_getElem?_getD];exact O6 n k e
  ·have e2:k=n:=aA
   subst e2;rw [List.getElem?_append_right aA,hl,Nat.sub_self];rfl
theorem O7{n:Nat}{x:Int}(h:x ∈ Dh n):0<=x/\x<n:=by
 obtain ⟨i,hi,e⟩:=List.mem_iff_getElem.1 h;have hl:=Dx n
 have:=O6 n i aA
 rw [List.getD_eq_getElem?_getD,List.getElem?_eq_getElem hi,Option.getD_some,e] at this;omega
theorem Jc{jobs:List Int}:∀(f:Nat)(l:List Int),(∀x ∈ l,x ∈ jobs)->∀r ∈ BT jobs f l,(∀x ∈ r,x ∈ jobs)/\r.length<=l.length+f
 | 0,l,h,r,hr=>by
  rw [BT,List.mem_singleton] at hr;subst hr;exact ⟨h,Nat.le_refl _⟩
 | f+1,l,h,r,hr=>by
  rw [BT,List.mem_cons] at hr;rcases hr with rfl | hr
  ·exact ⟨h,aA⟩
  ·obtain ⟨k,hk,hr⟩:=List.mem_flatMap.1 hr;split at hr
   ·cases hr
   ·have:=Jc f (l++[k]) (λx hx=>by
     rcases List.mem_append.1 hx with hx | hx
     ·exact h x hx
     ·rw [List.mem_singleton.1 hx];exact hk) r hr
    refine ⟨this.1,?_⟩;have e:=this.2;rw [List.length_append,List.length_singleton] at e;omega
theorem Sv{jobs r:List Int}(h:r ∈ DL jobs):(∀x ∈ r,x ∈ jobs)/\r.length<=jobs.length:=by
 have:=Jc jobs.length [] (λx hx=>by cases hx) r h
 simpa using this
def Sw(nj:Nat)(l:List Int):Prop:=(∀k,k<l.length->0<=l.getD k 0/\l.getD k 0<nj)/\l.length<=4
theorem Jd{n:Nat}{jobs r:List Int}(hj:∀x ∈ jobs,0<=x/\x<(n:Int))(hl:jobs.length<=4)(h:r ∈ DL jobs):Sw n r:=by
 obtain ⟨h1,h2⟩:=Sv h;exact ⟨λk hk=>hj _ (h1 _ (Bz hk)),aA⟩
theorem Je{jobs:List Int}(hj:jobs.length<=4):∀(f:Nat)(l:List Int),f<=4->(BT jobs f l).length<=5 ^ f*1
 | 0,l,_=>Nat.le_refl _
 | f+1,l,hf=>by
  have key:∀js:List Int,(js.flatMap λk=>if IH l k=true then [] else BT jobs f (l++[k])).length<=js.length*5 ^ f:=by
   intro js
   induction js with
   | nil=>simp
   | cons j js ih=>
    rw [List.flatMap_cons,List.length_append,List.length_cons,Nat.add_mul,Nat.one_mul,Nat.add_comm];refine Nat.add_le_add ih ?_;split
    ·exact Nat.zero_le _
    ·have:=Je hj f (l++[j]) aA;omega
  rw [BT,List.length_cons];have h1:=key jobs;have h2:jobs.length*5 ^ f<=4*5 ^ f:=Nat.mul_le_mul_right _ hj;have h3:1<=5 ^ f:=Nat.one_le_pow _ _ aC;rw [Nat.pow_succ];omega
theorem HH{jobs:List Int}(hj:jobs.length<=4):(DL jobs).length<=625:=by
 have h:=Je hj jobs.length [] hj;have h2:5 ^ jobs.length<=5 ^ 4:=Nat.pow_le_pow_right aC hj;unfold DL;omega
end Go.Ns
namespace Go.Ns
open Go.Conc
section
variable {P:Program} {M:Type} {F:MG P M} {i:Option (Cn M)} {O:Nat->Value} {ds:List Deferred} {h:GH} {Q:Oe M}
theorem trI_td{id:Nat}{l:List Oper}(n:Nat)(fl:Bool)(π:List Nat)(hm:P.follows .mixedOrders=true)
  (ok:OR l (l.take n) 0 [] (λcls=>OS P F.N l n cls fl (dK π))=true) (x:TD (F.env i) l n fl h ds (λ_ _ _=>True) (λσ' h'=>GA F l.toArray (l.drop n) i σ' ds h' Q) (dK π) O h):Ni F (.region id l.toArray true) i O ds h Q:=by
 obtain ⟨cls,h1⟩:=HX ok;intro b k cs L t hb hr hl hs hq;exact XQ (E:=F.env i) n cls fl (dK π) hm (λ_ _ _ _ _ y=>y) trivial h1 x hb hr hs λσ' h' f t' ht'=>f n b k cs L t' (λj=>aD) hb hr hl ht' hq
def Iv(P:Program):Frame:={ (default:Frame) with fn:=P.funcs.size,defers:=[],mode:=.panicking [goexitEntry] }
theorem quit_bot:QuitsIn P 1 (G (Iv P) []):=.inr ⟨rfl,{ G (Iv P) [] with status:=.finished },λw=>by
 show unwind P false (Iv P) [] none w=_;have hcat:(Iv P).catches P=false:=by
  unfold Frame.catches
  have:P.funcs[(Iv P).fn]? =none:=Array.getElem?_eq_none (Nat.le_refl _)
  rw [this];rfl
 have hd:(Iv P).defers=[]:=rfl;have hmd:(Iv P).mode=.panicking [goexitEntry]:=rfl;unfold unwind;simp only [hd,hmd,hcat]
 rfl,rfl⟩
theorem UB{fn:Func}{f:FuncId}{args:Array Value}{t:Array Value}{ops:Array Oper}(hf:P.funcs[f]? =some fn)(hres:fn.results=#[]):QuitsIn P 4 (G (Cg (Frame.enter P f args .deferred) t [] [.inRegion ops []]) [Iv P]):=by
 refine .inr ⟨rfl,G (Cg (Frame.enter P f args .deferred) t [] []) [Iv P],λw=>by rw [A6];simp [stepG.exec,Cg,G],?_⟩;refine .inr ⟨rfl,G (EV (Frame.enter P f args .deferred) t [] []) [Iv P],λw=>by rw [A6];simp [stepG.exec,Cg,EV,G,Frame.enter],?_⟩;refine .inr ⟨rfl,G (Iv P) [],λw=>?_,quit_bot⟩;show unwind P false (EV (Frame.enter P f args .deferred) t [] []) [Iv P] none w=_;have hfn:(EV (Frame.enter P f args .deferred) t [] []).fn=f:=rfl;have hk:(EV (Frame.enter P f args .deferred) t [] []).kind=.deferred:=rfl;have hmd:(EV (Frame.enter P f args .deferred) t [] []).mode=.returning:=rfl;have hd:(EV (Frame.enter P f args .deferred) t [] []).defers=[]:=rfl;have r1:∀t,(results fn t).runT P w #[]=(.ok (.tuple #[]) w,#[]):=λt=>by
  unfold results;rw [hres];simp only [Array.mapM_empty];rfl
 unfold unwind;simp only [hd,hmd,hfn,hf,r1,GStep.after,doReturn,hk,seen_none];rfl
def Iw(F:MG P M)(R:Code)(args:Array Value)(i:Option (Cn M))(O:Nat->Value)(h:GH):Prop:=∀t,BY t F.N O->(F.wk i).K (G (Cg (Frame.enter P F.fn args .deferred) t [] [.code R]) [Iv P]) h
theorem MO{fn:Func}{c R:Code}{s:Cn M}{ars cap args:Array Value}(hm:F.main=false)(hrd:F.rd=none)(ha:ars++cap=args)(hf:P.funcs[F.fn]? =some fn)(hc:AO fn=true)(hb:fn.body=some (.seq c R))(hN:F.N=fn.ntmps)(hsz:args.size<=fn.ntmps)(hs:¬s.isDone)
  (x:Ni F c (some s) (λi=>args.getD i undef) [] h λi e O ds h=>e=.normal/\ds=[]/\Iw F R args i O h):E9 P F.Rep F.W.K s false (born P { target:=.fn (.func F.fn) cap,args:=ars }) h:=by
 have hwk:∀s,(F.wk (some s)).K=EA P false (H7 P F.Rep F.W.K s false):=λs=>by show EA P F.main (H7 P F.Rep F.W.K s F.main)=_;rw [hm]
 rw [Gi hs];refine LB _ _ _ _ rfl λw f=>⟨G (Frame.enter P F.fn args .deferred) [Iv P],w,#[],h,?_,Bj.refl f,?_⟩
 ·subst ha;have hi:(invoke (.fn (.func F.fn) cap) ars).runT P w #[]=(.ok (.enter F.fn (ars++cap)) w,#[]):=Sb hf hc w;show callDeferred P (Iv P) [] none { target:=.fn (.func F.fn) cap,args:=ars } w=_;unfold callDeferred;rw [if_neg aD];simp only [hi,seen_none];rfl
 have e0:Frame.enter P F.fn args .deferred=Cg (Frame.enter P F.fn args .deferred) (args++Array.replicate (fn.ntmps-args.size) undef) [] [.code (.seq c R)]:=by simp [Frame.enter,Cg,hf,hb]
 rw [e0,<-hwk s];refine Wk.go (Cg (Frame.enter P F.fn args .deferred) (args++Array.replicate (fn.ntmps-args.size) undef) [] (.code c ::.code R ::[])) (λw=>by rw [A6];simp [stepG.exec,Cg,G]) ?_;refine x (Frame.enter P F.fn args .deferred) [.code R] [Iv P] (λ_ _ _ _ _=>False) _ rfl hrd.symm (λi=>⟨λ_ _ _ q=>q.elim,λ_ _ _ _ q=>q.elim,λ_ _ _ _ _ _ q=>q.elim⟩) ⟨by rw [hN];simp;omega,λi=>?_⟩ ?_
 ·by_cases hi:i<args.size
  ·simp [Array.getD_eq_getD_getElem?,Array.getElem?_append_left hi]
  ·simp only [Array.getD_eq_getD_getElem?];rw [Array.getElem?_append_right aA,Array.getElem?_eq_none (show args.size<=i by omega),Array.getElem?_replicate];split <;> rfl
 ·rintro i e O ds h' ⟨rfl,rfl,z⟩ t' ht';exact z t' ht'
theorem YZ{fn:Func}{id:Nat}{o1 o2:Oper}{args:Array Value}{c:Nat}{m:M}{v z:Value}{hm:GH}{h1:GH}(hmn:F.main=false)(hrd:F.rd=none)(hf:P.funcs[F.fn]? =some fn)(hres:fn.results=#[])
  (hg1:o1.guard=none) (hd1:Cw o1.dst F.N=true) (hg2:o2.guard=none) (hdf1:Cy o1.op=false) (hdf:Cy o2.op=false) (hd2:Cw o2.dst F.N=true)
  (x:BU (F.env (some (.send c m .done))) o1 O [] h λσ' ds' h'=>ds'=[]/\(∀w,(execOp (AQ σ') o2).runT P w #[]=(.ok (.comm #[scase c v z] true .send) w,#[]))/\GH.Split h' h1 hm/\F.Rep c m v hm) :
  Iw F (.region id [o1,o2].toArray false) args (some (.send c m .done)) O h:=by
 intro t hs;refine Wk.go (Cg (Frame.enter P F.fn args .deferred) t [] (.inRegion [o1,o2].toArray [0,1] ::[])) (λw=>by rw [A6];simp [stepG.exec,Cg,G,List.range_eq_range',Array.range];rfl) ?_;refine Jw (E:=F.env (some (.send c m .done))) (o:=o1) (rest:=[1]) rfl (by simp [Region.wanted,hg1]) (.inr hdf1) hd1 hs x ?_;rintro σ' ds' h' ⟨rfl,hr,hsp,hrep⟩ t' ht';refine EA.stop ⟨_,[Iv P],v,z,hm,h1,rfl,⟨λw fw=>?_,hsp,hrep,4,?_⟩⟩
 ·rw [hmn];exact SZ ht' rfl (by simp [Region.wanted,hg2]) (.inr hdf) (hr w)
 ·rw [Cz (ops:=[o1,o2].toArray) (i:=1) (o:=o2) rfl];exact UB hf hres
theorem Ya{dst:Option Nat}{x:Operand}{tys:Array TypeId}{ty:TypeId}{pos:String}{af:Array Edge}{gd:Option (Nat×Bool)}{ch s r:Nat}{w:World}(hx:AQ O x=.chan (some ch))(hw:w.heap[ch]? =some (.chan 0 #[] false s r false)) :
  (execOp (AQ O) ⟨dst,.call ⟨.builtin .close,#[x],tys⟩,ty,pos,af,gd⟩).runT P w #[]=(.ok (.value (.tuple #[])) { w with heap:=w.heap.setIfInBounds ch (.chan 0 #[] true s r false) },#[⟨.obj ch,false,true⟩,⟨.obj ch,true,true⟩]):=by
 have q:execOp (AQ O) ⟨dst,.call ⟨.builtin .close,#[x],tys⟩,ty,pos,af,gd⟩=builtin .close tys ty (#[x].map fun | .const _=>true | _=>false) (#[x].map (AQ O)):=by
  show (resolve (AQ O) _ ty).bind _=_;unfold resolve;rfl
 have e:(#[x].map (AQ O))=#[Value.chan (some ch)]:=by simp [hx]
 rw [q,e];show Sem.runT P (.getObj ch λo=>_) w #[]=_;unfold Sem.runT;rw [hw];show Sem.runT P (.setObj ch (.chan 0 #[] true s r false) _) w _=_;unfold Sem.runT;rw [hw];rfl
theorem O8{fn:Func}{id:Nat}{o1:Oper}{dst:Option Nat}{xo:Operand}{tys:Array TypeId}{ty:TypeId}{pos:String}{af:Array Edge}{args:Array Value}{c:Nat}(hmn:F.main=false)(hf:P.funcs[F.fn]? =some fn)(hres:fn.results=#[])
  (hg1:o1.guard=none) (hd1:Cw o1.dst F.N=true) (hdf1:Cy o1.op=false)
  (x:BU (F.env (some (.close c .done))) o1 O [] h λσ' ds' _=>ds'=[]/\AQ σ' xo=.chan (some c)) :
  Iw F (.region id [o1,⟨dst,.call ⟨.builtin .close,#[xo],tys⟩,ty,pos,af,none⟩].toArray false) args (some (.close c .done)) O h:=by
 intro t hs;refine Wk.go (Cg (Frame.enter P F.fn args .deferred) t [] (.inRegion [o1,⟨dst,.call ⟨.builtin .close,#[xo],tys⟩,ty,pos,af,none⟩].toArray [0,1] ::[])) (λw=>by rw [A6];simp [stepG.exec,Cg,G,List.range_eq_range',Array.range];rfl) ?_;refine Jw (E:=F.env (some (.close c .done))) (o:=o1) (rest:=[1]) rfl (by simp [Region.wanted,hg1]) (.inr hdf1) hd1 hs x ?_;rintro σ' ds' h' ⟨rfl,hx⟩ t' ht';refine EA.stop ⟨_,[Iv P],Cg (Frame.enter P F.fn args .deferred) (U2 t' dst (.tuple #[])) [] [.inRegion [o1,⟨dst,.call ⟨.builtin .close,#[xo],tys⟩,ty,pos,af,none⟩].toArray []],[Iv P],rfl,⟨λw s r fw hw=>?_,rfl,4,UB hf hres⟩⟩;rw [hmn,Of ht' (ops:=[o1,⟨dst,.call ⟨.builtin .close,#[xo],tys⟩,ty,pos,af,none⟩].toArray) (n:=1) (o:=⟨dst,.call ⟨.builtin .close,#[xo],tys⟩,ty,pos,af,none⟩) rfl (by simp [Region.wanted]) (.inr rfl)];simp only [stepG.apply,Ya hx hw,if_true];have hk:((Cg (Frame.enter P F.fn args .deferred) t' [] [.inRegion [o1,⟨dst,.call ⟨.builtin .close,#[xo],tys⟩,ty,pos,af,none⟩].toArray [1]]).kind==CallKind.early)=false:=rfl;rw [Cz (ops:=[o1,⟨dst,.call ⟨.builtin .close,#[xo],tys⟩,ty,pos,af,none⟩].toArray) (i:=1) rfl];simp only [hk,Bool.false_eq_true,if_false];show GStep.go _ _ (seen P _ _++ #[])=_;rw [VU];rfl
end
end Go.Ns
namespace Go.Ns
open Go.Conc
theorem CX.at{h:GH}{t:TypeId}{l:List Sl}(a:CX h t l){x:Sl}(hx:x ∈ l):D1 h t x.1 x.2:=by
 obtain ⟨i,hi,e⟩:=List.mem_iff_getElem.1 hx;have z:=a i;rw [List.getD_eq_getElem?_getD,List.getElem?_eq_getElem hi] at z;have z2:D1 h t l[i].1 l[i].2:=z;rw [<-e];exact z2
theorem CX.of{h:GH}{t:TypeId}{l:List Sl}(a:∀x ∈ l,D1 h t x.1 x.2):CX h t l:=λk=>by
 by_cases hk:k<l.length
 ·exact a _ (Bz hk)
 ·rw [CK aA];exact D1.nil _ _
theorem CX.store{h h':GH}{t t':TypeId}{l:List Sl}{r:Nat}{p:Bool}{c:Array Value}{f:Nat×Nat}(x:CX h t l)(hr:h r=some (p,.cells c t' f))(ne:t'≠t)(ho:∀b,b≠r->h' b=h b):CX h' t l:=λk=>(x k).store hr ne ho
theorem D1.storeL{h h':GH}{t:TypeId}{w:Value}{xs:List Int}{r:Nat}{p:Bool}{lo:Loop}(x:D1 h t w xs)(hr:h r=some (p,.loop lo))(ho:∀b,b≠r->h' b=h b):D1 h' t w xs:=
 x.same λb hb=>ho b λe=>by
  obtain ⟨p2,c2,f2,q⟩:=x.2 b hb;rw [e,hr] at q;cases q
def RQ(hB:GH)(r:Nat)(T t t0:TypeId)(F:List Int->Bool)(pre:List (List Int))(Y:Nat->Prop)(h:GH):Prop:=
 ∃w l',h r=some (true,.cells #[w] T (0,0))/\AT hB h w t 1 K6 l'/\BG w r/\hB r=none/\A4 l'=pre.filter F/\CX h t0 l'/\∀b,Y b↔b=r\/Cb w=some b\/∃x ∈ l',Cb x.1=some b
section
variable {hB h h' ha hb:GH} {r:Nat} {T t t0:TypeId} {F:List Int->Bool} {pre:List (List Int)} {p:List Int} {w w' v:Value} {Y:Nat->Prop} {l':List Sl}
theorem O9(hB:GH)(r:Nat)(T t t0:TypeId)(F:List Int->Bool):F9 hB (RQ hB r T t t0 F):=by
 refine ⟨?_,?_⟩
 ·rintro pre Y h b ⟨w,l',h1,h2,h3,h0,h5,h6,h4⟩ hb;rcases (h4 b).1 hb with rfl | h7 | ⟨x,hx,h7⟩
  ·exact ⟨_,_,h1,rfl⟩
  ·obtain ⟨c,hc⟩:=h2.cellsAt b h7;exact ⟨_,_,hc,rfl⟩
  ·obtain ⟨q,c,f,hc⟩:=(h6.at hx).2 b h7;exact ⟨_,_,hc,rfl⟩
 ·rintro pre Y h h' ⟨w,l',h1,h2,h3,h0,h5,h6,h4⟩ same lB;refine ⟨w,l',by rw [same r ((h4 r).2 (.inl rfl))];exact h1,h2.keep λb o hb ho=>by rw [same b ((h4 b).2 (.inr (.inl hb)))];exact ho,h3,h0,h5,.of λx hx=>(h6.at hx).same λb hb=>same b ((h4 b).2 (.inr (.inr ⟨x,hx,hb⟩))),h4⟩
theorem NO(x:h r=some (true,.cells #[.slice none 0 0] T (0,0)))(h0:hB r=none):RQ hB r T t t0 F [] (λb=>b=r) h:=
 ⟨_,[],x,AT.nil _ _ _ _ _,BG.nil,h0,rfl,CX.nil _ _,λ_=>⟨.inl,λq=>q.elim id λe=>e.elim (λe=>by cases e) λ⟨_,e,_⟩=>by cases e⟩⟩
theorem RR(hY:∀b,Y b↔b=r\/Cb w=some b\/∃x ∈ l',Cb x.1=some b)(g:HV ha hb w w')(hn:∀q,ha q=none->h q=none)(x:h' r=some (true,.cells #[w'] T (0,0)))(o:AT hB h' w' t 1 K6 (l'++[(v,p)]))(f:BG w' r)(h0:hB r=none)
  (hl:A4 l'=pre.filter F) (hp:F p=true) (ta:CX h' t0 (l'++[(v,p)])):∃Y',(∀b,Y' b->(Y b\/Cb v=some b)\/h b=none)/\RQ hB r T t t0 F (pre++[p]) Y' h':=by
 refine ⟨λb=>b=r\/Cb w'=some b\/∃x ∈ l'++[(v,p)],Cb x.1=some b,?_,w',_,x,o,f,h0,?_,ta,λ_=>Iff.rfl⟩
 ·rintro b (rfl | hb | ⟨y,hy,hb⟩)
  ·exact .inl (.inl ((hY _).2 (.inl rfl)))
  ·rcases g.2 with e | ⟨⟨q,e1,e2⟩,_⟩
   ·exact .inl (.inl ((hY _).2 (.inr (.inl (by rw [<-e];exact hb)))))
   ·rw [e1] at hb;cases hb;exact .inr (hn _ e2)
  ·rcases List.mem_append.1 hy with hy | hy
   ·exact .inl (.inl ((hY _).2 (.inr (.inr ⟨y,hy,hb⟩))))
   ·rw [List.mem_singleton.1 hy] at hb;exact .inl (.inr hb)
 ·rw [MN,hl,List.filter_append];simp [A4,hp]
theorem Vr(hY:∀b,Y b↔b=r\/Cb w=some b\/∃x ∈ l',Cb x.1=some b)(x:h' r=some (true,.cells #[w] T (0,0)))(o:AT hB h' w t 1 K6 l')(f:BG w r)(h0:hB r=none)(hl:A4 l'=pre.filter F)(hp:F p=false)(ta:CX h' t0 l') :
  ∃Y',(∀b,Y' b->(Y b\/Cb v=some b)\/h b=none)/\RQ hB r T t t0 F (pre++[p]) Y' h':=
 ⟨Y,λ_ q=>.inl (.inl q),w,l',x,o,f,h0,by rw [hl,List.filter_append];simp [hp],ta,hY⟩
end
def tVal:Dc->Value
 | .job i=>.int .i64 i
 | .res i b=>.agg #[.int .i64 i,.bool b]
 | .tick=>.bool true
def tOK(n:Nat):Dc->Prop
 | .job i=>i<n
 | .res i _=>i<n
 | .tick=>True
def Nj(n:Nat):Nat->Dc->Value->GH->Prop:=λ_ m v hm=>v=tVal m/\tOK n m/\hm=λ_=>none
theorem GH.split_none(h:GH):GH.Split h h (λ_=>none) where
 left:=λb p o hb=>⟨p,hb,id⟩
 right:=λb p o hb=>by cases hb
 one:=λ_ _ _ _ hb=>by cases hb
 two:=λ_ _ _ hb _=>by cases hb
section
variable {cj co cd n k:Nat} {ok:Nat->Bool}
theorem Yb(h:k<n):some (G6 cj (n-k) k)=some (.send cj (.job k) (G6 cj (n-(k+1)) (k+1))):=by
 rw [show n-k=(n-(k+1))+1 by omega];rfl
theorem feed_end(h:n<=k):some (G6 cj (n-k) k)=some (.close cj .done):=by rw [show n-k=0 by omega];rfl
theorem UC:∀m k,¬(G6 cj m k).isDone
 | 0,_=>id
 | _+1,_=>id
theorem UD:∀m,¬(FE cj co cd ok m).isDone
 | 0=>id
 | _+1=>id
theorem Yc{m:Nat}:∀o,¬(Tu co cd ok (FE cj co cd ok m) o).isDone
 | none=>id
 | some (.job _)=>id
 | some (.res _ _)=>id
 | some .tick=>id
theorem RS:∀t,¬(D3 co cd t).isDone
 | 0=>id
 | _+1=>id
theorem Vs{t:Nat}:∀o,¬(MH (D3 co cd t) o).isDone
 | none=>id
 | some (.job _)=>id
 | some (.res _ _)=>id
 | some .tick=>RS t
theorem UE:∀m R,¬(FF co ok m R).isDone
 | 0,_=>id
 | _+1,_=>id
theorem Xe{c:Prop}[Decidable c]{a b:Cn Dc}(ha:¬a.isDone)(hb:¬b.isDone):¬(if c then a else b).isDone:=by split <;> assumption
theorem Ye{m:Nat}{R:List Nat}:∀o,¬(Hw ok R (FF co ok m) o).isDone
 | none=>Xe id id
 | some (.job _)=>id
 | some .tick=>id
 | some (.res _ _)=>Xe (UE _ _) id
theorem UF:∀m,¬(Hd cj co cd n ok m).isDone
 | 0=>id
 | _+1=>id
theorem Vt(h:k<3):some (D3 co cd (3-k))=some (.recv cd (MH (D3 co cd (3-(k+1))))):=by
 rw [show 3-k=(3-(k+1))+1 by omega];rfl
theorem Yf(h:3<=k):some (D3 co cd (3-k))=some (.close co .done):=by rw [show 3-k=0 by omega];rfl
theorem Yg(h:k<3):some (Hd cj co cd n ok (3-k))=some (.spawn (FE cj co cd ok (n+1)) (Hd cj co cd n ok (3-(k+1)))):=by
 rw [show 3-k=(3-(k+1))+1 by omega];rfl
theorem crew_end(h:3<=k):some (Hd cj co cd n ok (3-k))=some (.spawn (D3 co cd 3) (FF co ok (n+1) (List.range n))):=by rw [show 3-k=0 by omega];rfl
end
def Sx(n:Nat)(ok:Nat->Bool)(R:List Nat):List Bool:=(List.range n).map λi=>if i ∈ R then false else ok i
theorem Xf(n:Nat)(ok:Nat->Bool)(R:List Nat):(Sx n ok R).length=n:=by unfold Sx;rw [List.length_map,List.length_range]
theorem Yh(n:Nat)(ok:Nat->Bool):Sx n ok (List.range n)=List.replicate n false:=by
 unfold Sx;refine List.ext_getElem aD λi h1 h2=>?_
 have:i<n:=by simpa using h1
 simp [this]
theorem isL_put{n i:Nat}{ok:Nat->Bool}{R:List Nat}(hR:R.Nodup):(Sx n ok R).set i (ok i)=Sx n ok (R.erase i):=by
 unfold Sx;refine List.ext_getElem aD λj h1 h2=>?_;rw [List.getElem_set];simp only [List.getElem_map,List.getElem_range,List.Nodup.mem_erase_iff hR];by_cases e:i=j
 ·subst e;simp
 ·rw [if_neg e]
  have:j≠i:=λq=>e q.symm
  simp [this]
theorem Xg{n:Nat}{ok:Nat->Bool}{k:Nat}(hk:k<n):(Sx n ok []).getD k false=ok k:=by
 unfold Sx;rw [List.getD_eq_getElem?_getD,List.getElem?_map,List.getElem?_range hk];simp
def Ix(fl:List Sl)(ok:Nat->Bool):Nat->List Sl
 | 0=>[]
 | k+1=>if ok k=true then Ix fl ok k++[fl.getD k Sl.z] else Ix fl ok k
theorem selS_t{fl:List Sl}{ok:Nat->Bool}{k:Nat}(h:ok k=true):Ix fl ok (k+1)=Ix fl ok k++[fl.getD k Sl.z]:=if_pos h
theorem selS_f{fl:List Sl}{ok:Nat->Bool}{k:Nat}(h:ok k=false):Ix fl ok (k+1)=Ix fl ok k:=if_neg (by rw [h];simp)
theorem UG(fl:List Sl)(ok:Nat->Bool):∀k,(Ix fl ok k).length<=k
 | 0=>Nat.le_refl _
 | k+1=>by
  have:=UG fl ok k
  unfold Ix;split
  ·rw [List.length_append,List.length_singleton];omega
  ·omega
theorem PA{fl:List Sl}{G:List Int->Bool}:∀k,k<=fl.length->A4 (Ix fl (λi=>G (fl.getD i Sl.z).2) k)=((A4 fl).take k).filter G
 | 0,_=>rfl
 | k+1,h=>by
  have ih:=PA (fl:=fl) (G:=G) k aA;have e:(A4 fl).take (k+1)=(A4 fl).take k++[(fl.getD k Sl.z).2]:=by rw [EQ [] (by rw [CA];omega),FU (l:=fl) aA]
  unfold Ix;rw [e,List.filter_append];by_cases q:G (fl.getD k Sl.z).2=true
  ·rw [if_pos q,MN,ih,List.filter_cons_of_pos q];rfl
  ·rw [if_neg q,ih,List.filter_cons_of_neg q,List.filter_nil,List.append_nil]
end Go.Ns
namespace Go.Ns
open Go.Conc
section
variable {P:Program} {M:Type} {F:MG P M} {i i':Option (Cn M)} {O:Nat->Value} {ds:List Deferred} {h:GH} {Q:Oe M}
theorem trI_ix{c:Code}(e:i=i')(x:Ni F c i' O ds h Q):Ni F c i O ds h Q:=e▸x
theorem Iy{ops:Array Oper}{l:List Oper}(e:i=i')(x:GA F ops l i' O ds h Q):GA F ops l i O ds h Q:=e▸x
theorem Yi{c:Code}{Q:Post}(x:Ni F c none O ds h λi e O ds h=>i=none/\Q e O ds h):Tr ⟨F.W,F.fn,F.rd,F.N⟩ c O ds h Q:=by
 intro b k cs L t hb hr hl hs hc;refine x b k cs (λi=>match i with | none=>L | some _=>λ_ _ _ _=>False) t hb hr (λi=>?_) hs λi e σ' ds' h' q t' ht'=>?_
 ·cases i with
  | none=>exact hl
  | some s=>exact ⟨λ_ _ _ x=>x.elim,λ_ _ _ _ x=>x.elim,λ_ _ _ _ _ _ x=>x.elim⟩
 ·obtain ⟨rfl,q⟩:=q;exact hc e σ' ds' h' q t' ht'
theorem trI_end{c:Code}{Q:Post}(x:Tr (F.env none) c O ds h Q):Ni F c none O ds h λi e O ds h=>i=none/\Q e O ds h:=
 IT (Jv (λ_ _ _ _ q=>⟨rfl,q⟩) x)
variable {dst:Option Nat} {ty:TypeId} {pos:String} {af:Array Edge} {gd:Option (Nat×Bool)}
theorem PB{a x:Operand}{c:Nat}{v:Value}(ha:AQ O a=.chan (some c))(hx:AQ O x=v)(w:World):(execOp (AQ O) ⟨dst,.send a x,ty,pos,af,gd⟩).runT P w #[]=(.ok (.comm #[scase c v (.tuple #[])] true .send) w,#[]):=by
 subst hx;show (Result.ok (Next.comm #[{ chan:=AQ O a,send:=some (AQ O x),zero:=.tuple #[] }] true .send) w,#[])=_;rw [ha];rfl
theorem run_recv{a:Operand}{c:Nat}{t e:TypeId}{d:ChanDir}{ok:Bool}{z:Value}{inf:TypeInfo}(ht:P.underlying t=some (.chan d e))(hi:P.info? e=some inf)(hz:inf.zero=some z)(ha:AQ O a=.chan (some c))(w:World) :
  (execOp (AQ O) ⟨dst,.recv t a ok,ty,pos,af,gd⟩).runT P w #[]=(.ok (.comm #[rcase c z] true (.recv ok)) w,#[]):=by
 have h1:(zeroValue e).run P w=.ok z w:=by
  unfold zeroValue typeInfo;simp only [Sem.run_bind,program,hi];simp [Sem.run,hi,hz]
 have h2:(underlying t).run P w=.ok (.chan d e) w:=run_underlying ht w;rw [Sem.runT_eq];unfold execOp;simp [h1,h2,ha,rcase]
theorem MP{a:Operand}{c:Nat}{t e:TypeId}{d:ChanDir}{ok:Bool}{z:Value}(ht:P.underlying t=some (.chan d e))(hz:(P.info? e).map (·.zero)=some (some z))(ha:AQ O a=.chan (some c))(w:World) :
  (execOp (AQ O) ⟨dst,.recv t a ok,ty,pos,af,gd⟩).runT P w #[]=(.ok (.comm #[rcase c z] true (.recv ok)) w,#[]):=by
 obtain ⟨inf,hi,h2⟩:=Option.map_eq_some_iff.1 hz;exact run_recv ht hi h2 ha w
theorem Vu{x:Operand}{f:Fn}{cap:Array Value}{tys:Array TypeId}(hx:AQ O x=.func f #[] cap)(w:World):(execOp (AQ O) ⟨dst,.go ⟨.value x,#[],tys⟩,ty,pos,af,gd⟩).runT P w #[]=(.ok (.spawn { target:=.fn f cap,args:=#[] }) w,#[]):=by
 have e:resolve (AQ O) ⟨.value x,#[],tys⟩ ty=(pure { target:=.fn f cap,args:=#[] }:Sem Deferred):=by
  unfold resolve;simp only [hx,Deferred.ofValue];simp
 unfold execOp;simp only [e];rfl
variable {E:GX P} {T:(Nat->Value)->List Deferred->GH->Prop}
theorem Jf{t e:TypeId}{d:ChanDir}{n:Operand}(ht:P.underlying t=some (.chan d e))(hi0:(P.info? e).isSome=true)(hn:AQ O n=.int .i64 0)
  (k:∀r h',h r=none->h.Le h'->h' r=some (true,.chan 0 #[] false 0 0 false)->(∀b,b≠r->h' b=h b)->T (putS O dst (.chan (some r))) ds h'):BU E ⟨dst,.makeChan t n,ty,pos,af,gd⟩ O ds h T:=by
 unfold BU execOp;refine FS ?_;unfold Instr.makeChan;rw [hn];refine AH _ _ (Av ?_);refine AH _ _ (Ao ht ?_);simp only [];obtain ⟨inf,hi⟩:=Option.isSome_iff_exists.1 hi0;refine AH _ _ (Cl hi ?_);rw [if_neg (by simp [IntKind.max];decide)];refine AH _ _ ?_;exact λr hr=>k r _ hr (GH.Le.new hr _ _) (GH.set_same _ _ _ _) λb hb=>GH.set_ne _ _ _ hb
end
section
variable {P:Program} {F:MG P Dc} {i i':Option (Cn Dc)} {O:Nat->Value} {ds:List Deferred} {h:GH} {Q:Oe Dc} {ops:Array Oper} {o:Oper} {l:List Oper} {n:Nat} {cj co cd c m k:Nat} {ok:Nat->Bool} {R:List Nat} {z:Value}
theorem Iw.ix{X:Code}{args:Array Value}(e:i=i')(x:Iw F X args i' O h):Iw F X args i O h:=e▸x
theorem HI:GA F ops l (some .never) O ds h Q:=λ_ _ _ _ _ _ _ _ _ _ _ _=>EA.stop rfl
theorem GH.join_none(h:GH):h.join (λ_=>none)=h:=by
 funext b;unfold GH.join;cases h b <;> rfl
theorem UH{s:Dc}{nx:Cn Dc}(hR:F.Rep=Nj n)(hg:o.guard=none)(hdf:Cy o.op=false)(hd:Cw o.dst F.N=true)(hr:∀w,(execOp (AQ O) o).runT P w #[]=(.ok (.comm #[scase c (tVal s) z] true .send) w,#[]))(hs:tOK n s)(hnx:¬nx.isDone)
  (x:GA F ops l (some nx) (putS O o.dst undef) ds h Q):GA F ops (o ::l) (some (.send c s nx)) O ds h Q:=
 YE hg hdf hd hr (GH.split_none h) (by rw [hR];exact ⟨rfl,hs,rfl⟩) hnx x
theorem MQ{f:Option Dc->Cn Dc}{r:Bool}(hR:F.Rep=Nj n)(hg:o.guard=none)(hdf:Cy o.op=false)(hd:Cw o.dst F.N=true)(hr:∀w,(execOp (AQ O) o).runT P w #[]=(.ok (.comm #[rcase c z] true (.recv r)) w,#[]))(hnx:∀o,¬(f o).isDone)
  (x:∀s,tOK n s->GA F ops l (some (f (some s))) (putS O o.dst (recvd r (tVal s) true)) ds h Q) (y:GA F ops l (some (f none)) (putS O o.dst (recvd r z false)) ds h Q):GA F ops (o ::l) (some (.recv c f)) O ds h Q:=
 YF hg hdf hd hr hnx (λs v hm hrep _=>by
  rw [hR] at hrep;obtain ⟨rfl,h2,rfl⟩:=hrep;rw [GH.join_none];exact x s h2) y
theorem UI(hR:F.Rep=Nj n)(hg:o.guard=none)(hdf:Cy o.op=false)(hd:Cw o.dst F.N=true)(hr:∀w,(execOp (AQ O) o).runT P w #[]=(.ok (.comm #[rcase cj z] true (.recv true)) w,#[]))
  (x:∀i,i<n->GA F ops l (some (.send co (.res i (ok i)) (FE cj co cd ok m))) (putS O o.dst (.tuple #[.int .i64 i,.bool true])) ds h Q) (y:GA F ops l (some (.send cd .tick .done)) (putS O o.dst (.tuple #[z,.bool false])) ds h Q) :
  GA F ops (o ::l) (some (FE cj co cd ok (m+1))) O ds h Q:=
 MQ (f:=Tu co cd ok (FE cj co cd ok m)) hR hg hdf hd hr Yc (λs hs=>by
  cases s with
  | job i=>exact x i hs
  | res i b=>exact HI
  | tick=>exact HI) y
theorem UJ(hR:F.Rep=Nj n)(hg:o.guard=none)(hdf:Cy o.op=false)(hd:Cw o.dst F.N=true)(hr:∀w,(execOp (AQ O) o).runT P w #[]=(.ok (.comm #[rcase cd z] true (.recv false)) w,#[]))(hk:k<3)
  (x:GA F ops l (some (D3 co cd (3-(k+1)))) (putS O o.dst (.bool true)) ds h Q):GA F ops (o ::l) (some (D3 co cd (3-k))) O ds h Q:=
 Iy (Vt hk) (MQ (f:=MH (D3 co cd (3-(k+1)))) hR hg hdf hd hr Vs (λs _=>by
  cases s with
  | job i=>exact HI
  | res i b=>exact HI
  | tick=>exact x) HI)
theorem Yj(hR:F.Rep=Nj n)(hg:o.guard=none)(hdf:Cy o.op=false)(hd:Cw o.dst F.N=true)(hr:∀w,(execOp (AQ O) o).runT P w #[]=(.ok (.comm #[rcase co z] true (.recv true)) w,#[]))
  (x:∀i,i<n->i ∈ R->GA F ops l (some (FF co ok m (R.erase i))) (putS O o.dst (.tuple #[.agg #[.int .i64 i,.bool (ok i)],.bool true])) ds h Q) (y:R=[]->GA F ops l (some .stop) (putS O o.dst (.tuple #[z,.bool false])) ds h Q) :
  GA F ops (o ::l) (some (FF co ok (m+1) R)) O ds h Q:=
 MQ (f:=Hw ok R (FF co ok m)) hR hg hdf hd hr Ye (λs hs=>by
  cases s with
  | job i=>exact HI
  | tick=>exact HI
  | res i b=>
   by_cases e:i ∈ R/\b=ok i
   ·obtain ⟨e1,rfl⟩:=e;exact Iy (show some (Hw ok R (FF co ok m) (some (.res i (ok i))))=some (FF co ok m (R.erase i)) by unfold Hw;simp [e1]) (x i hs e1)
   ·exact Iy (show some (Hw ok R (FF co ok m) (some (.res i b)))=some .never by show some (if i ∈ R/\b=ok i then _ else _)=_;rw [if_neg e]) HI) (by
  by_cases e:R=[]
  ·exact Iy (show some (Hw ok R (FF co ok m) none)=some .stop by unfold Hw;rw [if_pos e]) (y e)
  ·exact Iy (show some (Hw ok R (FF co ok m) none)=some .never by unfold Hw;rw [if_neg e]) HI)
end
theorem Au.flags{h h':GH}{js:List AP}(s:h.Same h')(x:Au h js):Au h' js:=λk=>(x k).flags s
theorem AX.flags{h h':GH}{ns:List AM}(s:h.Same h')(x:AX h ns):AX h' ns:=λk=>(x k).flags s
theorem G5.flags{h h':GH}{l:List Sl}(s:h.Same h')(a:G5 h l):G5 h' l:=λk=>(a k).flags s
theorem D4.flags{h h':GH}{r np:Nat}{ws:List AE}{pq:List AI}(s:h.Same h')(x:D4 h r np ws pq):D4 h' r np ws pq:=by
 obtain ⟨pm,M,⟨es,clk,hb,hl⟩,hM⟩:=x;obtain ⟨p',hb'⟩:=s _ _ _ hb;exact ⟨p',M,⟨es,clk,hb',hl⟩,hM⟩
theorem tr_lays5{P:Program}{E:GX P}{id:Nat}{a0 a1 a2 a3 a4:Oper}{rest:List Oper}{d0 d1 d2 d3:Nat}{O:Nat->Value}{ds:List Deferred}{h:GH}{Q:Post}(o0 o1 o2 o3:Obj)(o4:Nat->Obj)(v0 v1 v2 v3:Nat->Value)(hm:P.follows .mixedOrders=true)
  (ok:Fm E.N (a0 ::a1 ::a2 ::a3 ::a4 ::rest) 5 [[],[],[],[],[0,2,3]]=true)
  (g0:a0.guard=none) (g1:a1.guard=none) (g2:a2.guard=none) (g3:a3.guard=none) (g4:a4.guard=none) (e0:a0.dst=some d0) (e1:a1.dst=some d1) (e2:a2.dst=some d2) (e3:a3.dst=some d3)
  (l0:∀σ' h',BU E a0 σ' ds h' λσ'' ds'' h''=>ds''=ds/\∃r,σ''=putS σ' a0.dst (v0 r)/\h' r=none/\h'.Le h''/\h'' r=some (true,o0)) (l1:∀σ' h',BU E a1 σ' ds h' λσ'' ds'' h''=>ds''=ds/\∃r,σ''=putS σ' a1.dst (v1 r)/\h' r=none/\h'.Le h''/\h'' r=some (true,o1))
  (l2:∀σ' h',BU E a2 σ' ds h' λσ'' ds'' h''=>ds''=ds/\∃r,σ''=putS σ' a2.dst (v2 r)/\h' r=none/\h'.Le h''/\h'' r=some (true,o2)) (l3:∀σ' h',BU E a3 σ' ds h' λσ'' ds'' h''=>ds''=ds/\∃r,σ''=putS σ' a3.dst (v3 r)/\h' r=none/\h'.Le h''/\h'' r=some (true,o3))
  (l4:∀r0 r2 σ' h',σ' d0=v0 r0->σ' d2=v2 r2->h' r2=some (true,o2)->BU E a4 σ' ds h' λσ'' ds'' h''=>ds''=ds/\σ''=σ'/\h'' r2=some (true,o4 r0)/\∀b,b≠r2->h'' b=h' b)
  (fin:∀(r0 r1 r2 r3:Nat) σ' h',h.Le h'->(h r0=none/\h' r0=some (true,o0)/\σ' d0=v0 r0)->(h r1=none/\h' r1=some (true,o1)/\σ' d1=v1 r1)->(h r2=none/\h' r2=some (true,o4 r0)/\σ' d2=v2 r2)->(h r3=none/\h' r3=some (true,o3)/\σ' d3=v3 r3)->
   (r0≠r1/\r0≠r2/\r0≠r3/\r1≠r2/\r1≠r3/\r2≠r3)->(∀t,(DR (a0 ::a1 ::a2 ::a3 ::a4 ::rest) 5).contains t=false->σ' t=O t)->DJ E (a0 ::a1 ::a2 ::a3 ::a4 ::rest).toArray rest σ' ds h' Q):Tr E (.region id (a0 ::a1 ::a2 ::a3 ::a4 ::rest).toArray true) O ds h Q:=by
 let l:=a0 ::a1 ::a2 ::a3 ::a4 ::rest;let obj:Nat->Obj:=λi=>match i with | 0=>o0 | 1=>o1 | 2=>o2 | _=>o3
 let val:Nat->Nat->Value:=λi=>match i with | 0=>v0 | 1=>v1 | 2=>v2 | _=>v3
 have lay:∀i o,i<4->l[i]? =some o->∀σ' h',BU E o σ' ds h' λσ'' ds'' h''=>ds''=ds/\∃r,σ''=putS σ' o.dst (val i r)/\h' r=none/\h'.Le h''/\h'' r=some (true,obj i):=by
  intro i o hi ho σ' h';rcases i with _ | _ | _ | _ | i
  ·cases ho;exact l0 σ' h'
  ·cases ho;exact l1 σ' h'
  ·cases ho;exact l2 σ' h'
  ·cases ho;exact l3 σ' h'
  ·omega
 have nd:(DR l 5).Nodup:=by
  have:=ok
  unfold Fm at this;simp only [Bool.and_eq_true] at this;exact of_decide_eq_true this.1.2
 refine TZ 5 [[],[],[],[],[0,2,3]] (λD σ' h'=>h.Le h'/\(D 4=true->D 0=true/\D 2=true)/\∃rs:Nat->Nat,(∀i,i<4->D i=true->h (rs i)=none/\h' (rs i)=some (true,if i=2/\D 4=true then o4 (rs 0) else obj i)/\∀o d,l[i]? =some o->o.dst=some d->σ' d=val i (rs i))/\
  (∀i j,i<4->j<4->D i=true->D j=true->i≠j->rs i≠rs j)/\∀t,(DR l 5).contains t=false->σ' t=O t) hm ok ⟨GH.Le.refl _,(λe=>by cases e),λ_=>0,(λ_ _ q=>by cases q),(λ_ _ _ _ q=>by cases q),λ_ _=>rfl⟩ ?_ ?_
 ·rintro D σ' h' i o ⟨l1',hD4,rs,h1,h2,h3⟩ hi hD ho hcl _;have hgd:o.guard=none:=by
   rcases i with _ | _ | _ | _ | _ | i
   ·cases ho;exact g0
   ·cases ho;exact g1
   ·cases ho;exact g2
   ·cases ho;exact g3
   ·cases ho;exact g4
   ·omega
  refine ⟨λ_=>?_,λq=>absurd (by unfold DG;rw [hgd];trivial) q⟩;by_cases hi4:i=4
  ·subst hi4;have c0:D 0=true:=hcl 0 aD;have c2:D 2=true:=hcl 2 aD;cases ho;obtain ⟨q1,q2,q3⟩:=h1 0 aC c0;obtain ⟨p1,p2,p3⟩:=h1 2 aC c2;rw [if_neg (λe=>by rw [hD] at e;cases e.2)] at p2;refine (l4 (rs 0) (rs 2) σ' h' (q3 a0 d0 rfl e0) (p3 a2 d2 rfl e2) p2).mono λσ'' ds'' h'' q=>?_;obtain ⟨rfl,rfl,k1,k2⟩:=q;refine ⟨rfl,λb p x hb=>?_,λ_=>⟨by rw [Bh aC];exact c0,by rw [Bh aC];exact c2⟩,rs,λj hj hDj=>?_,λa b ha hb hDa hDb hab=>?_,h3⟩
   ·rw [k2 b λe=>by subst e;rw [p1] at hb;cases hb];exact l1' b p x hb
   ·rw [Bh aA] at hDj;obtain ⟨u1,u2,u3⟩:=h1 j hj hDj;refine ⟨u1,?_,u3⟩;by_cases ej:j=2
    ·subst ej;rw [if_pos ⟨rfl,if_pos rfl⟩];exact k1
    ·rw [if_neg (λe=>ej e.1),k2 _ (h2 j 2 hj aC hDj c2 ej)];rw [if_neg (λe=>ej e.1)] at u2;exact u2
   ·rw [Bh aA] at hDa hDb;exact h2 a b ha hb hDa hDb hab
  ·have hi':i<4:=aA
   refine (lay i o hi' ho σ' h').mono λσ'' ds'' h'' q=>?_;obtain ⟨rfl,r,rfl,hr,l2',hr2⟩:=q;have h4e:Gy D i 4=D 4:=Bh (λe=>hi4 e.symm);have hne:∀j,j<4->D j=true->rs j≠r:=λj hj hDj e=>by
    have:=(h1 j hj hDj).2.1
    rw [e,hr] at this;cases this
   refine ⟨rfl,l1'.trans l2',λe=>?_,λj=>if j=i then r else rs j,λj hj hDj=>?_,λa b ha hb hDa hDb hab=>?_,λt ht=>?_⟩
   ·rw [h4e] at e;obtain ⟨c0,c2⟩:=hD4 e;exact ⟨by rw [Bh (λq=>by subst q;rw [hD] at c0;cases c0)];exact c0,by rw [Bh (λq=>by subst q;rw [hD] at c2;cases c2)];exact c2⟩
   ·by_cases e:j=i
    ·subst e;dsimp only;rw [if_pos rfl];refine ⟨l1'.nothing hr,?_,λo' d ho' hd=>?_⟩
     ·rw [if_neg (λe=>by have e2:=e.2;rw [h4e] at e2;have e3:=(hD4 e2).2;rw [<-e.1,hD] at e3;cases e3)];exact hr2
     ·obtain rfl:o'=o:=Option.some.inj (ho'.symm.trans ho);rw [hd];exact upd_same _ _ _
    ·dsimp only;rw [if_neg e];rw [Bh e] at hDj;obtain ⟨q1,q2,q3⟩:=h1 j hj hDj;refine ⟨q1,?_,λo' d ho' hd=>by rw [Cp λd' hd'=>Dt nd hi (aA:j<5) (λq=>e q.symm) ho ho' hd' hd];exact q3 o' d ho' hd⟩;rw [h4e];by_cases hc:j=2/\D 4=true
     ·rw [if_pos hc] at q2 ⊢;rw [if_neg (λq=>by have c0:=(hD4 hc.2).1;rw [q,hD] at c0;cases c0)];exact l2'.keep q2 rfl
     ·rw [if_neg hc] at q2 ⊢;exact l2'.keep q2 rfl
   ·show (if a=i then r else rs a)≠(if b=i then r else rs b);by_cases ea:a=i
    ·by_cases eb:b=i
     ·exact absurd (ea.trans eb.symm) hab
     ·rw [if_pos ea,if_neg eb];rw [Bh eb] at hDb;exact (hne b hb hDb).symm
    ·rw [Bh ea] at hDa;by_cases eb:b=i
     ·rw [if_neg ea,if_pos eb];exact hne a ha hDa
     ·rw [if_neg ea,if_neg eb];rw [Bh eb] at hDb;exact h2 a b ha hb hDa hDb hab
   ·rw [Cp (HB hi ho ht)];exact h3 t ht
 ·rintro D σ' h' ⟨l1',hD4,rs,h1,h2,h3⟩ hall;have A:∀i,i<5->D i=true:=hall;have f0:=h1 0 aC (A 0 aC);have f1:=h1 1 aC (A 1 aC);have f2:=h1 2 aC (A 2 aC);have f3:=h1 3 aC (A 3 aC);rw [if_neg (λe=>by have:=e.1;omega)] at f0;rw [if_neg (λe=>by have:=e.1;omega)] at f1;rw [if_pos ⟨rfl,A 4 aC⟩] at f2;rw [if_neg (λe=>by have:=e.1;omega)] at f3;have ne:=λi j (hi:i<4) (hj:j<4)=>h2 i j hi hj (A i aA) (A j aA);exact fin (rs 0) (rs 1) (rs 2) (rs 3) σ' h' l1' ⟨f0.1,f0.2.1,f0.2.2 a0 d0 rfl e0⟩ ⟨f1.1,f1.2.1,f1.2.2 a1 d1 rfl e1⟩ ⟨f2.1,f2.2.1,f2.2.2 a2 d2 rfl e2⟩ ⟨f3.1,f3.2.1,f3.2.2 a3 d3 rfl e3⟩
   ⟨ne 0 1 aC aC aC,ne 0 2 aC aC aC,ne 0 3 aC aC aC,ne 1 2 aC aC aC,ne 1 3 aC aC aC,ne 2 3 aC aC aC⟩ h3
section
variable {h h' h0:GH} {r:Nat}
theorem GH.cut_ne{b:Nat}(e:b≠r):h.cut r b=h b:=if_neg e
theorem GH.Le.cut(l:h0.Le h)(n:h0 r=none):h0.Le (h.cut r):=λb p o hb=>by
 rw [GH.cut_ne λe=>by subst e;rw [n] at hb;cases hb];exact l b p o hb
theorem AT.cut{V:Type}{v:Value}{t:TypeId}{n:Nat}{enc:V->Array Value}{xs:List V}(x:AT h0 h v t n enc xs)(f:BG v r):AT h0 (h.cut r) v t n enc xs:=
 x.keep λb o hb ho=>by rw [GH.cut_ne λe=>by subst e;exact f hb];exact ho
theorem AT.del'{V:Type}{v:Value}{t:TypeId}{n:Nat}{enc:V->Array Value}{xs:List V}(x:AT h0 h v t n enc xs)(f:BG v r):AT h0 (h.del r) v t n enc xs:=
 x.keep λb o hb ho=>by rw [GH.del_ne λe=>by subst e;exact f hb];exact ho
theorem D1.keep3{X:Nat->Prop}{t0 T t:TypeId}{n l:Nat}{w v:Value}{p q:Bool}{c:Array Value}{f:Nat×Nat}{lo:Loop}{ys:List Sl}{hB:GH}{ys':List Int}(x:D1 h t0 v ys')(k:Ba X h h')(hX:∀b,X b->(b=r\/Cb w=some b)\/b=l)(hr:h r=some (p,.cells c T f))(ow:AT hB h w t n K6 ys)(hl:h l=some (q,.loop lo))(n1:T≠t0)(n2:t≠t0):D1 h' t0 v ys':=
 x.keepX k λb hb q2=>by
  obtain ⟨p2,c2,f2,e⟩:=x.2 b hb;rcases hX b q2 with (rfl | q3) | rfl
  ·rw [hr] at e;cases e;exact n1 rfl
  ·rcases ow with ⟨rfl,_⟩ | ⟨b1,cap,c1,rfl,_,h2,_⟩
   ·cases q3
   ·simp only [Cb,Option.some.injEq] at q3;subst q3;rw [h2] at e;cases e;exact n2 rfl
  ·rw [hl] at e;cases e
theorem Ba.mono{X Y:Nat->Prop}(k:Ba X h h')(s:∀b,X b->Y b):Ba Y h h':=λb p o hb hn=>k b p o hb λx=>hn (s b x)
end
theorem Yk{n:Nat}{fl:List Sl}(h:A4 fl=DL (Dh n))(hn:n<=4)(i:Nat):Sw n (fl.getD i Sl.z).2:=by
 by_cases hi:i<fl.length
 ·refine Jd (λx hx=>O7 hx) (by rw [Dx];exact hn) (r:=(fl.getD i Sl.z).2) ?_;rw [<-h,<-FU hi];exact Bz (by rw [CA];exact hi)
 ·rw [CK aA];exact ⟨λk hk=>absurd hk (Nat.not_lt_zero _),Nat.zero_le _⟩
theorem D1.storeD{h h':GH}{t:TypeId}{v:Value}{xs:List Int}{r:Nat}{p:Bool}{q:Option (List Deferred)}(x:D1 h t v xs)(hr:h r=some (p,.deferred q))(ho:∀b,b≠r->h' b=h b):D1 h' t v xs:=
 x.same λb hb=>ho b λe=>by
  obtain ⟨p2,c2,f2,z⟩:=x.2 b hb;rw [e,hr] at z;cases z
theorem CX.storeD{h h':GH}{t:TypeId}{l:List Sl}{r:Nat}{p:Bool}{q:Option (List Deferred)}(x:CX h t l)(hr:h r=some (p,.deferred q))(ho:∀b,b≠r->h' b=h b):CX h' t l:=λk=>
 (x k).same λb hb=>ho b λe=>by
  obtain ⟨p2,c2,f2,z⟩:=(x k).2 b hb;rw [e,hr] at z;cases z
theorem selS_all{fl:List Sl}{G:List Int->Bool}{all:List (List Int)}{k:Nat}(h:A4 fl=all)(h1:k<=fl.length)(h2:fl.length<=k):A4 (Ix fl (λi=>G (fl.getD i Sl.z).2) k)=all.filter G:=by
 rw [PA k h1,List.take_of_length_le (by rw [CA];exact h2),h]
theorem CX.sel{h:GH}{t:TypeId}{fl:List Sl}{ok:Nat->Bool}{k:Nat}(a:CX h t fl):CX h t (Ix fl ok k):=by
 induction k with
 | zero=>exact CX.nil h t
 | succ k ih=>
  unfold Ix;split
  ·exact CX.app ih (CX.one (a k))
  ·exact ih
end Go.Ns
namespace Go.Ns
theorem Sy{P:Program}{O:Nat->Value}{h:GH}{fn:Func}{R:Value->GH->Prop}{a u s:Tmp}{t:TypeId}{b off:Nat}{v v' v2:Value}(hr:fn.results=#[.tmp u,.cell a t,.tmp s])(hv:O u=v)(ha:O a=.pointer (some ⟨b,off,none⟩))(hv':Rd P h t b off v')(hv2:O s=v2)(x:R (.tuple #[v,v',v2]) h):GE P fn O R [] h:=by
 unfold GE;rw [hr];subst hv;subst hv2;exact ⟨b,off,v',ha,hv',x⟩
section
variable (np:Nat) (ws:List AE) (js:List AP) (pq:List AI) (bag kinds:Int)
def Hh:List (List Int):=(DL (Dh js.length)).filter (λq=>CD np ws js pq q bag kinds)
end
def N0(g:List (List Int))(x:List Int):List (List Int):=if 0<g.length/\(g.getD 0 []).length<x.length then [] else g
def N1(g:List (List Int))(x:List Int):List (List Int):=if g.length=0\/x.length=(g.getD 0 []).length then g++[x] else g
def UK(g:List (List Int))(x:List Int):List (List Int):=N1 (N0 g x) x
def S0(l:List (List Int)):Nat->List (List Int)
 | 0=>[]
 | k+1=>UK (S0 l k) (l.getD k [])
def Gq(g:List Sl)(x:Sl):List Sl:=if 0<g.length/\(g.getD 0 Sl.z).2.length<x.2.length then [] else g
def Hi(g:List Sl)(x:Sl):List Sl:=if g.length=0\/x.2.length=(g.getD 0 Sl.z).2.length then g++[x] else g
def C3(g:List Sl)(x:Sl):List Sl:=Hi (Gq g x) x
def BF(l:List Sl):Nat->List Sl
 | 0=>[]
 | k+1=>C3 (BF l k) (l.getD k Sl.z)
section
variable {l g:List Sl} {x:Sl} {k:Nat}
theorem PC(h0:0<g.length)(h1:(g.getD 0 Sl.z).2.length<x.2.length):C3 g x=[x]:=by
 unfold C3 Gq;rw [if_pos ⟨h0,h1⟩];rfl
theorem PD(h0:0<g.length)(h1:x.2.length=(g.getD 0 Sl.z).2.length):C3 g x=g++[x]:=by
 unfold C3 Gq;rw [if_neg (λe=>by have:=e.2;omega)];unfold Hi;rw [if_pos (.inr h1)]
theorem PE(h0:0<g.length)(h1:x.2.length<(g.getD 0 Sl.z).2.length):C3 g x=g:=by
 unfold C3 Gq;rw [if_neg (λe=>by have:=e.2;omega)];unfold Hi;rw [if_neg];rintro (e | e) <;> omega
theorem PG(h0:g.length=0):C3 g x=g++[x]:=by
 unfold C3 Gq;rw [if_neg (λe=>by have:=e.1;omega)];unfold Hi;rw [if_pos (.inl h0)]
theorem goodS_a(h0:0<(BF l k).length)(h1:((BF l k).getD 0 Sl.z).2.length<(l.getD k Sl.z).2.length):BF l (k+1)=[l.getD k Sl.z]:=PC h0 h1
theorem goodS_b(h0:0<(BF l k).length)(h1:(l.getD k Sl.z).2.length=((BF l k).getD 0 Sl.z).2.length):BF l (k+1)=BF l k++[l.getD k Sl.z]:=PD h0 h1
theorem goodS_c(h0:0<(BF l k).length)(h1:¬((BF l k).getD 0 Sl.z).2.length<(l.getD k Sl.z).2.length)(h2:¬(l.getD k Sl.z).2.length=((BF l k).getD 0 Sl.z).2.length):BF l (k+1)=BF l k:=PE h0 aA
theorem goodS_d(h0:(BF l k).length=0):BF l (k+1)=BF l k++[l.getD k Sl.z]:=PG h0
theorem goodS_t(h1:¬(0<(BF l k).length/\((BF l k).getD 0 Sl.z).2.length<(l.getD k Sl.z).2.length))(h2:(BF l k).length=0\/(l.getD k Sl.z).2.length=((BF l k).getD 0 Sl.z).2.length):BF l (k+1)=BF l k++[l.getD k Sl.z]:=by
 by_cases h0:(BF l k).length=0
 ·exact goodS_d h0
 ·exact goodS_b aA aA
theorem goodS_f(h1:¬(0<(BF l k).length/\((BF l k).getD 0 Sl.z).2.length<(l.getD k Sl.z).2.length))(h2:¬((BF l k).length=0\/(l.getD k Sl.z).2.length=((BF l k).getD 0 Sl.z).2.length)):BF l (k+1)=BF l k:=goodS_c aA aA aA
theorem Hj(g:List Sl)(x:Sl):C3 g x=[x]\/C3 g x=g++[x]\/(C3 g x=g/\0<g.length):=by
 by_cases h0:g.length=0
 ·exact .inr (.inl (PG h0))
 ·by_cases h1:(g.getD 0 Sl.z).2.length<x.2.length
  ·exact .inl (PC aA h1)
  ·by_cases h2:x.2.length=(g.getD 0 Sl.z).2.length
   ·exact .inr (.inl (PD aA h2))
   ·exact .inr (.inr ⟨PE aA aA,aA⟩)
theorem Yl:∀k,0<k->0<(BF l k).length
 | k+1,_=>by
  show 0<(C3 (BF l k) (l.getD k Sl.z)).length;rcases Hj (BF l k) (l.getD k Sl.z) with e | e | ⟨e,h⟩ <;> rw [e]
  ·exact Nat.zero_lt_one
  ·rw [List.length_append];exact Nat.succ_pos _
  ·exact h
theorem RT:∀k,(BF l k).length<=k
 | 0=>Nat.le_refl _
 | k+1=>by
  have ih:=RT k;show (C3 (BF l k) (l.getD k Sl.z)).length<=_;rcases Hj (BF l k) (l.getD k Sl.z) with e | e | ⟨e,_⟩ <;> rw [e]
  ·simp
  ·rw [List.length_append,List.length_singleton];omega
  ·omega
theorem MR:∀k,k<=l.length->∀y ∈ BF l k,y ∈ l
 | 0,_,y,hy=>by cases hy
 | k+1,hk,y,hy=>by
  have ih:=MR k aA;have hx:l.getD k Sl.z ∈ l:=Bz aA;change y ∈ C3 (BF l k) (l.getD k Sl.z) at hy;rcases Hj (BF l k) (l.getD k Sl.z) with e | e | ⟨e,_⟩ <;> rw [e] at hy
  ·rw [List.mem_singleton.1 hy];exact hx
  ·rcases List.mem_append.1 hy with hy | hy
   ·exact ih y hy
   ·rw [List.mem_singleton.1 hy];exact hx
  ·exact ih y hy
theorem NP:∀k,k<=l.length->A4 (BF l k)=S0 (A4 l) k
 | 0,_=>rfl
 | k+1,hk=>by
  have ih:=NP k aA;have hg:∀g:List Sl,(g.getD 0 Sl.z).2=(A4 g).getD 0 []:=λg=>by cases g <;> rfl
  show A4 (C3 (BF l k) (l.getD k Sl.z))=UK (S0 (A4 l) k) ((A4 l).getD k []);rw [<-ih,FU aA];have hc:A4 (Gq (BF l k) (l.getD k Sl.z))=N0 (A4 (BF l k)) (l.getD k Sl.z).2:=by
   unfold Gq N0;rw [hg,CA];split <;> rfl
  have ha:∀g:List Sl,A4 (Hi g (l.getD k Sl.z))=N1 (A4 g) (l.getD k Sl.z).2:=λg=>by
   unfold Hi N1;rw [hg,CA];split
   ·rw [MN];rfl
   ·rfl
  show A4 (Hi (Gq (BF l k) (l.getD k Sl.z)) (l.getD k Sl.z))=N1 (N0 (A4 (BF l k)) _) _;rw [ha,hc]
end
theorem CX.good{h:GH}{t:TypeId}{l:List Sl}{k:Nat}(a:CX h t l)(hk:k<=l.length):CX h t (BF l k):=.of λx hx=>a.at (MR k hk x hx)
section
variable {np:Nat} {ws:List AE} {js:List AP} {pq:List AI} {bag kinds:Int} {fs:List Sl}
theorem Xh(h:A4 fs=Hh np ws js pq bag kinds)(hn:js.length<=4):∀x ∈ fs,Sw js.length x.2:=λx hx=>by
 have:x.2 ∈ A4 fs:=List.mem_map_of_mem hx
 rw [h] at this;exact Jd (λy hy=>O7 hy) (by rw [Dx];exact hn) (List.mem_filter.1 this).1
theorem UL(h:A4 fs=Hh np ws js pq bag kinds)(hn:js.length<=4)(i:Nat):Sw js.length (fs.getD i Sl.z).2:=by
 by_cases hi:i<fs.length
 ·exact Xh h hn _ (Bz hi)
 ·rw [CK aA];exact ⟨λk hk=>absurd hk (Nat.not_lt_zero _),Nat.zero_le _⟩
theorem safe_nil(hb:0<=bag):CD np ws js pq [] bag kinds=true:=by
 unfold CD;have e:(DE kinds js []).sum=0:=by
  show (List.replicate kinds.toNat (0:Int)).sum=0;generalize kinds.toNat=n
  induction n with
  | zero=>rfl
  | succ n ih=>rw [List.replicate_succ,List.sum_cons,ih];rfl
 rw [e,decide_eq_true hb];rfl
theorem Vv(hb:0<=bag):0<(Hh np ws js pq bag kinds).length:=by
 refine List.length_pos_of_mem (a:=[]) (List.mem_filter.2 ⟨?_,safe_nil hb⟩);unfold DL;rw [Gh];exact List.mem_cons_self
theorem PH(hn:js.length<=4):(Hh np ws js pq bag kinds).length<=625:=
 Nat.le_trans (List.length_filter_le _ _) (HH (by rw [Dx];exact hn))
theorem RU{G:List Int->Int}:∀(l:List (List Int)),0<l.length->∀k,k<=l.length-1->(Dp G l k).1 ∈ l
 | l,h,0,_=>Bz h
 | l,h,k+1,hk=>by
  unfold Dp;split
  ·exact List.mem_of_mem_drop (Bz (by rw [List.length_drop];omega))
  ·exact RU l h k aA
theorem Lb{n:Nat}{G:List Int->Int}{l:List Sl}(h:∀x ∈ l,Sw n x.2)(hl:0<l.length):Sw n (DM G (A4 l)):=by
 have:=RU (G:=G) (A4 l) (by rw [CA];exact hl) ((A4 l).length-1) (Nat.le_refl _)
 obtain ⟨x,hx,e⟩:=List.mem_map.1 this;unfold DM;rw [<-e];exact h x hx
end
section
variable (bag kinds:Int) (ps:List ByteArray) (ws:List AE) (js:List AP) (ns:List AM)
def Vw:List Int:=DM (λl=>An (λx=>A1 ps.length ws js x l) (AA ws js ns)) (S0 (Hh ps.length ws js (AA ws js ns) bag kinds) (Hh ps.length ws js (AA ws js ns) bag kinds).length)
def KT:List Int:=if¬AD bag kinds ps ws js ns 0=0 then [] else Vw bag kinds ps ws js ns
end
section
variable {bag kinds:Int} {ps:List ByteArray} {ws:List AE} {js:List AP} {ns:List AM} {fs:List Sl} {k:Nat}
theorem best_end(h:A4 fs=Hh ps.length ws js (AA ws js ns) bag kinds)(h1:k<=fs.length)(h2:fs.length<=k):Vw bag kinds ps ws js ns=DM (λl=>An (λx=>A1 ps.length ws js x l) (AA ws js ns)) (A4 (BF fs k)):=by
 unfold Vw;rw [NP k h1,h,<-h,CA,show fs.length=k by omega]
theorem UM(h0:¬¬AD bag kinds ps ws js ns 0=0)(h:A4 fs=Hh ps.length ws js (AA ws js ns) bag kinds)(h1:k<=fs.length)(h2:fs.length<=k):KT bag kinds ps ws js ns=DM (λl=>An (λx=>A1 ps.length ws js x l) (AA ws js ns)) (A4 (BF fs k)):=(if_neg h0).trans (best_end h h1 h2)
end
def S1(c:He)(l:List Int):Nat->He
 | 0=>c
 | i+1=>(S1 c l i).set (l.getD i 0).toNat true
def GQ(ls:List (List Int)):Nat->He
 | 0=>He.none
 | k+1=>S1 (GQ ls k) (ls.getD k []) (ls.getD k []).length
def Er(c:He):Nat->List Int
 | 0=>[]
 | q+1=>if c q=true then Er c q else Er c q++[(q:Int)]
theorem neverL_t{c:He}{q:Nat}(h:c q=true):Er c (q+1)=Er c q:=if_pos h
theorem neverL_f{c:He}{q:Nat}(h:c q=false):Er c (q+1)=Er c q++[(q:Int)]:=if_neg (by rw [h];simp)
theorem PI(c:He):∀q,(Er c q).length<=q
 | 0=>Nat.le_refl _
 | q+1=>by
  have:=PI c q
  unfold Er;split
  ·omega
  ·rw [List.length_append,List.length_singleton];omega
section
variable (bag kinds:Int) (ps:List ByteArray) (ws:List AE) (js:List AP) (ns:List AM)
def MS:List Int:=if¬AD bag kinds ps ws js ns 0=0 then [] else Er (GQ (Hh ps.length ws js (AA ws js ns) bag kinds) (Hh ps.length ws js (AA ws js ns) bag kinds).length) js.length
end
section
variable {bag kinds:Int} {ps:List ByteArray} {ws:List AE} {js:List AP} {ns:List AM} {fs:List Sl} {k q:Nat}
theorem Ym{i:Nat}(hk:k<fs.length)(h1:i<=(fs.getD k Sl.z).2.length)(h2:(fs.getD k Sl.z).2.length<=i):GQ (A4 fs) (k+1)=S1 (GQ (A4 fs) k) (fs.getD k Sl.z).2 i:=by
 unfold GQ;rw [FU hk,show (fs.getD k Sl.z).2.length=i by omega];cases k <;> rfl
theorem Yn(h0:¬¬AD bag kinds ps ws js ns 0=0)(h:A4 fs=Hh ps.length ws js (AA ws js ns) bag kinds)(h1:k<=fs.length)(h2:fs.length<=k)(h3:q<=js.length)(h4:js.length<=q):MS bag kinds ps ws js ns=Er (GQ (A4 fs) k) q:=
 (if_neg h0).trans (by rw [<-h,CA,show fs.length=k by omega,show js.length=q by omega])
end
end Go.Ns
namespace Go.Ns
theorem UN{nj:Nat}{l:List Int}(h:Ai nj l=0):l.Nodup:=by
 rw [List.nodup_iff_pairwise_ne];rw [List.pairwise_iff_getElem];intro i j hi hj hij e;have h1:=DK h j (Nat.zero_le _) aA;unfold Hx at h1;split at h1
 ·rename_i a;exact a h1
 ·split at h1
  ·cases h1
  ·rename_i a
   refine a (List.any_eq_true.2 ⟨l[i],List.mem_take_iff_getElem.2 ⟨i,aA,rfl⟩,?_⟩);rw [List.getD_eq_getElem?_getD,List.getElem?_eq_getElem hj];exact decide_eq_true e.symm
theorem NQ{jobs:List Int}(nd:jobs.Nodup):∀(rest done:List Int),jobs=done++rest->jobs ∈ BT jobs rest.length done
 | [],done,e=>by rw [e,List.append_nil];exact List.mem_singleton.2 rfl
 | k ::rest,done,e=>by
  have ih:=NQ nd rest (done++[k]) (by rw [e];simp);show jobs ∈ done ::jobs.flatMap _;refine List.mem_cons_of_mem _ (List.mem_flatMap.2 ⟨k,by rw [e];simp,?_⟩);have hn:IH done k=false:=by
   cases hh:IH done k with
   | false=>rfl
   | true=>
    exfalso;obtain ⟨x,hx,hk⟩:=List.any_eq_true.1 hh;have hk':k=x:=of_decide_eq_true hk;rw [e,List.nodup_append] at nd;exact nd.2.2 x hx k List.mem_cons_self hk'.symm
  rw [if_neg (by rw [hn];simp)];exact ih
def Xi(jobs:List Int)(n:Nat):List (List Int):=(DL jobs).filter λq=>decide (q.length=n)
theorem Yo{l:List Int}(nd:l.Nodup):0<(Xi (Eb l) l.length).length:=by
 have hs:(Eb l).Nodup:=by rw [LN];exact (List.mergeSort_perm l _).nodup_iff.2 nd
 have:=NQ hs (Eb l) [] rfl
 exact List.length_pos_of_mem (List.mem_filter.2 ⟨this,decide_eq_true (Do l)⟩)
section
variable (bag kinds:Int) (ps:List ByteArray) (ws:List AE) (js:List AP) (ns:List AM) (l:List Int)
def swiftL:List Int:=DM (λl=>An (λx=>A1 ps.length ws js x l) (AA ws js ns)) (Xi (Eb l) l.length)
def II:List Int:=if¬AD bag kinds ps ws js ns (Ai js.length l)=0 then [] else swiftL ps ws js ns l
end
section
variable {bag kinds:Int} {ps:List ByteArray} {ws:List AE} {js:List AP} {ns:List AM} {l:List Int} {fl:List Sl} {nj:Nat}
theorem RV(h0:¬¬AD bag kinds ps ws js ns (Ai js.length l)=0)(h:A4 fl=Xi (Eb l) l.length):II bag kinds ps ws js ns l=DM (λl=>An (λx=>A1 ps.length ws js x l) (AA ws js ns)) (A4 fl):=(if_neg h0).trans (by unfold swiftL;rw [h])
theorem full_ok(h:A4 fl=Xi (Eb l) l.length)(hr:∀k,k<l.length->0<=l.getD k 0/\l.getD k 0<nj)(h4:l.length<=4):∀x ∈ fl,Sw nj x.2:=λx hx=>by
 have:x.2 ∈ A4 fl:=List.mem_map_of_mem hx
 rw [h] at this;refine Jd (λy hy=>?_) (by rw [Do];exact h4) (List.mem_filter.1 this).1;rw [LN,List.mem_mergeSort] at hy;obtain ⟨i,hi,e⟩:=List.mem_iff_getElem.1 hy
 have:=hr i hi
 rw [List.getD_eq_getElem?_getD,List.getElem?_eq_getElem hi,Option.getD_some,e] at this;exact this
end
end Go.Ns
namespace Go.Ns
def PV(h:GH)(t:TypeId)(f:Nat->Value)(L:Nat->List Int)(k:Nat):Prop:=∀i,i<k->D1 h t (f i) (L i)
section
variable {h h' h0:GH} {t t':TypeId} {f:Nat->Value} {L:Nat->List Int} {k r:Nat} {w v v':Value} {p:Bool} {c:Array Value} {g:Nat×Nat}
theorem PV.zero:PV h t f L 0:=λ_ hi=>absurd hi (Nat.not_lt_zero _)
theorem PV.le(x:PV h t f L k)(l:h.Le h'):PV h' t f L k:=λi hi=>(x i hi).le l
theorem PV.store(x:PV h t f L k)(hr:h r=some (p,.cells c t' g))(ne:t'≠t)(ho:∀b,b≠r->h' b=h b):PV h' t f L k:=λi hi=>(x i hi).store hr ne ho
theorem PV.next(x:PV h t f L k)(y:D1 h t w (L k)):PV h t (λi=>if i=k then w else f i) L (k+1):=λi hi=>by
 show D1 h t (if i=k then w else f i) (L i);by_cases e:i=k
 ·rw [if_pos e,e];exact y
 ·rw [if_neg e];exact x i aA
end
def AP.re(j:AP)(v:Value):AP:={ j with pv:=v }
def AM.re(j:AM)(v:Value):AM:={ j with wv:=v }
def HO(js:List AP)(f:Nat->Value)(k:Nat):List AP:=(List.range js.length).map λi=>if i<k then (js.getD i AP.z).re (f i) else js.getD i AP.z
def IJ(ns:List AM)(f:Nat->Value)(k:Nat):List AM:=(List.range ns.length).map λi=>if i<k then (ns.getD i AM.z).re (f i) else ns.getD i AM.z
section
variable {V:Type} {z:V} {l:List V} {F:Nat->V->V} {k:Nat}
def reL(z:V)(l:List V)(F:Nat->V->V)(k:Nat):List V:=(List.range l.length).map λi=>if i<k then F i (l.getD i z) else l.getD i z
theorem J4:(reL z l F k).length=l.length:=by unfold reL;rw [List.length_map,List.length_range]
theorem Hz{i:Nat}(hi:i<l.length):(reL z l F k).getD i z=if i<k then F i (l.getD i z) else l.getD i z:=by
 unfold reL;rw [List.getD_eq_getElem?_getD,List.getElem?_map,List.getElem?_range hi];rfl
theorem S3{i:Nat}(hi:i<(reL z l F k).length):(reL z l F k)[i]=if i<k then F i (l.getD i z) else l.getD i z:=by
 have e:=Hz (z:=z) (F:=F) (k:=k) (show i<l.length by rw [<-J4 (z:=z) (F:=F) (k:=k)];exact hi);rw [List.getD_eq_getElem?_getD,List.getElem?_eq_getElem hi] at e;exact e
theorem reL_0:reL z l F 0=l:=by
 refine List.ext_getElem J4 λi h1 h2=>?_;rw [S3,if_neg (Nat.not_lt_zero _),List.getD_eq_getElem?_getD,List.getElem?_eq_getElem h2];rfl
theorem Xj{G:Nat->V->V}(hk:k<l.length)(hG:∀i,i<k->∀x,G i x=F i x):(reL z l F k).set k (G k ((reL z l F k).getD k z))=reL z l G (k+1):=by
 rw [Hz hk,if_neg (Nat.lt_irrefl _)];refine List.ext_getElem (by rw [List.length_set,J4,J4]) λi h1 h2=>?_;rw [List.getElem_set,S3];by_cases e:k=i
 ·subst e;rw [if_pos rfl,S3,if_pos aA]
 ·rw [if_neg e,S3];by_cases e2:i<k
  ·rw [if_pos e2,if_pos aA,hG i e2]
  ·rw [if_neg e2,if_neg aA]
end
section
variable {h:GH} {t:TypeId} {f:Nat->Value} {js:List AP} {ns:List AM} {k:Nat} {w:Value}
theorem PJ:HO js f k=reL AP.z js (λi j=>j.re (f i)) k:=rfl
theorem PK:IJ ns f k=reL AM.z ns (λi j=>j.re (f i)) k:=rfl
theorem N2(js:List AP)(f:Nat->Value)(k:Nat):(HO js f k).length=js.length:=by rw [PJ];exact J4
theorem N3(ns:List AM)(f:Nat->Value)(k:Nat):(IJ ns f k).length=ns.length:=by rw [PK];exact J4
theorem reJ_0:HO js f 0=js:=by rw [PJ];exact reL_0
theorem reN_0:IJ ns f 0=ns:=by rw [PK];exact reL_0
theorem reJ_put(hk:k<js.length):(HO js f k).set k (((HO js f k).getD k AP.z).re w)=HO js (λi=>if i=k then w else f i) (k+1):=by
 have:=Xj (z:=AP.z) (l:=js) (F:=λi j=>j.re (f i)) (G:=λi j=>j.re (if i=k then w else f i)) hk (λi hi x=>by rw [if_neg aA])
 rw [if_pos rfl] at this;exact this
theorem reN_put(hk:k<ns.length):(IJ ns f k).set k (((IJ ns f k).getD k AM.z).re w)=IJ ns (λi=>if i=k then w else f i) (k+1):=by
 have:=Xj (z:=AM.z) (l:=ns) (F:=λi j=>j.re (f i)) (G:=λi j=>j.re (if i=k then w else f i)) hk (λi hi x=>by rw [if_neg aA])
 rw [if_pos rfl] at this;exact this
theorem RW(js:List AP)(f:Nat->Value)(k i:Nat):((HO js f k).getD i AP.z).parts=(js.getD i AP.z).parts:=by
 by_cases hi:i<js.length
 ·rw [PJ,Hz hi];split <;> rfl
 ·rw [CK (by rw [N2];omega),CK aA]
theorem UO(ns:List AM)(f:Nat->Value)(k i:Nat):((IJ ns f k).getD i AM.z).ways=(ns.getD i AM.z).ways:=by
 by_cases hi:i<ns.length
 ·rw [PK,Hz hi];split <;> rfl
 ·rw [CK (by rw [N3];omega),CK aA]
theorem Au.re(x:Au h js)(y:PV h t f (λi=>(js.getD i AP.z).parts) k):Au h (HO js f k):=λi=>by
 by_cases hi:i<js.length
 ·rw [PJ,Hz hi];by_cases e:i<k
  ·rw [if_pos e];exact (y i e).1
  ·rw [if_neg e];exact x i
 ·rw [CK (by rw [N2];omega)];exact AF.nil _ _ _
theorem AX.re(x:AX h ns)(y:PV h t f (λi=>(ns.getD i AM.z).ways) k):AX h (IJ ns f k):=λi=>by
 by_cases hi:i<ns.length
 ·rw [PK,Hz hi];by_cases e:i<k
  ·rw [if_pos e];exact (y i e).1
  ·rw [if_neg e];exact x i
 ·rw [CK (by rw [N3];omega)];exact AF.nil _ _ _
def C1(h:GH)(t:TypeId)(js:List AP):Prop:=∀k,D1 h t (js.getD k AP.z).pv (js.getD k AP.z).parts
def D6(h:GH)(t:TypeId)(ns:List AM):Prop:=∀k,D1 h t (ns.getD k AM.z).wv (ns.getD k AM.z).ways
theorem C1.jobs(x:C1 h t js):Au h js:=λk=>(x k).1
theorem D6.notes(x:D6 h t ns):AX h ns:=λk=>(x k).1
theorem C1.le{h':GH}(x:C1 h t js)(l:h.Le h'):C1 h' t js:=λk=>(x k).le l
theorem D6.le{h':GH}(x:D6 h t ns)(l:h.Le h'):D6 h' t ns:=λk=>(x k).le l
theorem C1.store{h':GH}{t':TypeId}{r:Nat}{p:Bool}{c:Array Value}{g:Nat×Nat}(x:C1 h t js)(hr:h r=some (p,.cells c t' g))(ne:t'≠t)(ho:∀b,b≠r->h' b=h b):C1 h' t js:=λk=>(x k).store hr ne ho
theorem D6.store{h':GH}{t':TypeId}{r:Nat}{p:Bool}{c:Array Value}{g:Nat×Nat}(x:D6 h t ns)(hr:h r=some (p,.cells c t' g))(ne:t'≠t)(ho:∀b,b≠r->h' b=h b):D6 h' t ns:=λk=>(x k).store hr ne ho
theorem C1.of(y:PV h t f (λi=>(js.getD i AP.z).parts) k)(hk:js.length<=k):C1 h t (HO js f k):=λi=>by
 by_cases hi:i<js.length
 ·rw [PJ,Hz hi,if_pos aA];exact y i aA
 ·rw [CK (by rw [N2];omega)];exact D1.nil _ _
theorem D6.of(y:PV h t f (λi=>(ns.getD i AM.z).ways) k)(hk:ns.length<=k):D6 h t (IJ ns f k):=λi=>by
 by_cases hi:i<ns.length
 ·rw [PK,Hz hi,if_pos aA];exact y i aA
 ·rw [CK (by rw [N3];omega)];exact D1.nil _ _
theorem Au.fine1(x:Au h js)(k:Nat):(BD (js.getD k AP.z)).toList.all (·.oneCell')=true:=by
 show (true && (true && (true && (true && (((js.getD k AP.z).pv.oneCell') && true)))))=true;rw [(AF.one (x k)).2];rfl
theorem Au.fine(x:Au h js):∀y ∈ js,(BD y).toList.all (·.oneCell')=true:=λy hy=>by
 obtain ⟨i,hi,e⟩:=List.mem_iff_getElem.1 hy
 have:=x.fine1 i
 rw [List.getD_eq_getElem?_getD,List.getElem?_eq_getElem hi] at this;rw [<-e];exact this
theorem AX.snoc{x:AM}(a:AX h ns)(b:AF h x.wv 1 eI x.ways):AX h (ns++[x]):=λk=>by
 rw [O4];split
 ·exact a k
 ·cases hk:k-ns.length with
  | zero=>exact b
  | succ n=>rw [CK aD];exact AF.nil _ _ _
end
theorem BV.copy{bag kinds:Int}{ps:List ByteArray}{ws:List AE}{js:List AP}{ns:List AM}(b:BV bag kinds ps ws js ns):(∀i,(js.getD i AP.z).parts.length<=1000)/\∀i,(ns.getD i AM.z).ways.length<=1000:=by
 refine ⟨λi=>?_,λi=>Nat.le_trans (Ov b.note i).1 aC⟩;by_cases hi:i<js.length
 ·have:=(On (b.job i hi)).len
  have:=b.hkin
  omega
 ·rw [CK aA];exact Nat.zero_le _
end Go.Ns
namespace Go.Ns
section
variable {P:Program} {E:GX P} {O:Nat->Value} {ds:List Deferred} {h:GH} {T:(Nat->Value)->List Deferred->GH->Prop} {dst:Option Nat} {ty:TypeId} {pos:String} {af:Array Edge} {gd:Option (Nat×Bool)}
theorem Vx{s:ByteArray}{i:Nat}(h:i<s.size):((s[i]'h).toNat:Int)=(bytesOf s).getD i 0:=by
 have h2:i<(bytesOf s).length:=by rw [C0];exact h
 rw [FN 0 h2];exact (List.getElem_map (l:=s.data.toList) (f:=λb=>(b.toNat:Int)) (h:=h2)).symm
theorem PL{t:TypeId}{x ix:Operand}{s:ByteArray}{kd:IntKind}{i:Int}(ht:OF P t=true)(hx:AQ O x=.string s)(hi:AQ O ix=.int kd i)(h0:0<=i)(h1:i<s.size)(k:T (putS O dst (.int .u8 ((bytesOf s).getD i.toNat 0))) ds h) :
  BU E ⟨dst,.index t x ix,ty,pos,af,gd⟩ O ds h T:=QP ht hx hi h0 h1 (by rw [Vx];exact k)
end
theorem UP{s:ByteArray}(h:¬(1<=(s.size:Int)/\(s.size:Int)<=10)):Ek s=false:=by unfold Ek;rw [decide_eq_false h,Bool.and_false]
theorem UQ{a b:List UInt8}{v:Bool}(h:(a==b)=v):(b==a)=v:=by rw [<-h];exact BEq.comm
def IK(l:List Int)(k:Nat)(p q:Int):List Int:=if p=l.getD k 0/\¬q ∈ l then l++[q] else l
def C4(l:List Int)(k:Nat)(x:AE):List Int:=IK (IK l k x.a x.b) k x.b x.a
def Ah(ws:List AE)(l:List Int)(k:Nat):Nat->List Int
 | 0=>l
 | j+1=>C4 (Ah ws l k j) k (ws.getD j AE.z)
def Aw(ws:List AE):Nat->List Int
 | 0=>[0]
 | k+1=>if k<(Aw ws k).length then Ah ws (Aw ws k) k ws.length else Aw ws k
def G2(ws:List AE):List Int:=Aw ws 4
def Hk(np:Nat)(l:List Int):Prop:=l.Nodup/\(∀x ∈ l,0<=x/\x<np)/\0<l.length
def PM(np:Nat)(ws:List AE):Prop:=∀k,k<ws.length->(0<=(ws.getD k AE.z).a/\(ws.getD k AE.z).a<np)/\0<=(ws.getD k AE.z).b/\(ws.getD k AE.z).b<np
section
variable {np:Nat} {l:List Int} {ws:List AE} {k j:Nat} {x:Int} {w:AE}
theorem Hk.len(h:Hk np l):l.length<=np:=by
 refine Vk np l.length (λk=>(l.getD k 0).toNat) (λi hi=>?_) λi j hij hj=>?_
 ·have:=h.2.1 _ (Bz (d:=(0:Int)) hi)
  show (l.getD i 0).toNat<np;omega
 ·have h1:=h.2.1 _ (Bz (d:=(0:Int)) hj);have h2:=h.2.1 _ (Bz (d:=(0:Int)) (show i<l.length by omega));show (l.getD i 0).toNat≠(l.getD j 0).toNat;intro e;have e2:l.getD i 0=l.getD j 0:=aA
  rw [List.getD_eq_getElem?_getD,List.getD_eq_getElem?_getD,List.getElem?_eq_getElem aA,List.getElem?_eq_getElem hj,Option.getD_some,Option.getD_some] at e2
  have:=(List.pairwise_iff_getElem.1 (List.nodup_iff_pairwise_ne.1 h.1)) i j aA hj hij
  exact this e2
theorem Hk.snoc(h:Hk np l)(hx:0<=x/\x<np)(n:¬x ∈ l):Hk np (l++[x]):=
 ⟨List.nodup_append.2 ⟨h.1,aD,λa ha b hb e=>by rw [List.mem_singleton.1 hb] at e;exact n (e▸ha)⟩,λy hy=>by
  rcases List.mem_append.1 hy with hy | hy
  ·exact h.2.1 y hy
  ·rw [List.mem_singleton.1 hy];exact hx,aD⟩
theorem Lc{p q:Int}(h1:p=l.getD k 0)(h2:¬q ∈ l):IK l k p q=l++[q]:=if_pos ⟨h1,h2⟩
theorem Lf{p q:Int}(h:¬(p=l.getD k 0/\¬q ∈ l)):IK l k p q=l:=if_neg h
theorem rs_tt(h1:w.a=l.getD k 0/\¬w.b ∈ l)(h2:w.b=(l++[w.b]).getD k 0/\¬w.a ∈ l++[w.b]):C4 l k w=l++[w.b]++[w.a]:=by unfold C4;rw [Lc h1.1 h1.2,Lc h2.1 h2.2]
theorem rs_tf(h1:w.a=l.getD k 0/\¬w.b ∈ l)(h2:¬(w.b=(l++[w.b]).getD k 0/\¬w.a ∈ l++[w.b])):C4 l k w=l++[w.b]:=by unfold C4;rw [Lc h1.1 h1.2,Lf h2]
theorem rs_ft(h1:¬(w.a=l.getD k 0/\¬w.b ∈ l))(h2:w.b=l.getD k 0/\¬w.a ∈ l):C4 l k w=l++[w.a]:=by unfold C4;rw [Lf h1,Lc h2.1 h2.2]
theorem rs_ff(h1:¬(w.a=l.getD k 0/\¬w.b ∈ l))(h2:¬(w.b=l.getD k 0/\¬w.a ∈ l)):C4 l k w=l:=by unfold C4;rw [Lf h1,Lf h2]
theorem RX{p q:Int}(h:Hk np l)(hq:0<=q/\q<np):Hk np (IK l k p q):=by
 unfold IK;split
 ·rename_i c;exact h.snoc hq c.2
 ·exact h
theorem Kp(l:List Int)(k:Nat)(p q:Int):l<+:IK l k p q:=by
 unfold IK;split
 ·exact List.prefix_append _ _
 ·exact List.prefix_refl _
theorem S4(h:Hk np l)(ha:0<=w.a/\w.a<np)(hb:0<=w.b/\w.b<np):Hk np (C4 l k w):=RX (RX h hb) ha
theorem P9(l:List Int)(k:Nat)(w:AE):l<+:C4 l k w:=(Kp _ _ _ _).trans (Kp _ _ _ _)
theorem Iz(h:Hk np l)(hw:PM np ws):∀j,j<=ws.length->Hk np (Ah ws l k j)
 | 0,_=>h
 | j+1,hj=>S4 (Iz h hw j aA) (hw j aA).1 (hw j aA).2
theorem IL:∀j,l<+:Ah ws l k j
 | 0=>List.prefix_refl _
 | j+1=>(IL j).trans (P9 _ _ _)
theorem J5(hn:0<np)(hw:PM np ws):∀k,Hk np (Aw ws k)
 | 0=>⟨by simp [Aw],λx hx=>by rw [List.mem_singleton.1 hx];omega,Nat.zero_lt_one⟩
 | k+1=>by
  unfold Aw;split
  ·exact Iz (J5 hn hw k) hw _ (Nat.le_refl _)
  ·exact J5 hn hw k
theorem NR(hk:k<(Aw ws k).length):Aw ws (k+1)=Ah ws (Aw ws k) k ws.length:=if_pos hk
theorem NS(hk:(Aw ws k).length<=k):∀m,k<=m->Aw ws m=Aw ws k
 | 0,h=>by rw [show k=0 by omega]
 | m+1,h=>by
  by_cases e:m+1=k
  ·rw [e]
  ·have ih:=NS hk m aA
   have:Aw ws (m+1)=Aw ws m:=by
    conv=>lhs;unfold Aw
    rw [if_neg (by rw [ih];omega)]
   rw [this,ih]
theorem Yp(hk:(Aw ws k).length<=k)(hk4:k<=4):G2 ws=Aw ws k:=NS hk 4 hk4
end
def FH(np:Nat)(ws:List AE):Int:=if (5:Int)<ws.length then 2 else if¬Cv (C6 np ws) 0 ws.length=0 then Cv (C6 np ws) 0 ws.length else if (G2 ws).length<np then 8 else 0
def Di(bag kinds:Int)(ps:List ByteArray)(ws:List AE)(js:List AP)(ns:List AM):Int:=
 if¬Ga bag kinds=0 then Ga bag kinds else if¬BQ ps=0 then BQ ps else if¬FH ps.length ws=0 then FH ps.length ws else if¬B7 ps.length kinds js=0 then B7 ps.length kinds js else Cd ws.length ns
section
variable {V:Type} {p:V->Bool} {l:List V} {d:V} {k j:Nat}
theorem MT(hk:k<l.length)(e:p (l.getD k d)=true):l.any p=true:=List.any_eq_true.2 ⟨_,Bz hk,e⟩
theorem J6(h:(l.take k).any p=false)(hk:l.length<=k):l.any p=false:=by rwa [List.take_of_length_le hk] at h
theorem UR(hj:j<k)(hk:k<=l.length)(e:p (l.getD j d)=true):(l.take k).any p=true:=by
 refine MT (k:=j) (d:=d) (by rw [List.length_take];omega) ?_;rw [List.getD_eq_getElem?_getD,List.getElem?_take,if_pos hj,<-List.getD_eq_getElem?_getD];exact e
end
section
variable {np nw:Nat} {ws:List AE} {js:List AP} {ns:List AM} {k:Nat} {kinds:Int}
theorem Jg{a b:Int}(ha:0<=a/\a<=(np:Int)-1)(hb:0<=b/\b<=(np:Int)-1):B0 np [a,b]=0:=by
 have h0:EZ np [a,b] 0=0:=if_neg (λe=>e ha);have h1:EZ np [a,b] 1=0:=if_neg (λe=>e hb);show Cv (EZ np [a,b]) 0 2=0;simp [Cv,h0,h1]
theorem miss_no{a b:Int}(h:¬(0<=a/\a<=(np:Int)-1)\/¬(0<=b/\b<=(np:Int)-1)):B0 np [a,b]=6:=by
 show Cv (EZ np [a,b]) 0 2=6;by_cases ha:0<=a/\a<=(np:Int)-1
 ·have h0:EZ np [a,b] 0=0:=if_neg (λe=>e ha);have h1:EZ np [a,b] 1=6:=if_pos (h.resolve_left λe=>e ha);simp [Cv,h0,h1]
 ·have h0:EZ np [a,b] 0=6:=if_pos ha;simp [Cv,h0]
theorem PN{a:Int}(ha:0<=a/\a<=(np:Int)-1):B0 np [a]=0:=by
 have h0:EZ np [a] 0=0:=if_neg (λe=>e ha);show Cv (EZ np [a]) 0 1=0;simp [Cv,h0]
theorem miss_no1{a:Int}(ha:¬(0<=a/\a<=(np:Int)-1)):B0 np [a]=6:=by
 have h0:EZ np [a] 0=6:=if_pos ha;show Cv (EZ np [a]) 0 1=6;simp [Cv,h0]
variable (ws k) in
def waP(np:Nat):Prop:=(0<=(ws.getD k AE.z).a/\(ws.getD k AE.z).a<=(np:Int)-1)/\(0<=(ws.getD k AE.z).b/\(ws.getD k AE.z).b<=(np:Int)-1)
theorem wy6(h:¬(0<=(ws.getD k AE.z).a/\(ws.getD k AE.z).a<=(np:Int)-1)\/¬(0<=(ws.getD k AE.z).b/\(ws.getD k AE.z).b<=(np:Int)-1)):C6 np ws k=6:=by
 unfold C6;rw [miss_no h,if_pos aC]
theorem wyP(h:¬(¬(0<=(ws.getD k AE.z).a/\(ws.getD k AE.z).a<=(np:Int)-1)\/¬(0<=(ws.getD k AE.z).b/\(ws.getD k AE.z).b<=(np:Int)-1))):waP ws k np:=⟨Decidable.byContradiction λe=>h (.inl e),Decidable.byContradiction λe=>h (.inr e)⟩
theorem wy7(h:waP ws k np)(h2:(ws.getD k AE.z).b<=(ws.getD k AE.z).a):C6 np ws k=7:=by
 unfold C6;rw [Jg h.1 h.2,if_neg aD,if_pos h2]
theorem wy5(h:waP ws k np)(h2:¬(ws.getD k AE.z).b<=(ws.getD k AE.z).a)(h3:(ws.take k).any (λy=>decide (y.a=(ws.getD k AE.z).a/\y.b=(ws.getD k AE.z).b))=true):C6 np ws k=5:=by
 unfold C6;rw [Jg h.1 h.2,if_neg aD,if_neg h2,if_pos h3]
theorem wy1(h:waP ws k np)(h2:¬(ws.getD k AE.z).b<=(ws.getD k AE.z).a)(h3:(ws.take k).any (λy=>decide (y.a=(ws.getD k AE.z).a/\y.b=(ws.getD k AE.z).b))=false)(h4:¬(((0<=(ws.getD k AE.z).low/\(ws.getD k AE.z).low<=(ws.getD k AE.z).high)/\(ws.getD k AE.z).high<=30)/\(ws.getD k AE.z).high-(ws.getD k AE.z).low<2)):C6 np ws k=1:=by
 unfold C6;rw [Jg h.1 h.2,if_neg aD,if_neg h2,if_neg (by rw [h3];simp)];exact if_pos h4
theorem wy0(h:waP ws k np)(h2:¬(ws.getD k AE.z).b<=(ws.getD k AE.z).a)(h3:(ws.take k).any (λy=>decide (y.a=(ws.getD k AE.z).a/\y.b=(ws.getD k AE.z).b))=false)(h4:(((0<=(ws.getD k AE.z).low/\(ws.getD k AE.z).low<=(ws.getD k AE.z).high)/\(ws.getD k AE.z).high<=30)/\(ws.getD k AE.z).high-(ws.getD k AE.z).low<2)):C6 np ws k=0:=by
 unfold C6;rw [Jg h.1 h.2,if_neg aD,if_neg h2,if_neg (by rw [h3];simp)];exact if_neg (λe=>e h4)
theorem PO(h:∀k,k<ws.length->C6 np ws k=0):PM np ws:=λk hk=>by
 have:=h k hk
 unfold C6 at this;split at this
 ·rename_i a;exact absurd this a
 ·rename_i a
  have q:=FG (Decidable.not_not.1 a);have q1:=q _ List.mem_cons_self;have q2:=q _ (List.mem_cons_of_mem _ List.mem_cons_self);omega
theorem rw2(h:(5:Int)<ws.length):FH np ws=2:=if_pos h
theorem S5{c:Int}(h5:¬(5:Int)<ws.length)(hs:∀j,j<k->C6 np ws j=0)(hk:k<ws.length)(e:C6 np ws k=c)(hc:c≠0):FH np ws=c:=by
 have h1:=BP hs hk e hc;rw [FH,if_neg h5,h1,if_pos hc]
theorem rw8(h5:¬(5:Int)<ws.length)(hs:∀j,j<k->C6 np ws j=0)(hk:ws.length<=k)(h:((G2 ws).length:Int)<np):FH np ws=8:=by
 rw [FH,if_neg h5,CS hs hk,if_neg aD,if_pos aA]
theorem rw0(h5:¬(5:Int)<ws.length)(hs:∀j,j<k->C6 np ws j=0)(hk:ws.length<=k)(h:¬((G2 ws).length:Int)<np):FH np ws=0:=by
 rw [FH,if_neg h5,CS hs hk,if_neg aD,if_neg aA]
theorem jb6(h:¬(0<=(js.getD k AP.z).place/\(js.getD k AP.z).place<=(np:Int)-1)):Fc np kinds js k=6:=by
 unfold Fc;rw [miss_no1 h,if_pos aC]
theorem jb1(h:0<=(js.getD k AP.z).place/\(js.getD k AP.z).place<=(np:Int)-1)(h2:¬(((0<=(js.getD k AP.z).low/\(js.getD k AP.z).low<=(js.getD k AP.z).high)/\(js.getD k AP.z).high<=30)/\(js.getD k AP.z).high-(js.getD k AP.z).low<2)\/¬(0<=(js.getD k AP.z).due/\(js.getD k AP.z).due<=200)):Fc np kinds js k=1:=by
 unfold Fc;rw [PN h,if_neg aD];exact if_pos h2
theorem jb2(h:0<=(js.getD k AP.z).place/\(js.getD k AP.z).place<=(np:Int)-1)(h2:¬(¬(((0<=(js.getD k AP.z).low/\(js.getD k AP.z).low<=(js.getD k AP.z).high)/\(js.getD k AP.z).high<=30)/\(js.getD k AP.z).high-(js.getD k AP.z).low<2)\/¬(0<=(js.getD k AP.z).due/\(js.getD k AP.z).due<=200)))(h3:¬((js.getD k AP.z).parts.length:Int)=kinds):Fc np kinds js k=2:=by
 unfold Fc;rw [PN h,if_neg aD];exact (if_neg h2).trans (if_pos h3)
theorem jb3(h:0<=(js.getD k AP.z).place/\(js.getD k AP.z).place<=(np:Int)-1)(h2:¬(¬(((0<=(js.getD k AP.z).low/\(js.getD k AP.z).low<=(js.getD k AP.z).high)/\(js.getD k AP.z).high<=30)/\(js.getD k AP.z).high-(js.getD k AP.z).low<2)\/¬(0<=(js.getD k AP.z).due/\(js.getD k AP.z).due<=200)))(h3:((js.getD k AP.z).parts.length:Int)=kinds):Fc np kinds js k=if (js.getD k AP.z).parts.any (λn=>decide (¬(0<=n/\n<=5))) then 1 else 0:=by
 unfold Fc;rw [PN h,if_neg aD];exact (if_neg h2).trans (if_neg (λe=>e h3))
theorem nt2(h:(5:Int)<(ns.getD k AM.z).ways.length):Dw nw ns k=2:=if_pos h
theorem nt6(h:¬(5:Int)<(ns.getD k AM.z).ways.length)(h2:(ns.getD k AM.z).ways.any (λn=>decide (¬(0<=n/\n<=(nw:Int)-1)))=true):Dw nw ns k=6:=by
 unfold Dw;rw [if_neg h,if_pos h2]
theorem nt1(h:¬(5:Int)<(ns.getD k AM.z).ways.length)(h2:(ns.getD k AM.z).ways.any (λn=>decide (¬(0<=n/\n<=(nw:Int)-1)))=false)(h3:¬((0<=(ns.getD k AM.z).low/\(ns.getD k AM.z).low<=(ns.getD k AM.z).high)/\(ns.getD k AM.z).high<=200)):Dw nw ns k=1:=by
 unfold Dw;rw [if_neg h,if_neg (by rw [h2];simp),if_pos (λe=>h3 e.1)]
theorem nt0(h:¬(5:Int)<(ns.getD k AM.z).ways.length)(h2:(ns.getD k AM.z).ways.any (λn=>decide (¬(0<=n/\n<=(nw:Int)-1)))=false)(h3:(0<=(ns.getD k AM.z).low/\(ns.getD k AM.z).low<=(ns.getD k AM.z).high)/\(ns.getD k AM.z).high<=200):Dw nw ns k=0:=by
 unfold Dw;rw [if_neg h,if_neg (by rw [h2];simp),if_neg (λe=>e ⟨h3,aA⟩)]
end
section
variable {ps:List ByteArray} {k:Nat} {a b:List (Int×Int)}
theorem pa4(h:Ek (ps.getD k (⟨#[]⟩:ByteArray))=false):E3 ps k=4:=by unfold E3;rw [if_pos h]
theorem pa5(h:Ek (ps.getD k (⟨#[]⟩:ByteArray))=true)(h2:0<=idxOf (λx=>(ps.getD k (⟨#[]⟩:ByteArray)).toList==x.toList) (ps.take k)):E3 ps k=5:=by
 unfold E3;rw [if_neg (by rw [h];simp),if_pos ((E1 _ _).1 h2)]
theorem pa0(h:Ek (ps.getD k (⟨#[]⟩:ByteArray))=true)(h2:¬0<=idxOf (λx=>(ps.getD k (⟨#[]⟩:ByteArray)).toList==x.toList) (ps.take k)):E3 ps k=0:=by
 unfold E3;rw [if_neg (by rw [h];simp),if_neg λe=>h2 ((E1 _ _).2 e)]
theorem QA(hs:a.take k=b.take k)(hk:k<=a.length)(h:¬(k:Int)<a.length)(hl:(a.length:Int)=b.length):a=b:=by
 rw [List.take_of_length_le aA,List.take_of_length_le aA] at hs;exact hs
theorem eq_getDP{k:Nat}(h:((a.getD k (0,0)).1==(b.getD k (0,0)).1 && ((a.getD k (0,0)).2==(b.getD k (0,0)).2 && true))=true):a.getD k (0,0)=b.getD k (0,0):=by
 simp only [Bool.and_true,Bool.and_eq_true,beq_iff_eq] at h;exact Prod.ext h.1 h.2
theorem ne_getDP{k:Nat}(h:(!((a.getD k (0,0)).1==(b.getD k (0,0)).1 && ((a.getD k (0,0)).2==(b.getD k (0,0)).2 && true)))=true):¬a=b:=λe=>by rw [e] at h;simp at h
end
section
variable (bag kinds:Int) (ps:List ByteArray) (ws:List AE) (js:List AP) (ns:List AM)
def D7:Bool:=decide ((((20:Int)<ps.length\/(20:Int)<ws.length)\/(20:Int)<js.length)\/(20:Int)<ns.length) || ps.any (λs=>decide ((100:Int)<s.size)) || js.any (λj=>decide ((20:Int)<j.parts.length)) || ns.any λn=>decide ((20:Int)<n.ways.length)
def fit9:Bool:= !D7 ps ws js ns && decide (Di bag kinds ps ws js ns=0)
end
section
variable {ps:List ByteArray} {ws:List AE} {js:List AP} {ns:List AM} {k:Nat}
theorem Lg(h:D7 ps ws js ns=false)(k:Nat):(ps.getD k (⟨#[]⟩:ByteArray)).size<=1000:=by
 unfold D7 at h;simp only [Bool.or_eq_false_iff] at h;by_cases hk:k<ps.length
 ·have:=List.any_eq_false.1 h.1.1.2 _ (Bz (d:=(⟨#[]⟩:ByteArray)) hk)
  have:=of_decide_eq_false (Bool.eq_false_iff.2 this)
  omega
 ·rw [CK aA];decide
end
section
variable {bag kinds:Int} {ps:List ByteArray} {ws:List AE} {js:List AP} {ns:List AM}
theorem Jh(h:BQ ps=0):0<ps.length/\ps.length<=4:=by
 unfold BQ at h;split at h
 ·cases h
 ·omega
theorem rc1(h:¬(0<=bag/\bag<=9)\/¬(0<=kinds/\kinds<=3)):Di bag kinds ps ws js ns=1:=by
 have e:Ga bag kinds=1:=if_pos h;unfold Di;rw [e,if_pos aC]
theorem tb0(h:¬(¬(0<=bag/\bag<=9)\/¬(0<=kinds/\kinds<=3))):Ga bag kinds=0:=if_neg h
theorem rc2(h0:¬(¬(0<=bag/\bag<=9)\/¬(0<=kinds/\kinds<=3)))(h:¬BQ ps=0):Di bag kinds ps ws js ns=BQ ps:=by unfold Di;rw [tb0 h0,if_neg aD,if_pos h]
theorem rc3(h0:¬(¬(0<=bag/\bag<=9)\/¬(0<=kinds/\kinds<=3)))(h1:¬¬BQ ps=0)(h:¬FH ps.length ws=0):Di bag kinds ps ws js ns=FH ps.length ws:=by unfold Di;rw [tb0 h0,if_neg aD,if_neg h1,if_pos h]
theorem rc4(h0:¬(¬(0<=bag/\bag<=9)\/¬(0<=kinds/\kinds<=3)))(h1:¬¬BQ ps=0)(h2:¬¬FH ps.length ws=0)(h:¬B7 ps.length kinds js=0):Di bag kinds ps ws js ns=B7 ps.length kinds js:=by unfold Di;rw [tb0 h0,if_neg aD,if_neg h1,if_neg h2,if_pos h]
theorem rc5(h0:¬(¬(0<=bag/\bag<=9)\/¬(0<=kinds/\kinds<=3)))(h1:¬¬BQ ps=0)(h2:¬¬FH ps.length ws=0)(h:¬¬B7 ps.length kinds js=0):Di bag kinds ps ws js ns=Cd ws.length ns:=by unfold Di;rw [tb0 h0,if_neg aD,if_neg h1,if_neg h2,if_neg h]
theorem gr_len(h:(((20:Int)<ps.length\/(20:Int)<ws.length)\/(20:Int)<js.length)\/(20:Int)<ns.length):D7 ps ws js ns=true:=by unfold D7;rw [decide_eq_true h];rfl
theorem gr_p(h:ps.any (λs=>decide ((100:Int)<s.size))=true):D7 ps ws js ns=true:=by unfold D7;rw [h];simp
theorem gr_j(h:js.any (λj=>decide ((20:Int)<j.parts.length))=true):D7 ps ws js ns=true:=by unfold D7;rw [h];simp
theorem gr_n(h:ns.any (λn=>decide ((20:Int)<n.ways.length))=true):D7 ps ws js ns=true:=by unfold D7;rw [h];simp
theorem gr_0(h:¬((((20:Int)<ps.length\/(20:Int)<ws.length)\/(20:Int)<js.length)\/(20:Int)<ns.length))(h1:ps.any (λs=>decide ((100:Int)<s.size))=false)(h2:js.any (λj=>decide ((20:Int)<j.parts.length))=false)(h3:ns.any (λn=>decide ((20:Int)<n.ways.length))=false):D7 ps ws js ns=false:=by
 unfold D7;rw [decide_eq_false h,h1,h2,h3];rfl
end
end Go.Ns
namespace Go.Ns
def CU:List ByteArray:=[⟨#[119,111,114,107,115]⟩,⟨#[97,121,114]⟩,⟨#[98,117,116,101]⟩]
theorem C5:∀k,(CU.getD k (⟨#[]⟩:ByteArray)).size<=1000
 | 0=>aC
 | 1=>aC
 | 2=>aC
 | k+3=>by rw [CK (by simp [CU])];decide
def CN:List AE:=[⟨0,1,2,3⟩,⟨1,2,4,4⟩,⟨0,2,5,5⟩]
def B4(a b c:Value):List AP:=[⟨1,1,1,5,a,[2]⟩,⟨2,1,2,12,b,[1]⟩,⟨0,1,1,20,c,[1]⟩]
theorem C1.ex{h:GH}{t:TypeId}{a b c:Value}(x:D1 h t a [2])(y:D1 h t b [1])(z:D1 h t c [1]):C1 h t (B4 a b c):=λk=>by
 match k with
 | 0=>exact x
 | 1=>exact y
 | 2=>exact z
 | k+3=>rw [CK (by show 3<=_;omega)];exact D1.nil _ _
theorem AF.isSl{V:Type}{h:GH}{v:Value}{n:Nat}{enc:V->Array Value}{xs:List V}(x:AF h v n enc xs):∀k i,v≠.int k i:=by
 obtain ⟨a,cap,rfl,_⟩:=x;intro k i e;cases e
theorem AF.across9{h h':GH}{v:Value}{xs:List Int}{r:Nat}{a b c d:Value}{T:TypeId}(x:AF h v 1 eI xs)(hb:h r=some (true,.cells #[.int .i64 3,.int .i64 1,a,b,c,d] T (0,0)))(ho:∀y,y≠r->h' y=h y)
  (ha:∀k i,a≠.int k i) (hb':∀k i,b≠.int k i) (hc:∀k i,c≠.int k i) (hd:∀k i,d≠.int k i) (hx:∀o,o<6->∃i:Fin xs.length,(o+i.val=0->xs[i.val]≠3)/\(o+i.val=1->xs[i.val]≠1)):AF h' v 1 eI xs:=by
 obtain ⟨ad,cap,hv,hcap,hm,he⟩:=x;refine ⟨ad,cap,hv,hcap,hm,λi hi=>?_⟩;obtain ⟨y,off,h1,h2⟩:=he i hi;refine ⟨y,off,h1,h2.same (ho y ?_)⟩;rintro rfl;have key:∀j (hj:j<xs.length),off+j<6/\(#[Value.int .i64 3,.int .i64 1,a,b,c,d]:Array Value).extract (off+j) (off+j+1)=eI xs[j]:=λj hj=>by
  obtain ⟨y2,off2,h3,h4⟩:=he j hj;rw [h1] at h3;simp only [Option.some.injEq,Addr.mk.injEq,and_true] at h3;obtain ⟨rfl,rfl⟩:=h3;obtain ⟨p,cc,t,f,q1,q2,q3⟩:=h4;rw [hb] at q1;simp only [Option.some.injEq,Prod.mk.injEq,Obj.cells.injEq] at q1;obtain ⟨_,rfl,_⟩:=q1;rw [Nat.mul_one] at q2 q3;exact ⟨by simp at q2;omega,q3⟩
 obtain ⟨⟨j,hj⟩,e0,e1⟩:=hx off (by have:=(key i hi).1;omega);obtain ⟨k1,k2⟩:=key j hj;simp only at e0 e1;generalize off+j=o at k1 k2 e0 e1;generalize xs[j]=z at k2 e0 e1
 have:o=0\/o=1\/o=2\/o=3\/o=4\/o=5:=aA
 rcases this with rfl | rfl | rfl | rfl | rfl | rfl
 ·have k3:(#[.int .i64 3]:Array Value)=#[.int .i64 z]:=k2;simp at k3;exact e0 rfl k3.symm
 ·have k3:(#[.int .i64 1]:Array Value)=#[.int .i64 z]:=k2;simp at k3;exact e1 rfl k3.symm
 ·have k3:(#[a]:Array Value)=#[.int .i64 z]:=k2;simp at k3;exact ha _ _ k3
 ·have k3:(#[b]:Array Value)=#[.int .i64 z]:=k2;simp at k3;exact hb' _ _ k3
 ·have k3:(#[c]:Array Value)=#[.int .i64 z]:=k2;simp at k3;exact hc _ _ k3
 ·have k3:(#[d]:Array Value)=#[.int .i64 z]:=k2;simp at k3;exact hd _ _ k3
end Go.Ns
namespace Go.Ns
section
variable {m:ED} {b np i k n:Nat}
structure ED.Sym(m:ED):Prop where
 ok:m.ok
 diag:∀i,m i i=0
 sym:∀i k,m i k=m k i
theorem US(b i:Nat)(m:ED)(hd:m b b=0)(h0:m.ok):∀n x y,HF b i m n x y=if x=i/\y<n then min (m i y) (m i b+m b y) else m x y
 | 0,x,y=>by rw [if_neg aA];rfl
 | n+1,x,y=>by
  have ih:=US b i m hd h0 n;have e:HF b i m (n+1)=Nx b i (HF b i m n) n:=Ax _ _ _;rw [e];unfold Nx ED.set;by_cases hxy:x=i/\y=n
  ·obtain ⟨rfl,rfl⟩:=hxy;rw [if_pos ⟨rfl,rfl⟩,if_pos ⟨rfl,Nat.lt_succ_self _⟩,ih x y,if_neg aA,ih x b,ih b y];have hb:=h0 x b;have hby:=h0 b y;have hd2:=hd;by_cases h1:x=x/\b<y
   ·rw [if_pos h1];by_cases h2:b=x/\y<y
    ·omega
    ·rw [if_neg h2];rw [hd2];omega
   ·rw [if_neg h1];by_cases h2:b=x/\y<y
    ·omega
    ·rw [if_neg h2]
  ·rw [if_neg hxy,ih x y];by_cases h1:x=i/\y<n
   ·rw [if_pos h1,if_pos ⟨h1.1,aA⟩]
   ·rw [if_neg h1,if_neg (λe=>h1 ⟨e.1,aA⟩)]
theorem Yq(b i:Nat)(m:ED)(hd:m b b=0)(h0:m.ok)(x y:Nat):ND b np m i x y=if x=i/\y<np then min (m i y) (m i b+m b y) else m x y:=by
 unfold ND;split
 ·rename_i e
  by_cases h1:x=i/\y<np
  ·obtain ⟨rfl,h2⟩:=h1;rw [if_pos ⟨rfl,h2⟩,e]
   have:=h0 x y
   have:=h0 b y
   omega
  ·rw [if_neg h1]
 ·exact US b i m hd h0 np x y
theorem UT(b:Nat)(m:ED)(hd:m b b=0)(h0:m.ok):∀n x y,Ec b np m n x y=if x<n/\y<np then min (m x y) (m x b+m b y) else m x y
 | 0,x,y=>by rw [if_neg aA];rfl
 | n+1,x,y=>by
  have ih:=UT b m hd h0 n;have e:Ec b np m (n+1)=ND b np (Ec b np m n) n:=Ax _ _ _;have hd2:Ec b np m n b b=0:=by rw [ih b b,hd];split <;> omega
  rw [e,Yq b n _ hd2 (Ny h0)];by_cases h1:x=n/\y<np
  ·obtain ⟨rfl,h2⟩:=h1;rw [if_pos ⟨rfl,h2⟩,if_pos ⟨Nat.lt_succ_self _,h2⟩,ih x y,if_neg aA,ih x b,if_neg aA,ih b y];have h3:=h0 x b;have h4:=h0 b y;by_cases h5:b<x/\y<np
   ·rw [if_pos h5,hd];omega
   ·rw [if_neg h5]
  ·rw [if_neg h1,ih x y];by_cases h2:x<n/\y<np
   ·rw [if_pos h2,if_pos ⟨aA,h2.2⟩]
   ·rw [if_neg h2,if_neg (λe=>aA)]
structure FW(np n:Nat)(m0 m:ED):Prop where
 s:m.Sym
 tri:∀c,c<n->∀i k,i<np->k<np->m i k<=m i c+m c k
 le:∀i k,m i k<=m0 i k
theorem FW.step{m0:ED}(h:FW np n m0 m)(hn:n<np):FW np (n+1) m0 (Ec n np m np):=by
 have g:=UT (np:=np) n m (h.s.diag n) h.s.ok np;have s:=h.s;have p:=λi k=>s.ok i k;refine ⟨⟨Ny s.ok,λi=>?_,λi k=>?_⟩,λc hc i k hi hk=>?_,λi k=>?_⟩
 ·rw [g i i];have:=p i n;have:=p n i;have:=s.diag i;split <;> omega
 ·rw [g i k,g k i];have h1:=s.sym i k;have h2:=s.sym i n;have h3:=s.sym k n;by_cases c:i<np/\k<np
  ·rw [if_pos c,if_pos ⟨c.2,c.1⟩];omega
  ·rw [if_neg c,if_neg (λe=>c ⟨e.2,e.1⟩)];exact h1
 ·rw [g i k,g i c,g c k,if_pos ⟨hi,hk⟩,if_pos ⟨hi,aA⟩,if_pos ⟨aA,hk⟩];have d:=s.diag n
  have:=p i n
  have:=p n k
  have:=p n c
  have:=p c n
  rcases Nat.lt_or_ge c n with q | q
  ·have t1:=h.tri c q i k hi hk;have t2:=h.tri c q i n hi hn;have t3:=h.tri c q n k hn hk;omega
  ·have:c=n:=aA
   subst this;omega
 ·rw [g i k];have:=h.le i k;split <;> omega
theorem FW.all{m0:ED}(s:m0.Sym):∀n,n<=np->FW np n m0 (DA np m0 n)
 | 0,_=>⟨s,λc hc=>absurd hc (Nat.not_lt_zero _),λ_ _=>Int.le_refl _⟩
 | n+1,h=>by
  have ih:=FW.all s n aA;have e:DA np m0 (n+1)=Ec n np (DA np m0 n) np:=Ax _ _ _;rw [e];exact ih.step aA
end
theorem RY(i:Nat)(m:ED):∀n x y,Gn i m n x y=if x=i/\y<n/\i≠y then 1048576 else m x y
 | 0,x,y=>by rw [if_neg aA];rfl
 | n+1,x,y=>by
  have ih:=RY i m n;have e:Gn i m (n+1)=Kh i (Gn i m n) n:=Ax _ _ _;rw [e];unfold Kh;by_cases h:(i:Int)=(n:Int)
  ·rw [if_neg (λq=>q h),ih x y];by_cases c:x=i/\y<n/\i≠y
   ·rw [if_pos c,if_pos ⟨c.1,aA,c.2.2⟩]
   ·rw [if_neg c,if_neg (λq=>c ⟨q.1,aA,q.2.2⟩)]
  ·rw [if_pos h];show (if x=i/\y=n then 1048576 else Gn i m n x y)=_;by_cases c:x=i/\y=n
   ·rw [if_pos c,if_pos ⟨c.1,aA,aA⟩]
   ·rw [if_neg c,ih x y];by_cases d:x=i/\y<n/\i≠y
    ·rw [if_pos d,if_pos ⟨d.1,aA,d.2.2⟩]
    ·rw [if_neg d,if_neg (λq=>d ⟨q.1,aA,q.2.2⟩)]
theorem Lh:∀n x y,IU n x y=if x<n/\y<4/\x≠y then 1048576 else 0
 | 0,x,y=>by rw [if_neg aA];rfl
 | n+1,x,y=>by
  have ih:=Lh n;have e:IU (n+1)=Gn n (IU n) 4:=Ax _ _ _;rw [e,RY,ih x y];by_cases c:x=n/\y<4/\n≠y
  ·rw [if_pos c,if_pos ⟨aA,c.2.1,aA⟩]
  ·rw [if_neg c];by_cases d:x<n/\y<4/\x≠y
   ·rw [if_pos d,if_pos ⟨aA,d.2⟩]
   ·rw [if_neg d,if_neg (λq=>aA)]
theorem far0_sym:(IU 4).Sym:=⟨XX,λi=>by rw [Lh,if_neg (λq=>q.2.2 rfl)],λi k=>by
 rw [Lh,Lh];by_cases c:i<4/\k<4/\i≠k
 ·rw [if_pos c,if_pos ⟨c.2.1,c.1,c.2.2.symm⟩]
 ·rw [if_neg c,if_neg (λq=>c ⟨q.2.1,q.1,q.2.2.symm⟩)]⟩
section
variable {p:AI} {ws:List AE} {np:Nat}
structure Li(ws:List AE):Prop where
 rng:∀k,k<ws.length->0<=(ws.getD k AE.z).a/\(ws.getD k AE.z).a<(ws.getD k AE.z).b
 one:∀j k,j<k->k<ws.length->¬((ws.getD j AE.z).a=(ws.getD k AE.z).a/\(ws.getD j AE.z).b=(ws.getD k AE.z).b)
theorem Lj(h:∀k,k<ws.length->C6 np ws k=0):Li ws:=by
 have key:∀k,k<ws.length->(0<=(ws.getD k AE.z).a)/\¬(ws.getD k AE.z).b<=(ws.getD k AE.z).a/\(ws.take k).any (λy=>decide (y.a=(ws.getD k AE.z).a/\y.b=(ws.getD k AE.z).b))=false:=λk hk=>by
  have w:=(PO h k hk).1.1
  have:=h k hk
  unfold C6 at this;split at this
  ·rename_i a;exact absurd this a
  ·split at this
   ·cases this
   ·rename_i b
    split at this
    ·cases this
    ·rename_i c
     exact ⟨w,b,by simpa using c⟩
 refine ⟨λk hk=>⟨(key k hk).1,by have:=(key k hk).2.1;omega⟩,λj k hj hk e=>?_⟩
 have:=(key k hk).2.2
 rw [UR (d:=AE.z) hj aA (decide_eq_true e)] at this;cases this
theorem PP(m:ED)(k x y:Nat)(hk:(ws.getD k AE.z).a.toNat≠(ws.getD k AE.z).b.toNat):Ki p ws m k x y=if (x=(ws.getD k AE.z).a.toNat/\y=(ws.getD k AE.z).b.toNat)\/(x=(ws.getD k AE.z).b.toNat/\y=(ws.getD k AE.z).a.toNat) then p.ways k else m x y:=by
 unfold Ki ED.set;by_cases c:x=(ws.getD k AE.z).b.toNat/\y=(ws.getD k AE.z).a.toNat
 ·rw [if_pos c,if_pos (.inr c)]
 ·rw [if_neg c];by_cases d:x=(ws.getD k AE.z).a.toNat/\y=(ws.getD k AE.z).b.toNat
  ·rw [if_pos d,if_pos (.inl d)]
  ·rw [if_neg d,if_neg (λq=>q.elim d c)]
theorem NT(hp:B3 p)(hw:Li ws):∀n,n<=ws.length->(BI p ws n).Sym
 | 0,_=>far0_sym
 | n+1,h=>by
  have ih:=NT hp hw n aA;have r:=hw.rng n aA;have g:=λx y=>PP (p:=p) (ws:=ws) (BI p ws n) n x y aA;have e:BI p ws (n+1)=Ki p ws (BI p ws n) n:=Ax _ _ _;refine ⟨Kj hp,λi=>?_,λi k=>?_⟩
  ·rw [e,g,if_neg aA];exact ih.diag i
  ·rw [e,g,g];by_cases c:(i=(ws.getD n AE.z).a.toNat/\k=(ws.getD n AE.z).b.toNat)\/(i=(ws.getD n AE.z).b.toNat/\k=(ws.getD n AE.z).a.toNat)
   ·rw [if_pos c,if_pos aA]
   ·rw [if_neg c,if_neg aA];exact ih.sym i k
theorem PQ(hw:Li ws):∀n,n<=ws.length->∀k,k<n->BI p ws n (ws.getD k AE.z).a.toNat (ws.getD k AE.z).b.toNat=p.ways k
 | 0,_,k,hk=>absurd hk (Nat.not_lt_zero _)
 | n+1,h,k,hk=>by
  have r:=hw.rng n aA;have rk:=hw.rng k aA;have g:=λx y=>PP (p:=p) (ws:=ws) (BI p ws n) n x y aA;have e:BI p ws (n+1)=Ki p ws (BI p ws n) n:=Ax _ _ _;rw [e,g];by_cases q:k=n
  ·subst q;rw [if_pos (.inl ⟨rfl,rfl⟩)]
  ·have one:=hw.one k n aA aA;rw [if_neg aA];exact PQ hw n aA k aA
theorem Hl(hp:B3 p)(hw:Li ws):FW np np (BI p ws ws.length) (AG np ws p):=FW.all (NT hp hw _ (Nat.le_refl _)) np (Nat.le_refl _)
theorem Vy(hp:B3 p)(hw:Li ws){k:Nat}(hk:k<ws.length):AG np ws p (ws.getD k AE.z).a.toNat (ws.getD k AE.z).b.toNat<=p.ways k:=by
 have:=(Hl (np:=np) hp hw).le (ws.getD k AE.z).a.toNat (ws.getD k AE.z).b.toNat
 rwa [PQ hw _ (Nat.le_refl _) k hk] at this
end
end Go.Ns
namespace Go.Ns
section
variable {ws:List AE} {c:He} {x:AE} {i n k np:Nat}
theorem Ji(h:c i=true):Hf c x i=true:=by
 unfold Hf He.set;by_cases e:i=x.b.toNat
 ·rw [if_pos e];by_cases e2:x.b.toNat=x.a.toNat
  ·rw [if_pos e2];rw [e,e2] at h;rw [h];simp
  ·rw [if_neg e2,<-e,h];simp
 ·rw [if_neg e];by_cases e2:i=x.a.toNat
  ·rw [if_pos e2,<-e2,h];simp
  ·rw [if_neg e2];exact h
theorem UU(h:c x.a.toNat=true\/c x.b.toNat=true):Hf c x x.a.toNat=true/\Hf c x x.b.toNat=true:=by
 unfold Hf He.set;rcases h with h | h
 ·constructor
  ·by_cases e:x.a.toNat=x.b.toNat
   ·rw [if_pos e];simp [h]
   ·rw [if_neg e];simp [h]
  ·rw [if_pos rfl];simp [h]
 ·constructor
  ·by_cases e:x.a.toNat=x.b.toNat
   ·rw [if_pos e];simp [h]
   ·rw [if_neg e];simp [h]
  ·rw [if_pos rfl];simp [h]
theorem HJ:∀(l:List AE)(c:He),c i=true->l.foldl Hf c i=true
 | [],_,h=>h
 | x ::l,c,h=>HJ l _ (Ji h)
theorem I0:∀(l:List AE)(c:He),x ∈ l->(c x.a.toNat=true\/c x.b.toNat=true)->l.foldl Hf c x.a.toNat=true/\l.foldl Hf c x.b.toNat=true
 | y ::l,c,hx,h=>by
  rcases List.mem_cons.1 hx with e | hx
  ·subst e;have b:=UU h;exact ⟨HJ l _ b.1,HJ l _ b.2⟩
  ·exact I0 l _ hx (h.imp Ji Ji)
theorem Jj:∀n (c:He),El ws (n+1) c=Gm ws (El ws n c)
 | 0,_=>rfl
 | n+1,c=>Jj n (Gm ws c)
theorem MU{m:Nat}(h:El ws n c i=true):∀d,m=n+d->El ws m c i=true
 | 0,e=>by rw [e];exact h
 | d+1,e=>by
  rw [e,show n+(d+1)=(n+d)+1 by omega,Jj];exact HJ ws _ (MU h d rfl)
def c0:He:=He.none.set 0 true
def IW(ws:List AE)(l:List Int):Prop:=∀i,i<l.length->El ws i c0 (l.getD i 0).toNat=true
theorem IW.snoc{l:List Int}{q:Int}(h:IW ws l)(hq:El ws l.length c0 q.toNat=true):IW ws (l++[q]):=λi hi=>by
 rw [List.length_append,List.length_singleton] at hi;rw [O4];by_cases e:i<l.length
 ·rw [if_pos e];exact h i e
 ·rw [if_neg e,show i=l.length by omega,Nat.sub_self];exact hq
theorem IW.step{l:List Int}(h:IW ws l)(hk:k<l.length)(hx:x ∈ ws):IW ws (C4 l k x):=by
 have one:∀{l:List Int}{p q:Int},IW ws l->k<l.length->(x.a=p/\x.b=q\/x.b=p/\x.a=q)->IW ws (IK l k p q):=by
  intro l p q h hk hpq;unfold IK;split
  ·rename_i e
   have f:=h k hk;rw [<-e.1] at f;have g:El ws (k+1) c0 q.toNat=true:=by
    rw [Jj];rcases hpq with ⟨rfl,rfl⟩ | ⟨rfl,rfl⟩
    ·exact (I0 ws _ hx (.inl f)).2
    ·exact (I0 ws _ hx (.inr f)).1
   exact h.snoc (MU g (l.length-(k+1)) aA)
  ·exact h
 have h1:=one h hk (.inl ⟨rfl,rfl⟩);have hl:=(Kp l k x.a x.b).length_le;exact one h1 aA (.inr ⟨rfl,rfl⟩)
theorem IW.ways{l:List Int}(h:IW ws l)(hk:k<l.length):∀j,j<=ws.length->IW ws (Ah ws l k j)
 | 0,_=>h
 | j+1,hj=>(IW.ways h hk j aA).step (Nat.lt_of_lt_of_le hk (IL j).length_le) (Bz aA)
theorem MV:∀k,IW ws (Aw ws k)
 | 0=>λi hi=>by
  have:i=0:=by
   have:i<1:=hi
   omega
  subst this;rfl
 | k+1=>by
  unfold Aw;split
  ·rename_i e;exact (MV k).ways e _ (Nat.le_refl _)
  ·exact MV k
theorem S6(hn:0<np)(hw:PM np ws)(h:¬(G2 ws).length<np):Gb np ws=0:=by
 have ok:Hk np (G2 ws):=J5 hn hw 4;have hl:=ok.len;have all:∀y,y<np->El ws np c0 y=true:=λy hy=>by
  have mem:(y:Int) ∈ G2 ws:=Decidable.byContradiction λe=>by
   have:=(ok.snoc (x:=(y:Int)) ⟨aA,aA⟩ e).len
   rw [List.length_append,List.length_singleton] at this;omega
  obtain ⟨i,hi,e⟩:=List.mem_iff_getElem.1 mem;have f:El ws i c0 ((G2 ws).getD i 0).toNat=true:=MV (ws:=ws) 4 i hi;have e2:(G2 ws).getD i 0=(y:Int):=by
   rw [List.getD_eq_getElem?_getD,List.getElem?_eq_getElem hi];exact e
  rw [e2] at f;exact MU f (np-i) (by have hi':i<(G2 ws).length:=hi;omega)
 unfold Gb;rw [if_neg];intro e;obtain ⟨b,hb,hf⟩:=List.any_eq_true.1 e;unfold Ol at hb;obtain ⟨y,hy,rfl⟩:=List.mem_map.1 hb
 have:El ws np (He.none.set 0 true) y=true:=all y (List.mem_range.1 hy)
 rw [this] at hf;cases hf
end
section
variable {bag kinds:Int} {ps:List ByteArray} {ws:List AE} {js:List AP} {ns:List AM}
theorem Vz(hn:0<ps.length)(h:FH ps.length ws=0):Em ps.length ws=0:=by
 unfold FH at h;split at h
 ·cases h
 ·rename_i a
  split at h
  ·rename_i b;exact absurd h b
  ·rename_i b
   split at h
   ·cases h
   ·rename_i c
    unfold Em;rw [if_neg a,if_neg b];have z:=DK (Decidable.not_not.1 b);exact S6 hn (PO λk hk=>z k (Nat.zero_le _) aA) c
theorem UV(h:Di bag kinds ps ws js ns=0):BZ bag kinds ps ws js ns=0:=by
 unfold Di at h;split at h
 ·rename_i a;exact absurd h a
 ·rename_i a
  split at h
  ·rename_i b;exact absurd h b
  ·rename_i b
   split at h
   ·rename_i c;exact absurd h c
   ·rename_i c
    split at h
    ·rename_i d;exact absurd h d
    ·rename_i d
     have h1:=Decidable.not_not.1 a;have h2:=Decidable.not_not.1 b;have h3:=Vz (Jh h2).1 (Decidable.not_not.1 c);have h4:=Decidable.not_not.1 d;unfold BZ;refine CS (k:=5) (λj hj=>?_) (Nat.le_refl _)
     match j with
     | 0=>exact h1
     | 1=>exact h2
     | 2=>exact h3
     | 3=>exact h4
     | 4=>exact h
     | j+5=>omega
theorem fit9_ok(h:fit9 bag kinds ps ws js ns=true):BZ bag kinds ps ws js ns=0/\∀k,(ps.getD k (⟨#[]⟩:ByteArray)).size<=1000:=by
 unfold fit9 at h;rw [Bool.and_eq_true] at h;exact ⟨UV (of_decide_eq_true h.2),Lg (by simpa using h.1)⟩
end
end Go.Ns
namespace Go.Ns
open Go.Conc
section
variable {P:Program} {E:GX P} {O:Nat->Value} {ds:List Deferred} {h:GH} {T:(Nat->Value)->List Deferred->GH->Prop} {dst:Option Nat} {ty:TypeId} {pos:String} {af:Array Edge} {gd:Option (Nat×Bool)}
theorem ok_neqB{xt yt:TypeId}{x y:Operand}{a b:Bool}(hx:AQ O x=.bool a)(hy:AQ O y=.bool b)(he:Nr P 1 xt (.bool a) (.bool b)=some (a==b))(k:T (putS O dst (.bool (a !=b))) ds h):BU E ⟨dst,.binOp .neq xt x y yt,ty,pos,af,gd⟩ O ds h T:=by
 unfold BU execOp;simp only [hx,hy];refine FS (AH _ _ ?_);have hg:∀(Q:Unit->GH->Prop),Q () h->(eqGuard .neq xt x y (.bool a) (.bool b)).gh P h Q:=λQ q=>q;refine hg _ ?_;show Sem.gh P (do pure (Value.bool (!(<-Op.equal xt (.bool a) (.bool b)))):Sem Value) h _;refine AH _ _ ?_;exact HU 1 _ _ _ _ (a==b) h _ aC he k
end
section
variable {F G:AI->Int} {l:List AI} {x:AI}
theorem Xk(h:0<l.length):∀k,k<=l.length-1->∃x ∈ l,Sj F l k=F x
 | 0,_=>⟨_,Bz h,rfl⟩
 | k+1,hk=>by
  obtain ⟨x,hx,e⟩:=Xk h k aA;rcases Int.le_total (Sj F l k) (F ((l.drop 1).getD k AI.zero)) with q | q
  ·exact ⟨x,hx,(Int.min_eq_left q).trans e⟩
  ·exact ⟨_,MK aA,Int.min_eq_right q⟩
theorem Xl(h:0<l.length):∀k,k<=l.length-1->∃x ∈ l,Sm F l k=F x
 | 0,_=>⟨_,Bz h,rfl⟩
 | k+1,hk=>by
  obtain ⟨x,hx,e⟩:=Xl h k aA;rcases Int.le_total (Sm F l k) (F ((l.drop 1).getD k AI.zero)) with q | q
  ·exact ⟨_,MK aA,Int.max_eq_right q⟩
  ·exact ⟨x,hx,(Int.max_eq_left q).trans e⟩
theorem Lk{k:Nat}:(l.drop 1).getD k AI.zero=l.getD (k+1) AI.zero:=by
 rw [List.getD_eq_getElem?_getD,List.getElem?_drop,<-List.getD_eq_getElem?_getD,Nat.add_comm]
theorem fLo_le:∀k j,j<=k->Sj F l k<=F (l.getD j AI.zero)
 | 0,j,h=>by rw [show j=0 by omega];exact Int.le_refl _
 | k+1,j,h=>by
  show min (Sj F l k) (F ((l.drop 1).getD k AI.zero))<=_;rcases Nat.lt_or_ge j (k+1) with q | q
  ·have:=fLo_le k j aA;omega
  ·have e:j=k+1:=aA
   subst e;rw [Lk];omega
theorem fHi_ge:∀k j,j<=k->F (l.getD j AI.zero)<=Sm F l k
 | 0,j,h=>by rw [show j=0 by omega];exact Int.le_refl _
 | k+1,j,h=>by
  show _<=max (Sm F l k) (F ((l.drop 1).getD k AI.zero));rcases Nat.lt_or_ge j (k+1) with q | q
  ·have:=fHi_ge k j aA;omega
  ·have e:j=k+1:=aA
   subst e;rw [Lk];omega
theorem Xm(hx:x ∈ l):∃j,j<=l.length-1/\x=l.getD j AI.zero:=by
 obtain ⟨j,hj,e⟩:=List.mem_iff_getElem.1 hx;exact ⟨j,aA,by rw [List.getD_eq_getElem?_getD,List.getElem?_eq_getElem hj];exact e.symm⟩
theorem N4(hx:x ∈ l):Ay F l<=F x:=by obtain ⟨j,hj,rfl⟩:=Xm hx;exact fLo_le _ j hj
theorem J7(hx:x ∈ l):F x<=An F l:=by obtain ⟨j,hj,rfl⟩:=Xm hx;exact fHi_ge _ j hj
theorem Hm(h:0<l.length):∃x ∈ l,Ay F l=F x:=Xk h _ (Nat.le_refl _)
theorem Jk(h:0<l.length):∃x ∈ l,An F l=F x:=Xl h _ (Nat.le_refl _)
theorem V0(h:0<l.length)(e:∀x ∈ l,F x=G x):Ay F l=Ay G l:=by
 obtain ⟨x,hx,e1⟩:=Hm (F:=F) h;obtain ⟨y,hy,e2⟩:=Hm (F:=G) h
 have:=N4 (F:=F) hy
 have:=N4 (F:=G) hx
 have:=e x hx
 have:=e y hy
 omega
theorem V1(h:0<l.length)(e:∀x ∈ l,F x=G x):An F l=An G l:=by
 obtain ⟨x,hx,e1⟩:=Jk (F:=F) h;obtain ⟨y,hy,e2⟩:=Jk (F:=G) h
 have:=J7 (F:=F) hy
 have:=J7 (F:=G) hx
 have:=e x hx
 have:=e y hy
 omega
end
section
variable {bag kinds:Int} {ps:List ByteArray} {ws:List AE} {js:List AP} {ns:List AM} {a b c:Int}
theorem Ll{ag:AI->Bool}:∀(f i:Nat)(p q:AI),i+f=ws.length+js.length->(∀k,k<i->k<ws.length->(ws.getD k AE.z).low<=p.ways k/\p.ways k<=(ws.getD k AE.z).high)->q ∈ Cf ag ws js f i p->∀k,k<ws.length->(ws.getD k AE.z).low<=q.ways k/\q.ways k<=(ws.getD k AE.z).high
 | 0,i,p,q,hi,hp,hq,k,hk=>by
  have:q=p:=List.mem_singleton.1 hq
  subst this;exact hp k aA hk
 | f+1,i,p,q,hi,hp,hq,k,hk=>by
  obtain ⟨n,hn,hq⟩:=List.mem_flatMap.1 hq;split at hq
  ·cases hq
  ·refine Ll f (i+1) _ q aA (λj hj hjw=>?_) hq k hk;unfold AI.put;by_cases e:i<ws.length
   ·rw [if_pos e];show _<=(if j=i then n else p.ways j)/\(if j=i then n else p.ways j)<=_;by_cases e2:j=i
    ·subst e2;rw [if_pos rfl]
     have:=QU.1 hn
     unfold CT GC at this;rw [if_pos e,if_pos e] at this;exact this
    ·rw [if_neg e2];exact hp j aA hjw
   ·rw [if_neg e];exact hp j aA hjw
theorem Yr{q:AI}(hq:q ∈ AA ws js ns){k:Nat}(hk:k<ws.length):(ws.getD k AE.z).low<=q.ways k/\q.ways k<=(ws.getD k AE.z).high:=by
 unfold AA at hq;split at hq
 ·exact Ll _ 0 _ q aA (λk hk=>absurd hk (Nat.not_lt_zero _)) hq k hk
 ·cases hq
def EE(ps:List ByteArray)(ws:List AE)(a b:Int):AI->Int:=λx=>AG ps.length ws x a.toNat b.toNat
theorem far_sym(bk:BV bag kinds ps ws js ns)(h:0<(AA ws js ns).length):Ay (EE ps ws a b) (AA ws js ns)=Ay (EE ps ws b a) (AA ws js ns)/\An (EE ps ws a b) (AA ws js ns)=An (EE ps ws b a) (AA ws js ns):=
 have e:∀x ∈ AA ws js ns,EE ps ws a b x=EE ps ws b a x:=λx hx=>(Hl (np:=ps.length) (D5 bk x hx) (Lj bk.way)).s.sym _ _
 ⟨V0 h e,V1 h e⟩
theorem far_self(bk:BV bag kinds ps ws js ns)(h:0<(AA ws js ns).length):Ay (EE ps ws a a) (AA ws js ns)=0/\An (EE ps ws a a) (AA ws js ns)=0:=by
 obtain ⟨x,hx,e⟩:=Hm (F:=EE ps ws a a) h;obtain ⟨y,hy,e2⟩:=Jk (F:=EE ps ws a a) h;have d:=λx hx=>(Hl (np:=ps.length) (D5 bk x hx) (Lj bk.way)).s.diag a.toNat;exact ⟨e.trans (d x hx),e2.trans (d y hy)⟩
theorem far_tri(bk:BV bag kinds ps ws js ns)(h:0<(AA ws js ns).length)(ha:0<=a/\a<ps.length)(hb:0<=b/\b<ps.length)(hc:0<=c/\c<ps.length) :
  An (EE ps ws a b) (AA ws js ns)<=An (EE ps ws a c) (AA ws js ns)+An (EE ps ws c b) (AA ws js ns)/\Ay (EE ps ws a b) (AA ws js ns)<=An (EE ps ws a c) (AA ws js ns)+Ay (EE ps ws c b) (AA ws js ns)/\
   Ay (EE ps ws a b) (AA ws js ns)<=Ay (EE ps ws a c) (AA ws js ns)+An (EE ps ws c b) (AA ws js ns)/\0<=Ay (EE ps ws a b) (AA ws js ns):=by
 have t:∀x ∈ AA ws js ns,EE ps ws a b x<=EE ps ws a c x+EE ps ws c b x:=λx hx=>(Hl (np:=ps.length) (D5 bk x hx) (Lj bk.way)).tri c.toNat aA a.toNat b.toNat aA aA;obtain ⟨x,hx,e⟩:=Jk (F:=EE ps ws a b) h;obtain ⟨y,hy,e2⟩:=Hm (F:=EE ps ws c b) h;obtain ⟨z,hz,e3⟩:=Hm (F:=EE ps ws a c) h;obtain ⟨w,hw,e4⟩:=Hm (F:=EE ps ws a b) h;have ok:0<=EE ps ws a b w:=((Hl (np:=ps.length) (D5 bk w hw) (Lj bk.way)).s.ok _ _).1
 have:=t x hx;have:=t y hy;have:=t z hz
 have:=J7 (F:=EE ps ws a c) hx;have:=J7 (F:=EE ps ws c b) hx
 have:=J7 (F:=EE ps ws a c) hy;have:=N4 (F:=EE ps ws a b) hy
 have:=J7 (F:=EE ps ws c b) hz;have:=N4 (F:=EE ps ws a b) hz
 omega
theorem far_way(bk:BV bag kinds ps ws js ns)(h:0<(AA ws js ns).length){k:Nat}(hk:k<ws.length):An (EE ps ws (ws.getD k AE.z).a (ws.getD k AE.z).b) (AA ws js ns)<=(ws.getD k AE.z).high/\Ay (EE ps ws (ws.getD k AE.z).a (ws.getD k AE.z).b) (AA ws js ns)<=(ws.getD k AE.z).high:=by
 have t:∀x ∈ AA ws js ns,EE ps ws (ws.getD k AE.z).a (ws.getD k AE.z).b x<=(ws.getD k AE.z).high:=λx hx=>Int.le_trans (Vy (np:=ps.length) (D5 bk x hx) (Lj bk.way) hk) (Yr hx hk).2;obtain ⟨x,hx,e⟩:=Jk (F:=EE ps ws (ws.getD k AE.z).a (ws.getD k AE.z).b) h;obtain ⟨y,hy,e2⟩:=Hm (F:=EE ps ws (ws.getD k AE.z).a (ws.getD k AE.z).b) h
 have:=t x hx;have:=t y hy
 omega
theorem UW(bk:BZ bag kinds ps ws js ns=0):(AD bag kinds ps ws js ns 0=0/\0<(AA ws js ns).length)\/(AD bag kinds ps ws js ns 0=9/\(AA ws js ns).length=0):=by
 unfold AD;rw [if_neg (λe=>e bk),if_neg aD];by_cases e:(AA ws js ns).length=0
 ·rw [if_pos e];exact .inr ⟨rfl,e⟩
 ·rw [if_neg e];exact .inl ⟨rfl,aA⟩
theorem RZ(ha:0<=a/\a<ps.length)(hb:0<=b/\b<ps.length):B0 ps.length [a,b]=0:=Jg ⟨ha.1,aA⟩ ⟨hb.1,aA⟩
end
section
variable {bag kinds:Int} {ps:List ByteArray} {ws:List AE} {js:List AP} {ns:List AM} {a b c s:Int}
theorem far_bd(bk:BV bag kinds ps ws js ns)(s a b:Int):(0<=BO s (Ay (λx=>AG ps.length ws x a.toNat b.toNat) (AA ws js ns))/\BO s (Ay (λx=>AG ps.length ws x a.toNat b.toNat) (AA ws js ns))<=1048576)/\0<=BO s (An (λx=>AG ps.length ws x a.toNat b.toNat) (AA ws js ns))/\BO s (An (λx=>AG ps.length ws x a.toNat b.toNat) (AA ws js ns))<=1048576:=by
 have f:∀k,0<=AG ps.length ws ((AA ws js ns).getD k AI.zero) a.toNat b.toNat/\AG ps.length ws ((AA ws js ns).getD k AI.zero) a.toNat b.toNat<=1048576:=λk=>ML (Kk bk k) _ _;have lo:∀k,0<=Sj (λx=>AG ps.length ws x a.toNat b.toNat) (AA ws js ns) k/\Sj (λx=>AG ps.length ws x a.toNat b.toNat) (AA ws js ns) k<=1048576:=by
  intro k
  induction k with
  | zero=>exact f 0
  | succ k ih=>
   have g:=f (k+1);rw [<-Lk] at g;show 0<=min _ (AG ps.length ws (((AA ws js ns).drop 1).getD k AI.zero) a.toNat b.toNat)/\min _ (AG ps.length ws (((AA ws js ns).drop 1).getD k AI.zero) a.toNat b.toNat)<=1048576;omega
 have hi:∀k,0<=Sm (λx=>AG ps.length ws x a.toNat b.toNat) (AA ws js ns) k/\Sm (λx=>AG ps.length ws x a.toNat b.toNat) (AA ws js ns) k<=1048576:=by
  intro k
  induction k with
  | zero=>exact f 0
  | succ k ih=>
   have g:=f (k+1);rw [<-Lk] at g;show 0<=max _ (AG ps.length ws (((AA ws js ns).drop 1).getD k AI.zero) a.toNat b.toNat)/\max _ (AG ps.length ws (((AA ws js ns).drop 1).getD k AI.zero) a.toNat b.toNat)<=1048576;omega
 have h1:=lo ((AA ws js ns).length-1);have h2:=hi ((AA ws js ns).length-1);unfold BO;split
 ·exact ⟨h1,h2⟩
 ·omega
theorem far_q(hz:BZ bag kinds ps ws js ns=0):((decide (AD bag kinds ps ws js ns 0=0)) !=(decide (0<Ea bag kinds ps ws js ns)))=false:=by
 have e:Ea bag kinds ps ws js ns=((AA ws js ns).length:Int):=if_pos hz;rw [e];rcases UW hz with ⟨h1,h2⟩ | ⟨h1,h2⟩
 ·rw [h1,decide_eq_true rfl,decide_eq_true aA];rfl
 ·rw [h1,h2];rfl
theorem far_ok(bk:BV bag kinds ps ws js ns)(h0:AD bag kinds ps ws js ns 0=0)(h:0<(AA ws js ns).length)(ha:0<=a/\a<ps.length)(hb:0<=b/\b<ps.length)(hc:0<=c/\c<ps.length) :
  (BO (AD bag kinds ps ws js ns 0) (Ay (λx=>AG ps.length ws x a.toNat b.toNat) (AA ws js ns))=BO (AD bag kinds ps ws js ns 0) (Ay (λx=>AG ps.length ws x b.toNat a.toNat) (AA ws js ns))/\BO (AD bag kinds ps ws js ns 0) (An (λx=>AG ps.length ws x a.toNat b.toNat) (AA ws js ns))=BO (AD bag kinds ps ws js ns 0) (An (λx=>AG ps.length ws x b.toNat a.toNat) (AA ws js ns)))/\
  (BO (AD bag kinds ps ws js ns 0) (Ay (λx=>AG ps.length ws x a.toNat a.toNat) (AA ws js ns))=0/\BO (AD bag kinds ps ws js ns 0) (An (λx=>AG ps.length ws x a.toNat a.toNat) (AA ws js ns))=0)/\
  BO (AD bag kinds ps ws js ns 0) (An (λx=>AG ps.length ws x a.toNat b.toNat) (AA ws js ns))<=BO (AD bag kinds ps ws js ns 0) (An (λx=>AG ps.length ws x a.toNat c.toNat) (AA ws js ns))+BO (AD bag kinds ps ws js ns 0) (An (λx=>AG ps.length ws x c.toNat b.toNat) (AA ws js ns))/\
  BO (AD bag kinds ps ws js ns 0) (Ay (λx=>AG ps.length ws x a.toNat b.toNat) (AA ws js ns))<=BO (AD bag kinds ps ws js ns 0) (An (λx=>AG ps.length ws x a.toNat c.toNat) (AA ws js ns))+BO (AD bag kinds ps ws js ns 0) (Ay (λx=>AG ps.length ws x c.toNat b.toNat) (AA ws js ns))/\
  BO (AD bag kinds ps ws js ns 0) (Ay (λx=>AG ps.length ws x a.toNat b.toNat) (AA ws js ns))<=BO (AD bag kinds ps ws js ns 0) (Ay (λx=>AG ps.length ws x a.toNat c.toNat) (AA ws js ns))+BO (AD bag kinds ps ws js ns 0) (An (λx=>AG ps.length ws x c.toNat b.toNat) (AA ws js ns))/\
  0<=BO (AD bag kinds ps ws js ns 0) (Ay (λx=>AG ps.length ws x a.toNat b.toNat) (AA ws js ns)):=by
 rw [h0];simp only [KQ];exact ⟨far_sym bk h,far_self bk h,far_tri bk h ha hb hc⟩
theorem UX(bk:BV bag kinds ps ws js ns)(h0:AD bag kinds ps ws js ns 0=0)(h:0<(AA ws js ns).length){k:Nat}(hk:k<ws.length):BO (AD bag kinds ps ws js ns 0) (An (λx=>AG ps.length ws x (ws.getD k AE.z).a.toNat (ws.getD k AE.z).b.toNat) (AA ws js ns))<=(ws.getD k AE.z).high/\BO (AD bag kinds ps ws js ns 0) (Ay (λx=>AG ps.length ws x (ws.getD k AE.z).a.toNat (ws.getD k AE.z).b.toNat) (AA ws js ns))<=(ws.getD k AE.z).high:=by
 rw [h0];simp only [KQ];exact far_way bk h hk
end
end Go.Ns
namespace Go.Ns
open Go.Conc
section
variable {P:Program} {Post:Value->World->Prop}
def Xn(P:Program)(Post:Value->World->Prop):Wk P:=⟨true,Ds P Post,KJ⟩
theorem S7:Kf (Xn P Post):=⟨Post,rfl⟩
theorem Ys{f:FuncId}{fn:Func}{c:Code}{args:Array Value}{h:GH}{R:Value->GH->Prop}(hf:P.funcs[f]? =some fn)(hb:fn.body=some c)(hsz:args.size<=fn.ntmps)(hin:P.inits.idxOf? f=none)(hpost:∀v h',R v h'->∀w,Dz w h'->Post v w)
  (x:Tr ⟨Xn P Post,f,none,fn.ntmps⟩ c (λi=>args.getD i undef) [] h (λe O ds h'=>(e=.normal\/e=.ret)/\GE P fn O R ds h')):Ds P Post (G (Frame.enter P f args .normal) []) h:=by
 have e0:Frame.enter P f args .normal=Cg (Frame.enter P f args .normal) (args++Array.replicate (fn.ntmps-args.size) undef) [] [.code c]:=by
  simp [Frame.enter,Cg,hf,hb]
 rw [e0];let L:Lv:=λj t ds h'=>(j=none\/j=some .ret)/\∃O,BY t fn.ntmps O/\GE P fn O R ds h';have fin:∀O ds h' t k,BY t fn.ntmps O->GE P fn O R ds h'->(Xn P Post).K (G (EV (Frame.enter P f args .normal) t ds k) []) h':=by
  intro O ds h' t k hs ho;refine Mp (W:=Xn P Post) (R:=R) hf (b:=Frame.enter P f args .normal) rfl (λt k v h h' hr hrun=>?_) ds h' t k hs ho;refine U3 rfl λw fw=>?_;obtain ⟨w',es,r1,r2⟩:=hrun w fw;refine ⟨v,w',seen P f es++ #[],h',?_,r2.sub (es':=seen P f es++ #[]) λe he=>?_,hpost v h' hr w' r2.fits⟩
  ·rw [KW];unfold unwind;have hfn:(EV (Frame.enter P f args .normal) t [] k).fn=f:=rfl;have hk:(EV (Frame.enter P f args .normal) t [] k).kind=.normal:=rfl;have hm:(EV (Frame.enter P f args .normal) t [] k).mode=.returning:=rfl;have hd:(EV (Frame.enter P f args .normal) t [] k).defers=[]:=rfl;have ht:(EV (Frame.enter P f args .normal) t [] k).tmps=t:=rfl;simp only [hd,hm,hfn,hf,ht,r1,GStep.after,doReturn,hk,hin];rfl
  ·rw [Array.append_empty] at he;exact mem_seen he
 refine x (Frame.enter P f args .normal) [] [] L _ rfl rfl ⟨?_,?_,?_⟩ ⟨by simp;omega,λi=>?_⟩ ?_
 ·rintro t ds h' ⟨_,O,hs,ho⟩;exact Wk.go (EV (Frame.enter P f args .normal) t ds []) (λw=>by rw [A6];simp [stepG.exec,Cg,EV,G,Frame.enter]) (fin O ds h' t [] hs ho)
 ·rintro t ds h' k ⟨_,O,hs,ho⟩;exact Wk.go (EV (Frame.enter P f args .normal) t ds (.code .ret ::k)) (λw=>by rw [A6];simp [stepG.exec,Cg,EV,G,Frame.enter]) (fin O ds h' t _ hs ho)
 ·rintro id t ds h' k _ ⟨h1 | h1,_⟩ <;> cases h1
 ·by_cases hi:i<args.size
  ·simp [Array.getD_eq_getD_getElem?,Array.getElem?_append_left hi]
  ·simp only [Array.getD_eq_getD_getElem?];rw [Array.getElem?_append_right aA,Array.getElem?_eq_none (show args.size<=i by omega),Array.getElem?_replicate];split <;> rfl
 ·rintro e O ds h' ⟨he,ho⟩ t' ht';rcases he with rfl | rfl
  ·exact Wk.go (EV (Frame.enter P f args .normal) t' ds []) (λw=>by rw [A6];simp [stepG.exec,Cg,EV,G,Frame.enter]) (fin O ds h' t' [] ht' ho)
  ·exact ⟨.inr rfl,O,ht',ho⟩
def GH.of(W:World):GH:=λb=>(W.heap[b]?).map λo=>(false,o)
theorem GH.of_some{W:World}{b:Nat}{o:Obj}(h:W.heap[b]? =some o):GH.of W b=some (false,o):=by unfold GH.of;rw [h];rfl
theorem fits_of(W:World):Dz W (GH.of W):=λb p o h=>by
 unfold GH.of at h;cases e:W.heap[b]? with
 | none=>rw [e] at h;cases h
 | some x=>rw [e] at h;cases h;rfl
theorem kept_of{W w:World}{h:GH}(l:(GH.of W).Le h)(f:Dz w h){b:Nat}{o:Obj}(hb:W.heap[b]? =some o):w.heap[b]? =some o:=f b _ _ (l.keep (GH.of_some hb) rfl)
theorem V2{g:Goroutine}{W:World}(hg:Ds P Post g (GH.of W)):Bq P (Ih Post W.os W.output) (solo g W) #[]:=by
 have hno:∀k a,touchAt (#[]:Trace) k=some a->False:=λk a h=>by
  obtain ⟨op,h1,_⟩:=touch_of h;simp at h1
 refine hg #[g] W none (λ_=>0) #[] ⟨rfl,?_,fits_of W,?_,?_,λk a b hk=>(hno k a hk).elim,?_,λk a hk=>(hno k a hk).elim,λb p o k a _ _ hk=>(hno k a hk).elim⟩
 ·intro j x hj hx;rw [Array.getElem?_eq_none (by simp;omega)] at hx;cases hx
 ·intro op hop;simp at hop
 ·rintro said ⟨i,j,hij,⟨a,b,ha,_⟩,_⟩;exact hno i a ha
 ·intro op hop;simp at hop
end
end Go.Ns
namespace Go.Ns
open Go.Conc Go.ChangeShapes Go.WideShapes Go.ChangeAt Go.RowKit
section
variable {P:Program} {W:World}
theorem V3{b off n:Nat}{cs:List Value}(h:W.cells? 0 ⟨b,off,none⟩ n=some cs)(hn:0<n):Aa (GH.of W) b off n cs.toArray:=by
 obtain ⟨_,hl,hc⟩:=World.cells?_some h;have hcell:∀i,i<n->W.cell? ⟨b,off+i,none⟩=cs[i]? :=λi hi=>by
  have:=hc i hi
  unfold Addr.add at this;split at this
  ·rename_i e;subst e;exact this
  ·exact this
 have h0:=hcell 0 hn;unfold World.cell? at h0;cases hb:W.heap[b]? with
 | none=>simp [hb,List.getElem?_eq_getElem (show 0<cs.length by omega)] at h0
 | some o=>
  cases o with
  | cells c t f=>
   have hall:∀i,i<n->c[off+i]? =cs[i]? :=λi hi=>by
    have:=hcell i hi
    unfold World.cell? at this;simpa [hb] using this
   have hlast:=hall (n-1) aA;rw [List.getElem?_eq_getElem (show n-1<cs.length by omega)] at hlast;have hsz:=(Array.getElem?_eq_some_iff.1 hlast).1;refine ⟨false,c,t,f,GH.of_some hb,aA,?_⟩;apply Array.ext
   ·simp;omega
   ·intro i h1 h2;have hi:i<n:=by simp at h2;omega
    have:=hall i hi
    rw [Array.getElem?_eq_getElem aA,List.getElem?_eq_getElem aA] at this;simpa using this
  | _=>simp [hb,List.getElem?_eq_getElem (show 0<cs.length by omega)] at h0
def MW(P:Program)(W:World)(e:TypeId){V:Type}(enc:V->Array Value)(good:V->Prop):Prop:=
 ∀{H:Type}(en:TypeId×Value->H)(sp:Nat->Bool)(held:Bool)(fuel:Nat)(cs:List Value)(x:DataW H×List MemPlace),DataW.trod en P W 0 sp held fuel e cs=some x->(∀y ∈ x.1.weights P e,y<=reachBytes)->∃a:V,cs=(enc a).toList/\good a
theorem Jl{H:Type}{e:TypeId}{d:DataW H}{y:Nat}:∀{l:List (DataW H)},d ∈ l->y ∈ d.weights P e->y ∈ DataW.weightsAll P e l
 | c ::l,hd,hy=>by
  unfold DataW.weightsAll;rcases List.mem_cons.1 hd with rfl | hd
  ·exact List.mem_append_left _ hy
  ·exact List.mem_append_right _ (Jl hd hy)
theorem IX{H:Type}{en:TypeId×Value->H}{sp:Nat->Bool}{held:Bool}{fuel:Nat}{t e:TypeId}{n:Nat}{V:Type}{enc:V->Array Value}{good:V->Prop}{v:Value}{d:DataW H}{ps:List MemPlace}(ht:P.underlying t=some (.slice e))(hc:P.cellsOf e=n)(hn:0<n)
  (hb:1<=P.bytesOf e) (ho:MW P W e enc good) (h:DataW.trod en P W 0 sp held fuel t [v]=some (d,ps)) (hw:∀y ∈ d.weights P t,y<=reachBytes):∃xs:List V,AF (GH.of W) v n enc xs/\∀x ∈ xs,good x:=by
 rcases DataW.trod_slice ht h with ⟨h1,_⟩ | ⟨a,len,cap,elems,rest,m,rfl,h1,h2,_,hl,_,hlen,hel,_,_⟩
 ·simp at h1;subst h1;exact ⟨[],AF.nil _ _ _,λx hx=>by cases hx⟩
 ·simp only [List.cons.injEq,and_true] at h1;subst h1;simp only [Prod.mk.injEq] at h2;have hd:d=.slice (elems.map (·.1)) (rest.map (·.1)):=h2.1;have hlim:len<=140737488355328:=by
   have:=hw ((elems.map (·.1)).length+(rest.map (·.1)).length |>.mul (P.bytesOf e)) (by rw [hd];unfold DataW.weights;rw [ht];exact List.mem_cons_self ..)
   have h3:(elems.map (·.1)).length+(rest.map (·.1)).length<=((elems.map (·.1)).length+(rest.map (·.1)).length)*P.bytesOf e:=Nat.le_mul_of_pos_right _ hb;have h4:((elems.map (·.1)).length+(rest.map (·.1)).length)*P.bytesOf e<=reachBytes:=this;rw [List.length_map] at h3 h4;unfold reachBytes at h4;omega
  have each:∀i,i<len->∃x:V,∃b off,a=⟨b,off,none⟩/\Aa (GH.of W) b (off+i*n) n (enc x)/\good x:=λi hi=>by
   have:=hel i hi
   rw [List.getElem?_eq_getElem aA,hc] at this;simp only [Option.bind_eq_some_iff] at this;obtain ⟨cs,hcs,hx⟩:=this;obtain ⟨x,e1,e2⟩:=ho _ _ _ _ _ _ hx λy hy=>hw y (by rw [hd];unfold DataW.weights;rw [ht];exact List.mem_cons_of_mem _ (List.mem_append_left _ (Jl (List.mem_map.2 ⟨_,List.getElem_mem (show i<elems.length by omega),rfl⟩) hy)));have hc0:=(World.cells?_some hcs).2.2 0 hn;have hlen2:=(World.cells?_some hcs).2.1;rw [List.getElem?_eq_getElem (show 0<cs.length by omega)] at hc0;have hsp:=World.cell?_spot hc0;obtain ⟨b,off,spot⟩:=a;have hspot:spot=none\/i≠0:=by
    by_cases e0:i=0
    ·subst e0;left;simpa [Addr.add] using hsp
    ·exact .inr e0
   have hfirst:spot=none:=by
    rcases hspot with e | e
    ·exact e
    ·have h00:=hel 0 aA;rw [List.getElem?_eq_getElem aA,hc] at h00;simp only [Option.bind_eq_some_iff] at h00;obtain ⟨c0,hc00,_⟩:=h00;have z:=(World.cells?_some hc00).2.2 0 hn;have zl:=(World.cells?_some hc00).2.1;rw [List.getElem?_eq_getElem (show 0<c0.length by omega)] at z
     have:=World.cell?_spot z
     simpa [Addr.add] using this
   subst hfirst;refine ⟨x,b,off,rfl,?_,e2⟩;have ea:(Addr.add ⟨b,off,none⟩ (i*n))=⟨b,off+i*n,none⟩:=by
    unfold Addr.add;split
    ·rename_i e;rw [e];rfl
    ·rfl
   rw [ea] at hcs
   have:=V3 hcs hn
   rw [e1] at this;simpa using this
  by_cases hz:len=0
  ·subst hz;exact ⟨[],⟨some a,cap,rfl,Nat.zero_le _,Nat.zero_le _,λi hi=>by simp at hi⟩,λx hx=>by cases hx⟩
  ·have hch:∀i:Fin len,∃x:V,∃b off,a=⟨b,off,none⟩/\Aa (GH.of W) b (off+i.val*n) n (enc x)/\good x:=λi=>each i.val i.isLt;refine ⟨List.ofFn λi=>Classical.choose (hch i),⟨some a,cap,by rw [List.length_ofFn],by rw [List.length_ofFn];exact hl,by rw [List.length_ofFn];exact hlim,λi hi=>?_⟩,λx hx=>?_⟩
   ·rw [List.length_ofFn] at hi;obtain ⟨b,off,e1,e2,_⟩:=Classical.choose_spec (hch ⟨i,hi⟩);refine ⟨b,off,by rw [e1],?_⟩;rw [List.getElem_ofFn];exact e2
   ·obtain ⟨i,rfl⟩:=List.mem_ofFn.1 hx;obtain ⟨_,_,_,_,e3⟩:=Classical.choose_spec (hch i);exact e3
theorem J8{H:Type}{en:TypeId×Value->H}{t:TypeId}(hl:laidOutB P=true)(hr:P.readableRec t=true)(hrow:t<P.types.size){W':World}{v:Value}{d:DataW H}{ps:List MemPlace}(h:DataW.Trod en P W 0 (λ_=>true) true t v d ps)
  (hk:∀(b:Nat)(o:Obj),W.heap[b]? =some o->W'.heap[b]? =some o) (hlt:∀x ∈ ps,x.block<W.heap.size):DataW.Trod en P W' 0 (λb=>decide (b<W.heap.size)) true t v d ps:=by
 let W2:World:={ W' with os:=W.os,tape:=W.tape,output:=W.output };have hsz:W.heap.size<=W'.heap.size:=by
  rcases Nat.lt_or_ge W'.heap.size W.heap.size with x | x
  ·have:=hk W'.heap.size _ (Array.getElem?_eq_getElem x)
   rw [Array.getElem?_eq_none (Nat.le_refl _)] at this;cases this
  ·exact x
 have hb:Below W.heap.size W W2:=⟨rfl,rfl,rfl,hsz,λk hk'=>by
  show W'.heap[k]? =_;rw [Array.getElem?_eq_getElem hk'];exact hk k _ (Array.getElem?_eq_getElem hk')⟩
 exact DataW.Trod.of_heap (w:=W2) (w':=W') rfl (Below.trod hl hr hrow h hb hlt)
theorem kept_but{W':World}(hk:∀(b:Nat)(o:Obj),W.heap[b]? =some o->W'.heap[b]? =some o)(ho:W'.os=W.os)(hp:W'.output=W.output)(may:MemPlace->Prop):W.keptBut W' may:=by
 refine ⟨ho,hp,λi hi=>?_⟩;rw [hk i _ (Array.getElem?_eq_getElem hi),Array.getElem?_eq_getElem hi];split <;> simp_all
end
end Go.Ns
namespace Go.Ns
open Go.Conc
universe u
theorem Z{V:Sort u}{a:V}:a=a:=rfl
theorem Lr{h:GH}:GH.Le h h:=GH.Le.refl h
theorem Ln{h h':GH}(l:h.Le h'){r:Nat}(hr:h' r=none):h r=none:=l.nothing hr
theorem CP{h:GH}{b r:Nat}{p:Bool}{o:Obj}(hb:h b=some (p,o))(hr:h r=none):b≠r:=GH.ne_of hb hr
theorem Nb{a b:Nat}(h:Nat.ble a b=true):a<=b:=Nat.le_of_ble_eq_true h
theorem Dn{p:Prop}[Decidable p](h:¬¬p):p:=Decidable.not_not.1 h
theorem Et{V:Sort u}{a b c:V}(x:a=b)(y:b=c):a=c:=x.trans y
theorem Kl{h0 h:GH}(k:KeepD (λb=>h0 b=none) h0 h):h0.Le h:=k.leOf
theorem Bx{h:GH}{b:Nat}{p:Bool}{c:Array Value}{t:TypeId}{f:Nat×Nat}(hb:h b=some (p,.cells c t f)){n:Nat}(hn:c.size=n):Aa h b 0 n c:=Aa.box hb hn
abbrev lE(v:Value):Law2:=λ_ u _=>u=v
abbrev lF(v:Value):QN:=λu _=>u=v
abbrev zP:Array Value:=#[.int .i64 0,.int .i64 0,.slice none 0 0,.slice none 0 0,.slice none 0 0,.slice none 0 0,.map none]
section
variable {P:Program} {E:GX P} {O:Nat->Value} {ds:List Deferred} {h:GH} {Q:Post} {T:(Nat->Value)->List Deferred->GH->Prop}
variable {dst:Option Nat} {ty:TypeId} {pos:String} {af:Array Edge} {ops:Array Oper} {o:Oper} {l:List Oper}
theorem Sq{x y:Code}(a:Tr E x O ds h (λe σ' ds' h'=>match e with | .normal=>Tr E y σ' ds' h' Q | e=>Q e σ' ds' h')):Tr E (.seq x y) O ds h Q:=tr_seq a
theorem Rg{id:Nat}{l:List Oper}(a:DJ E l.toArray l O ds h Q):Tr E (.region id l.toArray false) O ds h Q:=Xu a
theorem Nl(q:Q .normal O ds h):DJ E ops [] O ds h Q:=trL_nil q
abbrev Rt:=@tr_ret
abbrev Bk:=@tr_block
abbrev Sk:=@tr_skip
abbrev Xt:=@tr_exit
def plainB(N:Nat)(o:Oper):Bool:=o.guard.isNone && !Cy o.op && Cw o.dst N
theorem Pl(hp:plainB E.N o=true)(x:BU E o O ds h λσ' ds' h'=>DJ E ops l σ' ds' h' Q):DJ E ops (o ::l) O ds h Q:=by
 simp only [plainB,Bool.and_eq_true,Option.isNone_iff_eq_none,Bool.not_eq_true'] at hp;exact GF hp.1.1 hp.1.2 hp.2 x
theorem Mv{x:Operand}(v:Value)(hp:Cw dst E.N=true)(hx:AQ O x=v)(k:DJ E ops l (putS O dst v) ds h Q):DJ E ops (⟨dst,.move x,ty,pos,af,none⟩ ::l) O ds h Q:=GF rfl rfl hp (SC hx k)
theorem As{x:Operand}(v:Value)(hp:Cw dst E.N=true)(hx:AQ O x=v)(k:DJ E ops l (putS O dst v) ds h Q):DJ E ops (⟨dst,.assign x,ty,pos,af,none⟩ ::l) O ds h Q:=GF rfl rfl hp (IO hx k)
theorem Ld{t:TypeId}{x:Operand}{b off:Nat}(v:Value)(hp:Cw dst E.N=true)(hx:AQ O x=.pointer (some ⟨b,off,none⟩))(hr:Rd P h t b off v)(k:DJ E ops l (putS O dst v) ds h Q):DJ E ops (⟨dst,.load t x,ty,pos,af,none⟩ ::l) O ds h Q:=
 GF rfl rfl hp (Cs hx hr k)
theorem Fa{s:TypeId}{x:Operand}{f o b off:Nat}(hf:Dl P s f=some o)(hp:Cw dst E.N=true)(hx:AQ O x=.pointer (some ⟨b,off,none⟩))(k:DJ E ops l (putS O dst (.pointer (some ⟨b,off+o,none⟩))) ds h Q) :
  DJ E ops (⟨dst,.fieldAddr s x f,ty,pos,af,none⟩ ::l) O ds h Q:=GF rfl rfl hp (AJ hf hx k)
theorem Pk{c a b:Operand}(t:Bool)(v:Value)(hp:Cw dst E.N=true)(hc:AQ O c=.bool t)(hv:(if t then AQ O a else AQ O b)=v)(k:DJ E ops l (putS O dst v) ds h Q):DJ E ops (⟨dst,.pick c a b,ty,pos,af,none⟩ ::l) O ds h Q:=
 GF rfl rfl hp (Am hc hv k)
theorem Ad{xt yt:TypeId}{x y:Operand}(a b:Int)(hp:Cw dst E.N=true)(hx:AQ O x=.int .i64 a)(hy:AQ O y=.int .i64 b)(hr: -9223372036854775808<=a+b/\a+b<=9223372036854775807)(k:DJ E ops l (putS O dst (.int .i64 (a+b))) ds h Q) :
  DJ E ops (⟨dst,.binOp .add xt x y yt,ty,pos,af,none⟩ ::l) O ds h Q:=GF rfl rfl hp (DB hx hy hr k)
def skipB(N:Nat)(ops:Array Oper)(o:Oper)(j d:Nat)(is:Bool):Bool:=(match o.guard with
 | some (i,w)=>i==j && w !=is
 | none=>false) && (match ops[j]? with
 | some oj=>(match oj.dst with
  | some e=>e==d
  | none=>false)
 | none=>false) && Nat.blt d N && Cw o.dst N
theorem Gs(j d:Nat){is:Bool}(hv:O d=.bool is)(hs:skipB E.N ops o j d is=true)(x:DJ E ops l (putS O o.dst undef) ds h Q):DJ E ops (o ::l) O ds h Q:=by
 simp only [skipB,Bool.and_eq_true] at hs;obtain ⟨⟨⟨h1,h2⟩,h3⟩,h4⟩:=hs;cases hg:o.guard with
 | none=>rw [hg] at h1;cases h1
 | some q=>
  obtain ⟨i,w⟩:=q;rw [hg] at h1;simp only [Bool.and_eq_true,beq_iff_eq,bne_iff_ne,ne_eq] at h1;obtain ⟨rfl,hne⟩:=h1;cases hj:ops[i]? with
  | none=>rw [hj] at h2;cases h2
  | some oj=>
   cases hd:oj.dst with
   | none=>simp [hj,hd] at h2
   | some e=>
    obtain rfl:e=d:=by simpa [hj,hd] using h2
    exact N9 hg hj hd hv h3 hne h4 x
def goB(N:Nat)(ops:Array Oper)(o:Oper)(j d:Nat)(is:Bool):Bool:=(match o.guard with
 | some (i,w)=>i==j && w==is
 | none=>false) && (match ops[j]? with
 | some oj=>(match oj.dst with
  | some e=>e==d
  | none=>false)
 | none=>false) && Nat.blt d N && !Cy o.op && Cw o.dst N
theorem Gg(j d:Nat){is:Bool}(hv:O d=.bool is)(hs:goB E.N ops o j d is=true)(x:BU E o O ds h λσ' ds' h'=>DJ E ops l σ' ds' h' Q):DJ E ops (o ::l) O ds h Q:=by
 simp only [goB,Bool.and_eq_true,Bool.not_eq_true'] at hs;obtain ⟨⟨⟨⟨h1,h2⟩,h3⟩,h5⟩,h4⟩:=hs;cases hg:o.guard with
 | none=>rw [hg] at h1;cases h1
 | some q=>
  obtain ⟨i,w⟩:=q;rw [hg] at h1;simp only [Bool.and_eq_true,beq_iff_eq] at h1;obtain ⟨rfl,rfl⟩:=h1;cases hj:ops[i]? with
  | none=>rw [hj] at h2;cases h2
  | some oj=>
   cases hd:oj.dst with
   | none=>simp [hj,hd] at h2
   | some e=>
    obtain rfl:e=d:=by simpa [hj,hd] using h2
    exact trL_opg hg hj hd hv h3 (.inr h5) h4 x
end
section
variable {S:Nat->Prop} {Pre:Nat->GH->Prop} {Φ:List Law2} {cl:List Nat} {k d:Nat} {h h':GH} {O:Nat->Value} {ds:List Deferred} {v:Value}
theorem fL{Φ:List QN}(p:LG Φ k v h):ds=ds/\GH.Le h h/\∃w,putS O (some d) v=putS O (some d) w/\LG Φ k w h:=⟨rfl,GH.Le.refl _,_,rfl,p⟩
theorem K1{R:GH->GH->Prop}{Φ:List QN}{a:Value}(x:Fo R Φ):Fo R (lF a ::Φ):=⟨λ_ _ _ _ y=>y,x⟩
theorem K2{R:GH->GH->Prop}{Φ:List QN}{a b:Value}(x:Fo R Φ):Fo R (lF a ::lF b ::Φ):=K1 (K1 x)
theorem K4{R:GH->GH->Prop}{Φ:List QN}{a b c d:Value}(x:Fo R Φ):Fo R (lF a ::lF b ::lF c ::lF d ::Φ):=K2 (K2 x)
theorem K8{R:GH->GH->Prop}{Φ:List QN}{a b c d a' b' c' d':Value}(x:Fo R Φ):Fo R (lF a ::lF b ::lF c ::lF d ::lF a' ::lF b' ::lF c' ::lF d' ::Φ):=K4 (K4 x)
end
end Go.Ns
namespace Go.Ns
open Go.Conc
section
variable {P:Program} {E:GX P} {O:Nat->Value} {ds:List Deferred} {h:GH} {Q:Post} {T:(Nat->Value)->List Deferred->GH->Prop}
variable {dst:Option Nat} {ty:TypeId} {pos:String} {af:Array Edge} {ops:Array Oper} {o:Oper} {l:List Oper} {gd:Option (Nat×Bool)}
theorem Mz{x:Operand}(v:Value)(e:(Cw dst E.N,AQ O x)=(true,v))(k:DJ E ops l (putS O dst v) ds h Q):DJ E ops (⟨dst,.move x,ty,pos,af,none⟩ ::l) O ds h Q:=Mv v (congrArg Prod.fst e) (congrArg Prod.snd e) k
theorem Az{x:Operand}(v:Value)(e:(Cw dst E.N,AQ O x)=(true,v))(k:DJ E ops l (putS O dst v) ds h Q):DJ E ops (⟨dst,.assign x,ty,pos,af,none⟩ ::l) O ds h Q:=As v (congrArg Prod.fst e) (congrArg Prod.snd e) k
theorem Lz{t:TypeId}{x:Operand}{b off:Nat}(v:Value)(e:(Cw dst E.N,AQ O x)=(true,.pointer (some ⟨b,off,none⟩)))(hr:Rd P h t b off v)(k:DJ E ops l (putS O dst v) ds h Q):DJ E ops (⟨dst,.load t x,ty,pos,af,none⟩ ::l) O ds h Q:=
 Ld v (congrArg Prod.fst e) (congrArg Prod.snd e) hr k
theorem Fz{s:TypeId}{x:Operand}{f o b off:Nat}(hf:Dl P s f=some o)(e:(Cw dst E.N,AQ O x)=(true,.pointer (some ⟨b,off,none⟩)))(k:DJ E ops l (putS O dst (.pointer (some ⟨b,off+o,none⟩))) ds h Q) :
  DJ E ops (⟨dst,.fieldAddr s x f,ty,pos,af,none⟩ ::l) O ds h Q:=Fa hf (congrArg Prod.fst e) (congrArg Prod.snd e) k
theorem Pz{c a b:Operand}(t:Bool)(v:Value)(e:(Cw dst E.N,AQ O c,(if t then AQ O a else AQ O b))=(true,.bool t,v))(k:DJ E ops l (putS O dst v) ds h Q):DJ E ops (⟨dst,.pick c a b,ty,pos,af,none⟩ ::l) O ds h Q:=
 Pk t v (congrArg Prod.fst e) (congrArg (λq=>q.2.1) e) (congrArg (λq=>q.2.2) e) k
theorem Yd{xt yt:TypeId}{x y:Operand}{a b:Int}(e:(Cw dst E.N,AQ O x,AQ O y)=(true,.int .i64 a,.int .i64 b))(hr: -9223372036854775808<=a+b/\a+b<=9223372036854775807)(k:DJ E ops l (putS O dst (.int .i64 (a+b))) ds h Q) :
  DJ E ops (⟨dst,.binOp .add xt x y yt,ty,pos,af,none⟩ ::l) O ds h Q:=Ad a b (congrArg Prod.fst e) (congrArg (λq=>q.2.1) e) (congrArg (λq=>q.2.2) e) hr k
theorem Mo{x:Operand}(v:Value)(hx:AQ O x=v)(k:T (putS O dst v) ds h):BU E ⟨dst,.move x,ty,pos,af,gd⟩ O ds h T:=SC hx k
theorem Lo{t:TypeId}{x:Operand}{b off:Nat}(v:Value)(hx:AQ O x=.pointer (some ⟨b,off,none⟩))(hr:Rd P h t b off v)(k:T (putS O dst v) ds h):BU E ⟨dst,.load t x,ty,pos,af,gd⟩ O ds h T:=Cs hx hr k
theorem Ex{x:Operand}{n:Nat}{vs:Array Value}(v:Value)(e:(AQ O x,vs[n]?)=(.tuple vs,some v))(k:T (putS O dst v) ds h):BU E ⟨dst,.extract x n,ty,pos,af,gd⟩ O ds h T:=U9 (congrArg Prod.fst e) (congrArg Prod.snd e) k
theorem Bo{t:TypeId}{x:Operand}{v:Value}(c:Array Value)(hx:AQ O x=v)(hc:v.cells=c)
  (k:∀r h',h r=none->h.Le h'->h' r=some (true,.cells c t (0,0))->(∀b,b≠r->h' b=h b)->T (putS O dst (.pointer (some ⟨r,0,none⟩))) ds h'):BU E ⟨dst,.box t x,ty,pos,af,gd⟩ O ds h T:=SD hx hc k
theorem So{t:TypeId}{a x:Operand}{b off n:Nat}{g:Bool}{c:Array Value}{et:TypeId}(v:Value)(c':Array Value)(ht:Cc P t=some (g,n))(e:(AQ O a,AQ O x)=(.pointer (some ⟨b,off,none⟩),v))(hb:h b=some (true,.cells c et (0,0)))
  (e2:(v.cells.size,Value.fine v)=(n,true)) (hn:off+n<=c.size) (hc:Bw c off v.cells.toList=c') (k:∀h',h' b=some (true,.cells c' et (0,0))->(∀x,x≠b->h' x=h x)->T (putS O dst undef) ds h') :
  BU E ⟨dst,.store t a x,ty,pos,af,gd⟩ O ds h T:=Ak ht (congrArg Prod.fst e) (congrArg Prod.snd e) hb (congrArg Prod.fst e2) (congrArg Prod.snd e2) hn hc k
theorem Ot{fn:Func}{R:Value->GH->Prop}{t:Tmp}(v:Value)(e:(fn.results,O t)=(#[.tmp t],v))(x:R v h):GE P fn O R [] h:=JM (congrArg Prod.fst e) (congrArg Prod.snd e) x
theorem Ou{fn:Func}{R:Value->GH->Prop}{t u:Tmp}(v v':Value)(e:(fn.results,O t,O u)=(#[.tmp t,.tmp u],v,v'))(x:R (.tuple #[v,v']) h):GE P fn O R [] h:=outs2 (congrArg Prod.fst e) (congrArg (λq=>q.2.1) e) (congrArg (λq=>q.2.2) e) x
theorem Sr{id:Nat}{y:Code}(a:DJ E l.toArray l O ds h (λe σ' ds' h'=>match e with | .normal=>Tr E y σ' ds' h' Q | e=>Q e σ' ds' h')):Tr E (.seq (.region id l.toArray false) y) O ds h Q:=Sq (Rg a)
theorem S2{id:Nat}{y z:Code}(a:DJ E l.toArray l O ds h (λe σ' ds' h'=>match e with | .normal=>Tr E y σ' ds' h' (λe σ' ds' h'=>match e with | .normal=>Tr E z σ' ds' h' Q | e=>Q e σ' ds' h') | e=>(λe σ' ds' h'=>match e with | .normal=>Tr E z σ' ds' h' Q | e=>Q e σ' ds' h') e σ' ds' h')) :
  Tr E (.seq (.seq (.region id l.toArray false) y) z) O ds h Q:=Sq (Sq (Rg a))
theorem Zr{V:Type}{a b:V}:a=b\/a=a:=.inr rfl
theorem M2{x x':Operand}{dst':Option Nat}{ty':TypeId}{pos':String}{af':Array Edge}(v v':Value)(e:(Cw dst E.N,AQ O x,Cw dst' E.N,AQ (putS O dst v) x')=(true,v,true,v'))(k:DJ E ops l (putS (putS O dst v) dst' v') ds h Q):DJ E ops (⟨dst,.move x,ty,pos,af,none⟩ ::⟨dst',.move x',ty',pos',af',none⟩ ::l) O ds h Q:=
 Mv v (congrArg Prod.fst e) (congrArg (λq=>q.2.1) e) (Mv v' (congrArg (λq=>q.2.2.1) e) (congrArg (λq=>q.2.2.2) e) k)
theorem A2{x x':Operand}{dst':Option Nat}{ty':TypeId}{pos':String}{af':Array Edge}(v v':Value)(e:(Cw dst E.N,AQ O x,Cw dst' E.N,AQ (putS O dst v) x')=(true,v,true,v'))(k:DJ E ops l (putS (putS O dst v) dst' v') ds h Q):DJ E ops (⟨dst,.assign x,ty,pos,af,none⟩ ::⟨dst',.assign x',ty',pos',af',none⟩ ::l) O ds h Q:=
 As v (congrArg Prod.fst e) (congrArg (λq=>q.2.1) e) (As v' (congrArg (λq=>q.2.2.1) e) (congrArg (λq=>q.2.2.2) e) k)
theorem Ct{W:Wk P}{f:FuncId}{fn:Func}{c:Code}{args:Array Value}{R:Value->GH->Prop}(hf:P.funcs[f]? =some fn)(e:(fn.body,Nat.ble args.size fn.ntmps)=(some c,true))
  (x:Tr ⟨W,f,none,fn.ntmps⟩ c (λi=>args.getD i undef) [] h (λe O ds h'=>(e=.normal\/e=.ret)/\GE P fn O R ds h')):AY W f args h R:=U7 hf (congrArg Prod.fst e) (Nat.le_of_ble_eq_true (congrArg Prod.snd e)) x
end
section
variable {P:Program} {E:GX P} {l:List Oper} {n:Nat} {fl:Bool} {hs:GH} {ds:List Deferred} {Lw:Nat->Value->GH->Prop} {F:(Nat->Value)->GH->Prop} {π:List Nat} {O:Nat->Value} {h:GH} {m k g d:Nat} {dst:Option Nat} {op:Op} {ty:TypeId} {pos:String} {af:Array Edge} {v:Value} {w is:Bool} {og:Oper}
theorem Rz(e:(KE m,l[k]?)=((.r,k),some ⟨dst,op,ty,pos,af,none⟩))(x:SI E ⟨dst,op,ty,pos,af,none⟩ O ds h v)(y:TD E l n fl hs ds Lw F (dK π) (putS O dst v) h):TD E l n fl hs ds Lw F (dK (m ::π)) O h:=tR (congrArg Prod.fst e) (congrArg Prod.snd e) x y
theorem Rm{x:Operand}(v:Value)(e:(KE m,l[k]?,AQ O x)=((.r,k),some ⟨dst,.move x,ty,pos,af,none⟩,v))(y:TD E l n fl hs ds Lw F (dK π) (putS O dst v) h):TD E l n fl hs ds Lw F (dK (m ::π)) O h:=
 tR (congrArg Prod.fst e) (congrArg (λq=>q.2.1) e) (SC (congrArg (λq=>q.2.2) e) vz) y
theorem Rl{t:TypeId}{x:Operand}{b off:Nat}(v:Value)(e:(KE m,l[k]?,AQ O x)=((.r,k),some ⟨dst,.load t x,ty,pos,af,none⟩,.pointer (some ⟨b,off,none⟩)))(hr:Rd P h t b off v)(y:TD E l n fl hs ds Lw F (dK π) (putS O dst v) h):TD E l n fl hs ds Lw F (dK (m ::π)) O h:=
 tR (congrArg Prod.fst e) (congrArg (λq=>q.2.1) e) (Cs (congrArg (λq=>q.2.2) e) hr vz) y
theorem Py(e:(KE m,l[k]?)=((.p,k),some ⟨dst,op,ty,pos,af,none⟩))(x:∀hx,SI E ⟨dst,op,ty,pos,af,none⟩ O ds hx v)(y:TD E l n fl hs ds Lw F (dK π) (putS O dst v) h):TD E l n fl hs ds Lw F (dK (m ::π)) O h:=tP (congrArg Prod.fst e) (congrArg Prod.snd e) x y
theorem Ry(e:(KE m,l[k]?,l[g]?,og.dst)=((.r,k),some ⟨dst,op,ty,pos,af,some (g,w)⟩,some og,some d))(h3:O d=.bool w)(x:SI E ⟨dst,op,ty,pos,af,some (g,w)⟩ O ds h v)
  (y:TD E l n fl hs ds Lw F (dK π) (putS O dst v) h):TD E l n fl hs ds Lw F (dK (m ::π)) O h:=tRg (congrArg Prod.fst e) (congrArg (λq=>q.2.1) e) (congrArg (λq=>q.2.2.1) e) (congrArg (λq=>q.2.2.2) e) h3 x y
theorem Sz{kd:Kd}(e:(KE m,l[k]?,l[g]?,og.dst)=((kd,k),some ⟨dst,op,ty,pos,af,some (g,w)⟩,some og,some d))(h3:O d=.bool is)(hne:(is==w)=false)
  (y:TD E l n fl hs ds Lw F (dK π) (putS O dst undef) h) (hl:(kd !=Kd.l)=true:=by rfl):TD E l n fl hs ds Lw F (dK (m ::π)) O h:=tS (congrArg Prod.fst e) (congrArg (λq=>q.2.1) e) (congrArg (λq=>q.2.2.1) e) (congrArg (λq=>q.2.2.2) e) h3 hne y hl
end
end Go.Ns
namespace Go.Ns
open Go.Conc
abbrev J(x:Int):Value:=.int .i64 x
abbrev Pt(b:Nat):Value:=.pointer (some ⟨b,0,none⟩)
abbrev Sc(b:Nat)(n c:Nat):Value:=.slice (some ⟨b,0,none⟩) n c
abbrev Q0:Array Value:=#[J 0,J 0,.slice none 0 0,.slice none 0 0,.slice none 0 0,.slice none 0 0,.slice none 0 0,.map none]
abbrev Q1(a:List AE)(b:List AP)(c:List AM)(d:Nat):Array Value:=#[J (((AA a b c).getD (((d:Int)-1).toNat) AI.zero).ways 0),J (((AA a b c).getD (((d:Int)-1).toNat) AI.zero).ways 1),J (((AA a b c).getD (((d:Int)-1).toNat) AI.zero).ways 2),J (((AA a b c).getD (((d:Int)-1).toNat) AI.zero).ways 3),J (((AA a b c).getD (((d:Int)-1).toNat) AI.zero).ways 4)]
abbrev Q2(a:List AE)(b:List AP)(c:List AM)(d:Nat):Array Value:=#[J (((AA a b c).getD d AI.zero).ways 0),J (((AA a b c).getD d AI.zero).ways 1),J (((AA a b c).getD d AI.zero).ways 2),J (((AA a b c).getD d AI.zero).ways 3),J (((AA a b c).getD d AI.zero).ways 4)]
abbrev Q3(a:List AE)(b:Nat):Array Value:=#[J ((a.getD b AE.z).a),J ((a.getD b AE.z).b),J ((a.getD b AE.z).low),J ((a.getD b AE.z).high)]
abbrev Q4(a:ByteArray)(b:Nat):=decide (¬(((97<=((bytesOf a).getD b 0))/\(((bytesOf a).getD b 0)<=122))\/(((0<(b:Int))/\(48<=((bytesOf a).getD b 0)))/\(((bytesOf a).getD b 0)<=57))))
abbrev Q5(a:Int):=KF (KF a (FA a 13)) ((KF a (FA a 13)) / 128)
abbrev Q6:Value:=.slice none 0 0
abbrev Q7(a:List AM)(b:Nat):Array Value:=#[(a.getD b AM.z).wv,J ((a.getD b AM.z).low),J ((a.getD b AM.z).high)]
abbrev Q8(a:ByteArray)(b:Nat):=(bytesOf a).getD b 0
abbrev Q9(a:List AP)(b:Nat):=decide ((¬(((0<=((a.getD b AP.z).low)/\((a.getD b AP.z).low)<=((a.getD b AP.z).high))/\((a.getD b AP.z).high)<=30)/\((a.getD b AP.z).high)-((a.getD b AP.z).low)<2))\/(¬(0<=((a.getD b AP.z).due)/\((a.getD b AP.z).due)<=200)))
abbrev Qa(a:List AE)(b:Nat):=(a.getD b AE.z).b
abbrev Qb(a:List AP)(b:Nat):Array Value:=#[J ((a.getD b AP.z).place),J ((a.getD b AP.z).low),J ((a.getD b AP.z).high),J ((a.getD b AP.z).due),(a.getD b AP.z).pv]
abbrev Qc(a:List AI)(b:Nat):=(a.drop (1)).getD b AI.zero
abbrev Qd(a:List Value)(b:Array Int)(c:Nat)(d:Nat):=Bm a ((b.setIfInBounds c (b[d]!)).setIfInBounds d (b[c]!))
abbrev Qe(a:Nat)(b:Array Int)(c:Nat):=Sc a b.size c
abbrev Qf(a:List AE)(b:Nat):=(a.getD b AE.z).a
abbrev Qg(a:List ByteArray)(b:List AE)(c:List AP)(d:List AM):=decide ((((20<(a.length:Int))\/(20<(b.length:Int)))\/(20<(c.length:Int)))\/(20<(d.length:Int)))
abbrev Qh(a:Int)(b:Int):=decide ((¬(0<=a/\a<=9))\/(¬(0<=b/\b<=3)))
abbrev Qi(a:Int)(b:Int):Value:=.bool (decide (a<=b))
abbrev Qj(a:List AE)(b:List AP)(c:List AM)(d:Nat):Value:=.agg (Af ((AA a b c).getD d AI.zero))
abbrev Qk(a:Int)(b:Int)(c:Int)(d:Int):=decide ((((0<=a)/\(a<=b))/\(b<=c))/\((b-a)<d))
abbrev Ql(a:List ByteArray)(b:List AE)(c:Nat):=J (B0 a.length [(b.getD c AE.z).a,(b.getD c AE.z).b])
abbrev Qm(a:Nat)(b:Nat)(c:Array Int)(d:Nat):=decide (((a:Int)<=(b:Int))/\(¬((c[b]!)<(c[d]!))))
abbrev Qn(a:List AI):=a.getD 0 AI.zero
abbrev Qo(a:List AP)(b:List Int):=Ai a.length b
abbrev Qp(a:List AP)(b:List Int)(c:Int):=(a.getD ((b.getD (c.toNat) 0).toNat) AP.z).due
abbrev Qq(a:List Int)(b:Nat):=J (a.getD b 0)
abbrev Qr(a:List ByteArray)(b:Int)(c:Int):=B0 a.length [b,c]
abbrev Qs(a:List AM)(b:Nat):Array Value:=#[J ((a.getD b AM.z).low),J ((a.getD b AM.z).high)]
abbrev Qt(a:List AP)(b:Int):=F0 a.length b
abbrev Qu(a:List AE)(b:Nat):Array Value:=#[J ((a.getD b AE.z).low),J ((a.getD b AE.z).high)]
abbrev Qv(a:List AP)(b:Nat):Array Value:=#[J ((a.getD b AP.z).low),J ((a.getD b AP.z).high)]
abbrev Qw(a:List AM)(b:Nat)(c:Nat):=((a.getD b AM.z).ways).getD c 0
abbrev Qx(a:Int)(b:Int):=decide (((0<=a/\a<=b)/\b<=30)/\((b-a)<2))
abbrev Qy(a:List Value)(b:Array Int)(c:Nat)(d:Nat):=Bm a (b.setIfInBounds c (b[d]!))
abbrev Qz(a:Nat):=J ((2*(a:Int))+1)
abbrev Q10(a:Nat)(b:Int)(c:Array Int)(d:Nat):=decide (((((2*(a:Int))+1)+1)<b)/\((c[(d+((2*a)+1))]!)<(c[((d+((2*a)+1))+1)]!)))
abbrev Q11(a:List AP)(b:List Int)(c:Int):=Eq a.length b c
abbrev Q12(a:Int)(b:Int)(c:Int):=decide ((a<=b)/\(b<=c))
abbrev Q13(a:Nat)(b:Nat):Value:=.bool (decide ((a:Int)<=(b:Int)))
abbrev Q14(a:Nat)(b:Nat):=J ((a:Int)-(b:Int))
abbrev Q15(a:Int)(b:Int)(c:Int)(d:Int):=decide (((a<=b)/\(b<=c))/\(c<=d))
abbrev Q16(a:Nat)(b:Nat)(c:Array Int):=decide (((a:Int)<(b:Int))/\((c[b]!)<(c[((b:Int)-1).toNat]!)))
abbrev Q17(a:List AP)(b:Nat):=(a.getD b AP.z).due
abbrev Q18(a:List AM)(b:Nat):=(a.getD b AM.z).wv
abbrev Q19:Array Value:=#[J 0,J 0,.slice none 0 0,.slice none 0 0,.slice none 0 0,.slice none 0 0]
abbrev Q1a(a:Nat):=J (((2*(a:Int))+1)+1)
abbrev Q1b(a:Nat)(b:Array Int)(c:Nat):=decide ((0<(a:Int))/\(¬((b[((a:Int)-1).toNat]!)<(b[c]!))))
abbrev Q1c(a:ByteArray):=decide (((a.size:Int)<1)\/(10<(a.size:Int)))
abbrev Q1d(a:List AP)(b:Nat):=(a.getD b AP.z).high
abbrev Q1e(a:Int):=decide ((97<=a)/\(a<=122))
abbrev UY(a:Int)(b:Int)(c:Value)(d:Value)(e:Value)(f:Value):Array Value:=#[.agg #[J a,J b,c,d,e,f]]
abbrev Q1g(a:Array Int)(b:Nat)(c:Nat):=decide (¬((a[b]!)<(a[c]!)))
abbrev Q1h(a:Int):=decide (¬(0<=a/\a<=3))
abbrev Q1i(a:List Int)(b:Nat)(c:List Int):=J (SQ (a.getD b 0) (c.getD b 0))
abbrev Q1j(a:List Sl)(b:Nat):=((a.drop (1)).getD b Sl.z).1
abbrev Q1k(a:Int):=decide ((48<=a)/\(a<=57))
abbrev Q1l(a:Nat):Value:=.func (.func 90) #[] #[Pt a]
abbrev Q1m(a:Nat):Value:=.func (.func 77) #[] #[Pt a]
abbrev Q1n(a:List AP)(b:Nat):=(a.getD b AP.z).low
abbrev Q1o:=Af AI.zero
abbrev Q1p(a:Nat)(b:Nat):Value:=.func (.func 46) #[] #[Pt a,Pt b]
abbrev Q1q(a:Nat)(b:Nat):Value:=.func (.func 82) #[] #[Pt a,Pt b]
abbrev Q1r(a:List AP)(b:List Int)(c:Nat):=J (F0 a.length (b.getD c 0))
end Go.Ns
namespace Go.Ns
open Go.Conc Go.Proofs Go.Proofs.Tryz
theorem FI:JF prog 106 106=some (42,1,24):=aB
theorem UZ:JF prog 22 22=some (9,1,16):=aB
theorem Ua:JF prog 23 23=some (39,4,32):=aB
theorem Ub:JF prog 24 24=some (54,5,56):=aB
theorem Jm:JF prog 25 25=some (83,3,40):=aB
theorem DX:JF prog 42 42=some (3,1,8):=aB
theorem Uc:JF prog 45 45=some (31,2,16):=aB
theorem Ud:JF prog 89 89=some (101,9,72):=aB
theorem Yt:arrOf prog 136=some (5,false,1):=aB
theorem ES:Mr prog 118=some (4,1):=aB
theorem E6:Mr prog 157=some (4,4):=aB
theorem IY:Mr prog 98=some (5,1):=aB
theorem EN:Mr prog 99=some (4,1):=aB
theorem fx_bt3:LV prog 3=some 8:=aB
theorem fx_bt4:LV prog 4=some 1:=aB
theorem MX:AO Tryz.f10=true:=aB
theorem V4:AO Tryz.f100=true:=aB
theorem V5:AO Tryz.f101=true:=aB
theorem Kq:AO Tryz.f102=true:=aB
theorem PR:AO Tryz.f103=true:=aB
theorem V6:AO Tryz.f104=true:=aB
theorem V7:AO Tryz.f105=true:=aB
theorem PS:AO Tryz.f106=true:=aB
theorem I2:AO Tryz.f107=true:=aB
theorem Kr:AO Tryz.f108=true:=aB
theorem PT:AO Tryz.f109=true:=aB
theorem Fg:AO Tryz.f11=true:=aB
theorem PU:AO Tryz.f110=true:=aB
theorem PW:AO Tryz.f111=true:=aB
theorem I3:AO Tryz.f112=true:=aB
theorem PX:AO Tryz.f113=true:=aB
theorem Ks:AO Tryz.f114=true:=aB
theorem V8:AO Tryz.f115=true:=aB
theorem V9:AO Tryz.f116=true:=aB
theorem WA:AO Tryz.f117=true:=aB
theorem WB:AO Tryz.f118=true:=aB
theorem PY:AO Tryz.f119=true:=aB
theorem Ra:AO Tryz.f12=true:=aB
theorem WC:AO Tryz.f120=true:=aB
theorem WD:AO Tryz.f121=true:=aB
theorem WE:AO Tryz.f122=true:=aB
theorem WF:AO Tryz.f123=true:=aB
theorem WG:AO Tryz.f124=true:=aB
theorem Cq:AO Tryz.f125=true:=aB
theorem WH:AO Tryz.f126=true:=aB
theorem WI:AO Tryz.f127=true:=aB
theorem WJ:AO Tryz.f129=true:=aB
theorem ET:AO Tryz.f13=true:=aB
theorem WK:AO Tryz.f130=true:=aB
theorem PZ:AO Tryz.f131=true:=aB
theorem WL:AO Tryz.f132=true:=aB
theorem WM:AO Tryz.f133=true:=aB
theorem Kt:AO Tryz.f134=true:=aB
theorem Pa:AO Tryz.f135=true:=aB
theorem Ku:AO Tryz.f136=true:=aB
theorem WN:AO Tryz.f153=true:=aB
theorem WO:AO Tryz.f154=true:=aB
theorem WP:AO Tryz.f155=true:=aB
theorem WQ:AO Tryz.f156=true:=aB
theorem WR:AO Tryz.f157=true:=aB
theorem WT:AO Tryz.f158=true:=aB
theorem WU:AO Tryz.f159=true:=aB
theorem Yu:AO Tryz.f16=true:=aB
theorem WV:AO Tryz.f160=true:=aB
theorem WW:AO Tryz.f161=true:=aB
theorem WX:AO Tryz.f162=true:=aB
theorem Pb:AO Tryz.f163=true:=aB
theorem WY:AO Tryz.f164=true:=aB
theorem WZ:AO Tryz.f165=true:=aB
theorem Wa:AO Tryz.f166=true:=aB
theorem Wb:AO Tryz.f167=true:=aB
theorem Wc:AO Tryz.f168=true:=aB
theorem Wd:AO Tryz.f169=true:=aB
theorem Yv:AO Tryz.f17=true:=aB
theorem We:AO Tryz.f170=true:=aB
theorem Yw:AO Tryz.f18=true:=aB
theorem Yx:AO Tryz.f19=true:=aB
theorem Yy:AO Tryz.f20=true:=aB
theorem Yz:AO Tryz.f21=true:=aB
theorem MY:AO Tryz.f23=true:=aB
theorem Y1:AO Tryz.f25=true:=aB
theorem Y3:AO Tryz.f28=true:=aB
theorem GR:AO Tryz.f29=true:=aB
theorem Y4:AO Tryz.f34=true:=aB
theorem Y5:AO Tryz.f35=true:=aB
theorem Y6:AO Tryz.f36=true:=aB
theorem Y7:AO Tryz.f37=true:=aB
theorem Y8:AO Tryz.f38=true:=aB
theorem Y9:AO Tryz.f39=true:=aB
theorem ZA:AO Tryz.f40=true:=aB
theorem ZB:AO Tryz.f41=true:=aB
theorem IZ:AO Tryz.f42=true:=aB
theorem ZC:AO Tryz.f43=true:=aB
theorem Fh:AO Tryz.f44=true:=aB
theorem DF:AO Tryz.f45=true:=aB
theorem Rb:AO Tryz.f46=true:=aB
theorem MZ:AO Tryz.f47=true:=aB
theorem Ma:AO Tryz.f48=true:=aB
theorem ZD:AO Tryz.f49=true:=aB
theorem HP:AO Tryz.f50=true:=aB
theorem Ia:AO Tryz.f51=true:=aB
theorem Fi:AO Tryz.f54=true:=aB
theorem Mb:AO Tryz.f55=true:=aB
theorem J9:AO Tryz.f56=true:=aB
theorem Rc:AO Tryz.f57=true:=aB
theorem Re:AO Tryz.f58=true:=aB
theorem Rf:AO Tryz.f59=true:=aB
theorem GS:AO Tryz.f60=true:=aB
theorem Rh:AO Tryz.f61=true:=aB
theorem Ri:AO Tryz.f62=true:=aB
theorem Rj:AO Tryz.f63=true:=aB
theorem ZE:AO Tryz.f64=true:=aB
theorem ZF:AO Tryz.f65=true:=aB
theorem D9:AO Tryz.f66=true:=aB
theorem Mc:AO Tryz.f67=true:=aB
theorem ZG:AO Tryz.f68=true:=aB
theorem ZH:AO Tryz.f69=true:=aB
theorem ZI:AO Tryz.f73=true:=aB
theorem ZJ:AO Tryz.f74=true:=aB
theorem ZK:AO Tryz.f75=true:=aB
theorem ZL:AO Tryz.f76=true:=aB
theorem Rk:AO Tryz.f77=true:=aB
theorem Rn:AO Tryz.f78=true:=aB
theorem Ro:AO Tryz.f79=true:=aB
theorem ZM:AO Tryz.f80=true:=aB
theorem Rp:AO Tryz.f81=true:=aB
theorem Rq:AO Tryz.f82=true:=aB
theorem Md:AO Tryz.f83=true:=aB
theorem Ib:AO Tryz.f84=true:=aB
theorem Rr:AO Tryz.f85=true:=aB
theorem Rs:AO Tryz.f86=true:=aB
theorem ZN:AO Tryz.f87=true:=aB
theorem KA:AO Tryz.f88=true:=aB
theorem ZO:AO Tryz.f89=true:=aB
theorem fx_call9:AO Tryz.f9=true:=aB
theorem Ru:AO Tryz.f90=true:=aB
theorem ZP:AO Tryz.f91=true:=aB
theorem Rv:AO Tryz.f92=true:=aB
theorem ZQ:AO Tryz.f93=true:=aB
theorem ZR:AO Tryz.f94=true:=aB
theorem ZS:AO Tryz.f95=true:=aB
theorem ZT:AO Tryz.f96=true:=aB
theorem ZU:AO Tryz.f97=true:=aB
theorem ZV:AO Tryz.f98=true:=aB
theorem ZW:AO Tryz.f99=true:=aB
theorem Gr:prog.eqGuardType prog.depth 31=false:=aB
theorem Ue:prog.eqGuardType prog.depth 98=false:=aB
theorem EU:Ee prog 106=some 1:=aB
theorem Me:Ee prog 146=some 1:=aB
theorem ZX:Ee prog 206=some 1:=aB
theorem Gt:Ee prog 22=some 1:=aB
theorem Dq:Ee prog 23=some 4:=aB
theorem FJ:Ee prog 24=some 5:=aB
theorem Hn:Ee prog 25=some 3:=aB
theorem AR:Ee prog 42=some 1:=aB
theorem Uf:Ee prog 45=some 2:=aB
theorem F2:Ee prog 89=some 9:=aB
theorem Lm:∀a:E4,ckP prog 4 103 (En a)=true:=by intros;kernel_rfl
theorem Lp:∀a b:E4,Nr prog 4 103 (En a) (En b)=some ((a.1.1==b.1.1 && (a.1.2.1==b.1.2.1 && (a.1.2.2.1==b.1.2.2.1 && (a.1.2.2.2.1==b.1.2.2.2.1 && (a.1.2.2.2.2==b.1.2.2.2.2 && true))))) && (a.2.1==b.2.1 && (a.2.2==b.2.2 && true))):=by intros;kernel_rfl
theorem Cm:Dl prog 101 0=some 0:=aB
theorem Jn:Dl prog 101 1=some 5:=aB
theorem Ug:Dl prog 145 0=some 0:=aB
theorem Uh:Dl prog 145 1=some 1:=aB
theorem Kv:Dl prog 27 0=some 0:=aB
theorem Ho:Dl prog 27 1=some 1:=aB
theorem B1:Dl prog 27 2=some 2:=aB
theorem BX:Dl prog 27 3=some 3:=aB
theorem B5:Dl prog 27 4=some 4:=aB
theorem CC:Dl prog 27 5=some 5:=aB
theorem Ck:Dl prog 31 0=some 0:=aB
theorem CQ:Dl prog 31 1=some 1:=aB
theorem CF:Dl prog 39 0=some 0:=aB
theorem CR:Dl prog 39 1=some 1:=aB
theorem Hp:Dl prog 39 2=some 2:=aB
theorem I4:Dl prog 54 0=some 0:=aB
theorem Kw:Dl prog 54 1=some 1:=aB
theorem I5:Dl prog 54 2=some 3:=aB
theorem EF:Dl prog 54 3=some 4:=aB
theorem EG:Dl prog 83 0=some 0:=aB
theorem I6:Dl prog 83 1=some 1:=aB
theorem A3:Dl prog 88 0=some 0:=aB
theorem Dy:Dl prog 92 0=some 0:=aB
theorem Hq:Dl prog 92 1=some 6:=aB
theorem I7:Dl prog 92 2=some 7:=aB
theorem Wf:(prog.info? 145).isSome=true:=aB
theorem fx_infs3:(prog.info? 3).isSome=true:=aB
theorem fx_infs4:(prog.info? 4).isSome=true:=aB
theorem Wg:(prog.info? 145).map (·.zero)=some (some (.agg #[.int .i64 0,.bool false])):=aB
theorem fx_infz3:(prog.info? 3).map (·.zero)=some (some (.int .i64 0)):=aB
theorem fx_infz4:(prog.info? 4).map (·.zero)=some (some (.bool false)):=aB
theorem Kx:L9 prog 156=some .u64:=aB
theorem Wh:L9 prog 177=some .u64:=aB
theorem EO:L9 prog 3=some .i64:=aB
theorem Gu:L9 prog 5=some .u8:=aB
theorem Mf:LH prog 121=some (3,3):=aB
theorem Lq:LH prog 90=some (103,3):=aB
theorem Mg:∀a:Int,ckP prog 3 3 (De a)=true:=by intros;kernel_rfl
theorem Mh:∀a b:Int,Nr prog 3 3 (De a) (De b)=some (a==b):=by intros;kernel_rfl
theorem Ag:prog.follows .mixedOrders=true:=aB
theorem Ui:(prog.info? 3).bind (·.zero)=some (.int .i64 0):=aB
theorem S8:(prog.info? 3).bind (·.zero)=some (.int .i64 0):=aB
theorem Ls:Ef prog 103=some [(0,5),(5,1),(6,1)]:=aB
theorem fx_pl145:Ef prog 145=some [(0,1),(1,1)]:=aB
theorem fx_pl27:Ef prog 27=some [(0,1),(1,1),(2,1),(3,1),(4,1),(5,1)]:=aB
theorem I8:Ef prog 31=some [(0,1),(1,1)]:=aB
theorem S9:Ef prog 39=some [(0,1),(1,1),(2,2)]:=aB
theorem TA:Ef prog 54=some [(0,1),(1,2),(3,1),(4,1)]:=aB
theorem TB:Ef prog 83=some [(0,1),(1,2)]:=aB
theorem H0:Ef prog 88=some [(0,6)]:=aB
theorem H1:Ef prog 92=some [(0,6),(6,1),(7,1)]:=aB
theorem Uj:s2bOf prog 9 206=some 5:=aB
theorem Ic:DO prog 106=some (1,#[.slice none 0 0],42):=aB
theorem ZY:DO prog 146=some (1,#[.bool false],4):=aB
theorem Uk:DO prog 22=some (1,#[.string ⟨#[]⟩],9):=aB
theorem Ul:DO prog 23=some (4,#[.int .i64 0,.int .i64 0,.int .i64 0,.int .i64 0],39):=aB
theorem Um:DO prog 24=some (5,#[.int .i64 0,.int .i64 0,.int .i64 0,.int .i64 0,.slice none 0 0],54):=aB
theorem Lt:DO prog 25=some (3,#[.slice none 0 0,.int .i64 0,.int .i64 0],83):=aB
theorem Bg:DO prog 42=some (1,#[.int .i64 0],3):=aB
theorem Un:DO prog 45=some (2,#[.int .i64 0,.int .i64 0],31):=aB
theorem fx_sel89:DO prog 89=some (9,#[.int .i64 0,.int .i64 0,.int .i64 0,.int .i64 0,.int .i64 0,.int .i64 0,.int .i64 0,.int .i64 0,.int .i64 0],101):=aB
theorem F3:KD prog 106=true:=aB
theorem fx_sl146:KD prog 146=true:=aB
theorem fx_sl206:KD prog 206=true:=aB
theorem C7:KD prog 22=true:=aB
theorem Dr:KD prog 23=true:=aB
theorem FP:KD prog 24=true:=aB
theorem FQ:KD prog 25=true:=aB
theorem BM:KD prog 42=true:=aB
theorem TC:KD prog 45=true:=aB
theorem F4:KD prog 89=true:=aB
theorem EH:OF prog 9=true:=aB
theorem Ca:Cc prog 101=some (true,9):=aB
theorem F5:Cc prog 106=some (false,1):=aB
theorem Lu:Cc prog 112=some (false,1):=aB
theorem fx_ty136:Cc prog 136=some (true,5):=aB
theorem Lx:Cc prog 141=some (false,1):=aB
theorem Ly:Cc prog 142=some (false,1):=aB
theorem Pc:Cc prog 143=some (false,1):=aB
theorem fx_ty145:Cc prog 145=some (true,2):=aB
theorem fx_ty158:Cc prog 158=some (false,1):=aB
theorem Jo:Cc prog 159=some (false,1):=aB
theorem Es:Cc prog 177=some (false,1):=aB
theorem C8:Cc prog 22=some (false,1):=aB
theorem Ce:Cc prog 23=some (false,1):=aB
theorem DI:Cc prog 24=some (false,1):=aB
theorem DQ:Cc prog 25=some (false,1):=aB
theorem Aq:Cc prog 27=some (true,6):=aB
theorem AL:Cc prog 3=some (false,1):=aB
theorem A7:Cc prog 31=some (true,2):=aB
theorem F6:Cc prog 39=some (true,4):=aB
theorem GT:Cc prog 4=some (false,1):=aB
theorem Bs:Cc prog 42=some (false,1):=aB
theorem fx_ty5:Cc prog 5=some (false,1):=aB
theorem H2:Cc prog 54=some (true,5):=aB
theorem FR:Cc prog 83=some (true,3):=aB
theorem CY:Cc prog 88=some (true,6):=aB
theorem H3:Cc prog 89=some (false,1):=aB
theorem Mi:Cc prog 9=some (false,1):=aB
theorem N5:Cc prog 90=some (false,1):=aB
theorem A5:Cc prog 92=some (true,8):=aB
theorem H4:Cc prog 98=some (true,5):=aB
theorem ZZ:(prog.underlying 156).isSome=true:=aB
theorem Fj:(prog.underlying 175).isSome=true:=aB
theorem N6:(prog.underlying 3).isSome=true:=aB
theorem F7:(prog.underlying 5).isSome=true:=aB
theorem Jp:prog.underlying 141=some (.chan .both 145):=aB
theorem Jq:prog.underlying 142=some (.chan .both 3):=aB
theorem Jr:prog.underlying 143=some (.chan .both 4):=aB
theorem FY:Bu prog 101=some #[.int .i64 0,.int .i64 0,.int .i64 0,.int .i64 0,.int .i64 0,.int .i64 0,.int .i64 0,.int .i64 0,.int .i64 0]:=aB
theorem I9:Bu prog 103=some #[.int .i64 0,.int .i64 0,.int .i64 0,.int .i64 0,.int .i64 0,.int .i64 0,.int .i64 0]:=aB
theorem Pd:Bu prog 106=some #[.slice none 0 0]:=aB
theorem Wi:Bu prog 112=some #[.nilFunc]:=aB
theorem Pe:Bu prog 118=some #[.bool false,.bool false,.bool false,.bool false]:=aB
theorem Wj:Bu prog 141=some #[.chan none]:=aB
theorem Wl:Bu prog 142=some #[.chan none]:=aB
theorem Wm:Bu prog 143=some #[.chan none]:=aB
theorem Pf:Bu prog 145=some #[.int .i64 0,.bool false]:=aB
theorem Wn:Bu prog 157=some #[.int .i64 0,.int .i64 0,.int .i64 0,.int .i64 0,.int .i64 0,.int .i64 0,.int .i64 0,.int .i64 0,.int .i64 0,.int .i64 0,.int .i64 0,.int .i64 0,.int .i64 0,.int .i64 0,.int .i64 0,.int .i64 0]:=aB
theorem Wo:Bu prog 159=some #[.nilFunc]:=aB
theorem Wp:Bu prog 177=some #[.int .u64 0]:=aB
theorem GU:Bu prog 27=some #[.int .i64 0,.int .i64 0,.slice none 0 0,.slice none 0 0,.slice none 0 0,.slice none 0 0]:=aB
theorem fx_zero3:Bu prog 3=some #[.int .i64 0]:=aB
theorem Bb:Bu prog 31=some #[.int .i64 0,.int .i64 0]:=aB
theorem Fk:Bu prog 39=some #[.int .i64 0,.int .i64 0,.int .i64 0,.int .i64 0]:=aB
theorem fx_zero4:Bu prog 4=some #[.bool false]:=aB
theorem fx_zero42:Bu prog 42=some #[.slice none 0 0]:=aB
theorem GV:Bu prog 54=some #[.int .i64 0,.int .i64 0,.int .i64 0,.int .i64 0,.slice none 0 0]:=aB
theorem Fl:Bu prog 83=some #[.slice none 0 0,.int .i64 0,.int .i64 0]:=aB
theorem Dj:Bu prog 88=some #[.int .i64 0,.int .i64 0,.slice none 0 0,.slice none 0 0,.slice none 0 0,.slice none 0 0]:=aB
theorem Za:Bu prog 89=some #[.slice none 0 0]:=aB
theorem fx_zero9:Bu prog 9=some #[.string ⟨#[]⟩]:=aB
theorem BL:Bu prog 92=some #[.int .i64 0,.int .i64 0,.slice none 0 0,.slice none 0 0,.slice none 0 0,.slice none 0 0,.slice none 0 0,.map none]:=aB
end Go.Ns
namespace Go.Ns
open Go.Conc Go.Proofs Go.Proofs.Tryz
attribute [local irreducible] BU DJ Tr AY By Bc
variable {W:Wk prog} {h:GH} (d m:Int) (gs:List Good) (gsv:Value) (ms:List Cr) (msv:Value) (cs:List CG) (csv:Value)
theorem QB(a:List Int)(av:Value)(b:List Int)(bv:Value)(ha:AF h av 1 eI a)(hb:AF h bv 1 eI b):AY W 87 #[av,bv] h (λv h'=>v=(.bool (decide (a=b)):Value)/\h.Le h'):=by
 have ad:=ha.len;have ae:=hb.len;refine Ct func87 Z (Sr (Az (.bool false) Z (Nl (S2 (Mz av Z (Pl Z (AS BM ha Z (Mz bv Z (Pl Z (AS BM hb Z (Pl Z (A9 Z Z (Nl (AV Z (λar=>?_) (λar=>?_)))))))))))))))
 ·exact Sr (Az (.bool false) Z (Nl (Rt (⟨Zr,Ot (.bool false) Z (⟨(by (rw [decide_eq_false (ne_len aA)];done)),Lr⟩)⟩))))
 ·refine Sk (S2 (Az (J 0) Z (Nl (Bk (Ae (λnn σ' ds' h'=>∃(k:Nat),nn=a.length-k/\(k<=a.length)/\(a.take k=b.take k)/\ds'=[]/\GH.Le h h'/\σ' 0=av/\σ' 1=bv/\σ' 5=J k) ⟨0,Z,aA,(by rfl),Z,Lr,Z,Z,Z⟩ (λnn _ _ _ au=>?_))))));obtain ⟨k,rfl,hk,hs,x8,x9,af,aq,ac⟩:=au;subst x8;refine S2 (Mv (J k) Z ac (Mv av Z af (Pl Z (AS BM (ha.le x9) Z (Pl Z (Ar Z Z (Nl (AV Z (λag=>?_) (λag=>?_)))))))))
  ·refine Sk (Sq (Bk (Sq (Bl 8 false [1,6,10,16,21,26,30,36] Ag aB (Rz Z (Mo av af vz) (Rz Z (Mo (J k) ac vz) ?_))))));have ah:(0:Int)<=(k:Int):=aA
   have ai:(k:Int)<((a.length:Nat):Int):=aA
   refine tI Z Z AR ha Z Z ah ai λaw aa aj=>have ak:Aa _ aw aa 1 (eI (a.getD k 0)):=Aa.getD 0 aj;Rl (Qq a k) Z (BR AL (ak.le x9) Z) (Rz Z (Mo bv aq vz) (Rz Z (Mo (J k) ac vz) ?_));have al:(0:Int)<=(k:Int):=aA
   have am:(k:Int)<((b.length:Nat):Int):=aA
   refine tI Z Z AR hb Z Z al am λax ab an=>have ao:Aa _ ax ab 1 (eI (b.getD k 0)):=Aa.getD 0 an;Rl (Qq b k) Z (BR AL (ao.le x9) Z) (tN (Pl Z (A9 Z Z (Nl (AV Z (λap=>?_) (λap=>?_))))))
   ·exact Sr (Az (.bool false) Z (Nl (Rt (⟨Zr,Ot (.bool false) Z (⟨(by (rw [decide_eq_false (ne_getD (k:=k) (d:=0) ‹_›)])),x9⟩)⟩))))
   ·exact Sk (Rg (Mv (J k) Z ac (Yd Z aA (Az (J ((k:Int)+1)) Z (Nl (⟨_,aA,k+1,Z,aA,(by exact OT 0 hs aA aA aF),Z,x9,af,aq,Z⟩))))))
  ·exact Xt (Sr (Az (.bool true) Z (Nl (Rt (⟨Zr,Ot (.bool true) Z (⟨(by (rw [decide_eq_true (SO hs hk ‹_› aA)];done)),x9⟩)⟩)))))
theorem Pg(a:List Int)(av:Value)(n:Int)(ha:AF h av 1 eI a):AY W 23 #[av,J n] h (λv h'=>v=(.bool (decide (n ∈ a)):Value)/\h.Le h'):=by
 have ab:=ha.len;refine Ct func23 Z (Sr (Az (.bool false) Z (Nl (S2 (Az (J 0) Z (Nl (Bk (Ae (λnn σ' ds' h'=>∃(k:Nat),nn=a.length-k/\(k<=a.length)/\(¬n ∈ a.take k)/\ds'=[]/\GH.Le h h'/\σ' 0=av/\σ' 1=J n/\σ' 5=J k) ⟨0,Z,aA,aD,Z,Lr,Z,Z,Z⟩ (λnn _ _ _ aj=>?_)))))))));obtain ⟨k,rfl,hk,hs,x6,x7,x8,x9,ac⟩:=aj;subst x6;refine S2 (Mv (J k) Z ac (Mv av Z x8 (Pl Z (AS BM (ha.le x7) Z (Pl Z (Ar Z Z (Nl (AV Z (λad=>?_) (λad=>?_)))))))))
 ·refine Sk (Sq (Bk (Sr (Mv av Z x8 (Mv (J k) Z ac ?_)))));have ae:(0:Int)<=(k:Int):=aA
  have af:(k:Int)<((a.length:Nat):Int):=aA
  refine Pl Z (Ac AR ha Z Z ae af λak aa ag=>have ah:Aa _ ak aa 1 (eI (a.getD k 0)):=Aa.getD 0 ag;Lz (Qq a k) Z (BR AL (ah.le x7) Z) (Mv (J n) Z x9 (Pl Z (CJ Z Z (Nl (AV Z (λai=>?_) (λai=>?_)))))))
  ·exact Sr (Az (.bool true) Z (Nl (Rt (⟨Zr,Ot (.bool true) Z (⟨(by (rw [decide_eq_true (has_hit (k:=k) ‹_› ‹_›)];done)),x7⟩)⟩))))
  ·exact Sk (Rg (Mv (J k) Z ac (Yd Z aA (Az (J ((k:Int)+1)) Z (Nl (⟨_,aA,k+1,Z,aA,(by exact has_next ‹_› hs ‹_›),Z,x7,x8,x9,Z⟩))))))
 ·exact Xt (Sr (Az (.bool false) Z (Nl (Rt (⟨Zr,Ot (.bool false) Z (⟨(by (rw [decide_eq_false (has_end (k:=k) ‹_› hs)])),x7⟩)⟩)))))
theorem JA(n:Int)(lo:Int)(hi:Int):AY W 29 #[J n,J lo,J hi] h (λv h'=>v=(.bool (decide (lo<=n/\n<=hi)):Value)/\h=h'):=by
 refine Ct func29 Z (Sr (Az (.bool false) Z (Nl (BK (λσ' ds' h'=>ds'=[]/\h=h'/\σ' 6=.bool (Q12 lo n hi)) ?_ ?_))))
 ·refine Rg (Mz (J n) Z (Mz (J lo) Z (Pl Z (CV Z Z (Mz (Qi lo n) Z (BC (p:=lo<=n) ?_ ?_))))))
  ·intro aa;exact Gg 3 10 (AC Z aa) Z (Mo (J n) Z (Gg 3 10 (AC Z aa) Z (Mo (J hi) Z (Gg 3 10 (AC Z aa) Z (DV Z Z (Pk true (Qi n hi) Z (AC Z aa) Z (Az (Qi n hi) Z (Nl (⟨Z,Z,Et (b:=(.bool (decide (n<=hi)):Value)) Z (congrArg Value.bool (by (simp [aa];done):decide (n<=hi)=(Q12 lo n hi)))⟩)))))))))
  ·intro aa;exact Gs 3 10 (AB Z aa) Z (Gs 3 10 (AB Z aa) Z (Gs 3 10 (AB Z aa) Z (Pk false (.bool false) Z (AB Z aa) Z (Az (.bool false) Z (Nl (⟨Z,Z,Et (b:=(.bool false:Value)) Z (congrArg Value.bool (by (simp [aa];done):false=(Q12 lo n hi)))⟩))))))
 ·rintro _ _ _ ⟨ac,ab,ad⟩;subst ac;subst ab;exact Rt (⟨Zr,JM Z (v:=.bool (Q12 lo n hi)) ad (⟨(by rfl),Z⟩)⟩)
theorem NU(xl:Int)(xh:Int)(lo:Int)(hi:Int):AY W 106 #[.agg #[J xl,J xh],J lo,J hi] h (λv h'=>v=(.bool (decide ((lo<=xl/\xl<=xh)/\xh<=hi)):Value)/\h.Le h'):=by
 refine Ct func106 Z (Sr (Pl Z (Bo #[J xl,J xh] Z Z λ_ h2 _ ae ad _=>Az (.bool false) Z (Nl (BK (λσ' ds' h'=>ds'=[]/\h2=h'/\σ' 6=.bool (Q15 lo xl xh hi)) ?_ ?_)))))
 ·refine Rg (Fz Ck Z (Lz (J xl) Z (Rd.one AL ad Z) (Mz (J lo) Z (Pl Z (CV Z Z (Mz (Qi lo xl) Z (BC (p:=lo<=xl) ?_ ?_)))))))
  ·intro aa;refine Gg 4 11 (AC Z aa) Z (AJ CQ Z (Gg 4 11 (AC Z aa) Z (Lo (J xh) Z (Rd.one AL ad Z) (Gg 4 11 (AC Z aa) Z (AJ Ck Z (Gg 4 11 (AC Z aa) Z (Lo (J xl) Z (Rd.one AL ad Z) (Gg 4 11 (AC Z aa) Z (CV Z Z (Pk true (Qi xl xh) Z (AC Z aa) Z (Mz (Qi xl xh) Z (BC (p:=xl<=xh) ?_ ?_))))))))))))
   ·intro ab;exact Gg 11 18 (AC Z ab) Z (AJ CQ Z (Gg 11 18 (AC Z ab) Z (Lo (J xh) Z (Rd.one AL ad Z) (Gg 11 18 (AC Z ab) Z (Mo (J hi) Z (Gg 11 18 (AC Z ab) Z (DV Z Z (Pk true (Qi xh hi) Z (AC Z ab) Z (Az (Qi xh hi) Z (Nl (⟨Z,Z,Et (b:=(.bool (decide (xh<=hi)):Value)) Z (congrArg Value.bool (by (simp [aa,ab];done):decide (xh<=hi)=(Q15 lo xl xh hi)))⟩)))))))))))
   ·intro ab;exact Gs 11 18 (AB Z ab) Z (Gs 11 18 (AB Z ab) Z (Gs 11 18 (AB Z ab) Z (Gs 11 18 (AB Z ab) Z (Pk false (.bool false) Z (AB Z ab) Z (Az (.bool false) Z (Nl (⟨Z,Z,Et (b:=(.bool false:Value)) Z (congrArg Value.bool (by (simp [aa,ab];done):false=(Q15 lo xl xh hi)))⟩)))))))
  ·intro aa;exact Gs 4 11 (AB Z aa) Z (Gs 4 11 (AB Z aa) Z (Gs 4 11 (AB Z aa) Z (Gs 4 11 (AB Z aa) Z (Gs 4 11 (AB Z aa) Z (Pk false (.bool false) Z (AB Z aa) Z (Mz (.bool false) Z (Gs 11 18 Z Z (Gs 11 18 Z Z (Gs 11 18 Z Z (Gs 11 18 Z Z (Pz false (.bool false) Z (Az (.bool false) Z (Nl (⟨Z,Z,Et (b:=(.bool false:Value)) Z (congrArg Value.bool (by (simp [aa];done):false=(Q15 lo xl xh hi)))⟩))))))))))))))
 ·rintro _ _ _ ⟨af,ac,ag⟩;subst af;subst ac;exact Rt (⟨Zr,JM Z (v:=.bool (Q15 lo xl xh hi)) ag (⟨(by rfl),ae⟩)⟩)
theorem Uo(c:Int):AY W 117 #[.int .u8 c] h (λv h'=>v=(.bool (decide (Ej c)):Value)/\h=h'):=by
 refine Ct func117 Z (Sr (Az (.bool false) Z (Nl (BK (λσ' ds' h'=>ds'=[]/\h=h'/\σ' 2=.bool (Q1e c)) ?_ ?_))))
 ·refine Rg (Mz (.int .u8 c) Z (Pl Z (CV Z Z (Mz (.bool (decide (97<=c))) Z (BC (p:=97<=c) ?_ ?_)))))
  ·intro aa;exact Gg 2 5 (AC Z aa) Z (Mo (.int .u8 c) Z (Gg 2 5 (AC Z aa) Z (DV Z Z (Pk true (.bool (decide (c<=122))) Z (AC Z aa) Z (Az (.bool (decide (c<=122))) Z (Nl (⟨Z,Z,Et (b:=(.bool (decide (c<=122)):Value)) Z (congrArg Value.bool (by (simp [aa];done):decide (c<=122)=(Q1e c)))⟩)))))))
  ·intro aa;exact Gs 2 5 (AB Z aa) Z (Gs 2 5 (AB Z aa) Z (Pk false (.bool false) Z (AB Z aa) Z (Az (.bool false) Z (Nl (⟨Z,Z,Et (b:=(.bool false:Value)) Z (congrArg Value.bool (by (simp [aa];done):false=(Q1e c)))⟩)))))
 ·rintro _ _ _ ⟨ac,ab,ad⟩;subst ac;subst ab;exact Rt (⟨Zr,JM Z (v:=.bool (Q1e c)) ad (⟨(by rfl),Z⟩)⟩)
theorem Wq(c:Int):AY W 118 #[.int .u8 c] h (λv h'=>v=(.bool (decide (E0 c)):Value)/\h=h'):=by
 refine Ct func118 Z (Sr (Az (.bool false) Z (Nl (BK (λσ' ds' h'=>ds'=[]/\h=h'/\σ' 2=.bool (Q1k c)) ?_ ?_))))
 ·refine Rg (Mz (.int .u8 c) Z (Pl Z (CV Z Z (Mz (.bool (decide (48<=c))) Z (BC (p:=48<=c) ?_ ?_)))))
  ·intro aa;exact Gg 2 5 (AC Z aa) Z (Mo (.int .u8 c) Z (Gg 2 5 (AC Z aa) Z (DV Z Z (Pk true (.bool (decide (c<=57))) Z (AC Z aa) Z (Az (.bool (decide (c<=57))) Z (Nl (⟨Z,Z,Et (b:=(.bool (decide (c<=57)):Value)) Z (congrArg Value.bool (by (simp [aa];done):decide (c<=57)=(Q1k c)))⟩)))))))
  ·intro aa;exact Gs 2 5 (AB Z aa) Z (Gs 2 5 (AB Z aa) Z (Pk false (.bool false) Z (AB Z aa) Z (Az (.bool false) Z (Nl (⟨Z,Z,Et (b:=(.bool false:Value)) Z (congrArg Value.bool (by (simp [aa];done):false=(Q1k c)))⟩)))))
 ·rintro _ _ _ ⟨ac,ab,ad⟩;subst ac;subst ab;exact Rt (⟨Zr,JM Z (v:=.bool (Q1k c)) ad (⟨(by rfl),Z⟩)⟩)
theorem QC(xs:List Int)(xsv:Value)(fv:Value)(p:Int->Bool)(hxs:AF h xsv 1 eI xs)(hf:∀x ∈ xs,∀h1,h.Le h1->By W fv #[J x] h1 λv h2=>v=.bool (p x)/\h1.Le h2):AY W 169 #[xsv,fv] h (λv h'=>v=(J (idxOf p xs):Value)/\h.Le h'):=by
 have ac:=hxs.len;refine Ct func169 Z (Sr (Az (J 0) Z (Nl (S2 (Mz xsv Z (Pl Z (AS BM hxs Z (Mz (J 0) Z (Nl (Bk (Ae (λnn σ' ds' h'=>∃(k:Nat),nn=xs.length-k/\(k<=xs.length)/\((xs.take k).any p=false)/\ds'=[]/\GH.Le h h'/\σ' 0=xsv/\σ' 1=fv/\σ' 7=J (xs.length:Int)/\σ' 8=J k) ⟨0,Z,aA,aD,Z,Lr,Z,Z,Z,Z⟩ (λnn _ _ _ am=>?_))))))))))));obtain ⟨k,rfl,hk,hs,x6,x7,x8,x9,al,ad⟩:=am;subst x6;refine Sr (Pl Z (Ar ad al (Nl (Sq (AV Z (λae=>?_) (λae=>?_))))))
 ·refine Sk (Sq (Bk (Sr (Mv (J k) Z ad (Az (J k) Z (Nl (Sr (Mv fv Z x9 (Mv xsv Z x8 (Mz (J k) Z ?_))))))))));have af:(0:Int)<=(k:Int):=aA
  have ag:(k:Int)<((xs.length:Nat):Int):=aA
  refine Pl Z (Ac AR hxs Z Z af ag λan ab ah=>have ai:Aa _ an ab 1 (eI (xs.getD k 0)):=Aa.getD 0 ah;Lz (Qq xs k) Z (BR AL (ai.le x7) Z) (Pl Z (Kb Z (vs:=#[J (xs.getD k 0)]) (by simp only [List.map_toArray,List.map_cons,List.map_nil,AQ] <;> rfl) ((hf (xs.getD k 0) (Bz aA) _ x7).mono λ_ _ aj=>?_))));obtain ⟨rfl,aa⟩:=aj;refine Nl (CZ Z (λak=>?_) (λak=>?_))
  ·exact Sr (Mz (J k) Z (Az (J k) Z (Nl (Rt (⟨Zr,Ot (J k) Z (⟨(by (rw [HN (k:=k) aA hs ‹_›];done)),(x7.trans aa)⟩)⟩)))))
  ·exact Sk (Rg (Ad _ _ Z ad Z aA (Mz (J ((k:Int)+1)) Z (Nl (⟨_,aA,k+1,Z,aA,(by exact EK (d:=0) aA hs ‹_›),Z,(x7.trans aa),x8,x9,al,Z⟩)))))
 ·exact Xt (Sr (Az (J (-1)) Z (Nl (Rt (⟨Zr,Ot (J (-1)) Z (⟨(by (rw [GL (k:=k) aA hs])),x7⟩)⟩)))))
theorem Id(xs:List Int)(xsv:Value)(fv:Value)(p:Int->Bool)(hxs:AF h xsv 1 eI xs)(hf:∀x ∈ xs,∀h1,h.Le h1->By W fv #[J x] h1 λv h2=>v=.bool (p x)/\h1.Le h2):AY W 163 #[xsv,fv] h (λv h'=>v=(.bool (xs.any p):Value)/\h.Le h'):=by
 have aa:=hxs.len;refine Ct func163 Z (Sr (Az (.bool false) Z (Nl (Sr (Mz xsv Z (Mz fv Z (Pl Z (AU func169 Wd Z Z ((QC xs xsv fv p hxs (λx hx h1 l1=>hf x hx h1 (GH.Le.trans Lr l1))).mono λ_ _ ac=>?_)))))))));obtain ⟨rfl,ab⟩:=ac;exact Pl Z (CV Z Z (Az (.bool (decide (0<=(idxOf p xs)))) Z (Nl (Rt (⟨Zr,Ot (.bool (decide (0<=(idxOf p xs)))) Z (⟨(by rw [show decide (0<=idxOf p xs)=xs.any p from by rw [Bool.eq_iff_iff];simp [E1]]),ab⟩)⟩)))))
end Go.Ns
