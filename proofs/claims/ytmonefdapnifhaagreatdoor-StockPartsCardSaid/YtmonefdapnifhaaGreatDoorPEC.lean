/- Rules and walks, part 3 of 6. No conditions. -/
import Derived.Carry
import Derived.Conc.LeavingOf
import Derived.LaidMore
import Derived.OpenShut
import Derived.ProofKit
import Derived.Test.YtmonefdapnifhaaGreatDoorPEA
import Derived.Test.YtmonefdapnifhaaGreatDoorPEB
import Derived.Test.YtmonefdapnifhaaGreatDoorProg
set_option linter.unusedVariables false
set_option linter.unusedSimpArgs false
set_option linter.unnecessarySimpa false
set_option linter.unusedSectionVars false
set_option linter.constructorNameAsVariable false
namespace Go.Ns
open Go.Conc
section
variable {P:Program} {aP:Type}
structure RF(P:Program)(aP:Type) where
 W:Wk P
 Rep:Nat->aP->aU->V->Prop
 main:Bool
 fn:FuncId
 rd:Option Nat
 N:Nat
def RF.wk(F:RF P aP):Option (FC aP)->Wk P
 | none=>F.W
 | some s=>⟨F.main,Ei P F.main (H8 P F.Rep F.W.K s F.main),Lh _ _⟩
abbrev RF.env(F:RF P aP)(i:Option (FC aP)):F8 P:=⟨F.wk i,F.fn,F.rd,F.N⟩
abbrev U1(aP:Type):=Option (FC aP)->Exit->(Nat->aU)->List Deferred->V->Prop
def Lc(F:RF P aP)(c:Code)(i:Option (FC aP))(O:Nat->aU)(ds:List Deferred)(h:V)(Q:U1 aP):Prop:=
 ∀(b:Frame)(k:List Item)(cs:List Frame)(aN:Option (FC aP)->Lv)(t:Array aU),b.fn=F.fn->b.roundOf=F.rd->(∀i,Lf (F.wk i) b cs (aN i))->BX t F.N O->
  (∀i e σ' ds' h',Q i e σ' ds' h'->∀t',BX t' F.N σ'->C2 (F.wk i) (aN i) b k cs e t' ds' h')->(F.wk i).K (G (Cc b t ds (.code c ::k)) cs) h
def MD(F:RF P aP)(ops:Array Oper)(l:List Oper)(i:Option (FC aP))(O:Nat->aU)(ds:List Deferred)(h:V)(Q:U1 aP):Prop:=
 ∀(n:Nat)(b:Frame)(k:List Item)(cs:List Frame)(aN:Option (FC aP)->Lv)(t:Array aU),(∀j,l[j]? =ops[n+j]?)->b.fn=F.fn->b.roundOf=F.rd->(∀i,Lf (F.wk i) b cs (aN i))->BX t F.N O->
  (∀i e σ' ds' h',Q i e σ' ds' h'->∀t',BX t' F.N σ'->C2 (F.wk i) (aN i) b k cs e t' ds' h')->(F.wk i).K (G (Cc b t ds (.inRegion ops (List.range' n l.length) ::k)) cs) h
variable {F:RF P aP} {i:Option (FC aP)} {O:Nat->aU} {ds:List Deferred} {h:V} {Q:U1 aP}
theorem IX{c:Code}(x:Tr (F.env i) c O ds h (Q i)):Lc F c i O ds h Q:=λb k a d t e f g j l=>x b k a (d i) t e f (g i) j (l i)
theorem ME{x y:Code}(a:Lc F x i O ds h (λi e σ' ds' h'=>match e with | .normal=>Lc F y i σ' ds' h' Q | e=>Q i e σ' ds' h')):Lc F (.seq x y) i O ds h Q:=by
 intro b k g j t m n o p d;refine Wk.go (Cc b t ds (.code x ::.code y ::k)) (λw=>by rw [A0];simp [stepG.exec,Cc,G]) ?_;refine a b (.code y ::k) g j t m n o p λi e σ' ds' h' q f c=>?_;cases e with
 | normal=>exact q b k g j f m n o c d
 | exit id=>exact C2.push rfl aD (d _ _ _ _ _ q f c)
 | ret=>exact C2.push rfl aD (d _ _ _ _ _ q f c)
 | goto l=>exact C2.push rfl aD (d _ _ _ _ _ q f c)
 | panic l=>exact C2.push rfl aD (d _ _ _ _ _ q f c)
 | outgrown=>exact C2.push rfl aD (d _ _ _ _ _ q f c)
theorem Ce{x y:Code}(a:Tr (F.env i) x O ds h (λe σ' ds' h'=>match e with | .normal=>Lc F y i σ' ds' h' Q | e=>Q i e σ' ds' h')):Lc F (.seq x y) i O ds h Q:=
 ME (IX (Q:=λi e σ' ds' h'=>match e with | .normal=>Lc F y i σ' ds' h' Q | e=>Q i e σ' ds' h') a)
theorem U2{c:Operand}{x y:Code}{t:Bool}(hc:AL O c=.bool t)(a:Lc F (if t then x else y) i O ds h Q):Lc F (.cond c x y) i O ds h Q:=by
 intro b k g j d l m n e o;refine Wk.go (Cc b d ds (.code (if t then x else y) ::k)) (λw=>?_) (a b k g j d l m n e o);have f:(Cc b d ds (.code (.cond c x y) ::k)).eval c=.bool t:=by rw [Jb e];exact hc
 simp only [Cc] at f;rw [A0];simp [stepG.exec,Cc,G,f]
theorem trI_true{c:Operand}{x y:Code}(hc:AL O c=.bool true)(a:Lc F x i O ds h Q):Lc F (.cond c x y) i O ds h Q:=U2 hc a
theorem Zb{c:Operand}{x y:Code}(hc:AL O c=.bool false)(a:Lc F y i O ds h Q):Lc F (.cond c x y) i O ds h Q:=U2 hc a
theorem trI_ifb{c:Operand}{x y:Code}{t:Bool}(hc:AL O c=.bool t)(a:t=true->Lc F x i O ds h Q)(a':t=false->Lc F y i O ds h Q):Lc F (.cond c x y) i O ds h Q:=by
 cases t with
 | true=>exact trI_true hc (a rfl)
 | false=>exact Zb hc (a' rfl)
theorem KN{id:Nat}{c:Code}(a:Lc F c i O ds h (λi e σ' ds' h'=>match e with | .normal=>Q i .normal σ' ds' h' | .exit id'=>if id'=id then Q i .normal σ' ds' h' else Q i (.exit id') σ' ds' h' | e=>Q i e σ' ds' h')) :
  Lc F (.block id c) i O ds h Q:=by
 intro b k n o t p r s u j;refine Wk.go (Cc b t ds (.code c ::.inBlock id ::k)) (λw=>by rw [A0];simp [stepG.exec,Cc,G]) ?_;refine a b (.inBlock id ::k) n o t p r s u λi e σ' ds' h' q g d=>?_;cases e with
 | normal=>exact Wk.go (Cc b g ds' k) (λw=>by rw [A0];simp [stepG.exec,Cc,G]) (j _ _ _ _ _ q g d)
 | exit id'=>
  by_cases f:id'=id
  ·simp only [f,if_true] at q
   have:=j _ _ _ _ _ q g d
   simp only [C2,exitTo,f,beq_self_eq_true,if_true];exact this
  ·simp only [f,if_false] at q
   have:=j _ _ _ _ _ q g d
   have m:(id==id')=false:=by simp;exact λh=>f h.symm
   simp only [C2,exitTo,m] at this ⊢;exact this
 | ret=>exact j _ _ _ _ _ q g d
 | goto l=>exact j _ _ _ _ _ q g d
 | panic l=>exact j _ _ _ _ _ q g d
 | outgrown=>exact j _ _ _ _ _ q g d
theorem U3{c:Code}(aQ:Nat->Option (FC aP)->(Nat->aU)->List Deferred->V->Prop){n:Nat}(i0:aQ n i O ds h)
  (round:∀n i O ds h,aQ n i O ds h->Lc F c i O ds h (λi e σ' ds' h'=>match e with | .normal=>∃m,m<n/\aQ m i σ' ds' h' | e=>Q i e σ' ds' h')):Lc F (.loop c) i O ds h Q:=by
 intro b k p r t s u v g f;refine Wk.go (Cc b t ds (.code c ::.inLoop c ::k)) (λw=>by rw [A0];simp [stepG.exec,Cc,G]) ?_;have j:∀n i O ds h t,aQ n i O ds h->BX t F.N O->(F.wk i).K (G (Cc b t ds (.code c ::.inLoop c ::k)) p) h:=by
  intro n
  induction n using Nat.strongRecOn with
  | ind n x=>
   intro i O ds h t y g;refine round n i O ds h y b (.inLoop c ::k) p r t s u v g λi e σ' ds' h' q d a=>?_;cases e with
   | normal=>
    obtain ⟨m,z,o⟩:=q;exact Wk.go (Cc b d ds' (.code c ::.inLoop c ::k)) (λw=>by rw [A0];simp [stepG.exec,Cc,G]) (x m z _ _ _ _ _ o a)
   | exit id=>exact C2.push rfl aD (f _ _ _ _ _ q d a)
   | ret=>exact C2.push rfl aD (f _ _ _ _ _ q d a)
   | goto l=>exact C2.push rfl aD (f _ _ _ _ _ q d a)
   | panic l=>exact C2.push rfl aD (f _ _ _ _ _ q d a)
   | outgrown=>exact C2.push rfl aD (f _ _ _ _ _ q d a)
 exact j n i O ds h t i0 g
theorem LE{id:Nat}{l:List Oper}(a:MD F l.toArray l i O ds h Q):Lc F (.region id l.toArray false) i O ds h Q:=by
 intro b k c d t e f g j m;refine Wk.go (Cc b t ds (.inRegion l.toArray (List.range' 0 l.length) ::k)) (λw=>?_) (a 0 b k c d t aD e f g j m);rw [A0];simp [stepG.exec,Cc,G,List.range_eq_range']
theorem MF{ops:Array Oper}(q:Q i .normal O ds h):MD F ops [] i O ds h Q:=by
 intro n b k d e t f g j l a c;exact Wk.go (Cc b t ds k) (λw=>by rw [A0];simp [stepG.exec,Cc,G]) (c _ _ _ _ _ q t a)
theorem Hf{ops:Array Oper}{o:Oper}{l:List Oper}(hg:o.guard=none)(hdf:F.rd=none\/EK o.op=false)(hd:DK o.dst F.N=true)
  (x:BS (F.env i) o O ds h λσ' ds' h'=>MD F ops l i σ' ds' h' Q):MD F ops (o ::l) i O ds h Q:=by
 intro n b k e f t c g d m p q;have r:ops[n]? =some o:=by simpa using (c 0).symm
 refine OA (E:=F.env i) (rest:=List.range' (n+1) l.length) r (by simp [Region.wanted,hg]) (d▸hdf) hd p x λσ' ds' h' y s a=>?_;exact y (n+1) b k e f s (λj=>by have:=c (j+1);simpa [Nat.add_assoc,Nat.add_comm 1 j] using this) g d m a q
theorem U4{main:Bool}{b:Frame}{t:Array aU}{ops:Array Oper}{n:Nat}{rest:List Nat}{k:List Item}{cs:List Frame}{o:Oper}{N:Nat}(hs:BX t N O)(ho:ops[n]? =some o)(hw:Region.wanted o (yielded ops t)=true)
  (hdf:b.roundOf=none\/EK o.op=false) (w:World):stepG P main (G (Cc b t ds (.inRegion ops (n ::rest) ::k)) cs) w=stepG.apply P true (Cc b t ds (.inRegion ops (n ::rest) ::k)) cs none (execOp (AL O) o) w:=by
 have a:=Jb (b:=b) (ds:=ds) (k:=.inRegion ops (n ::rest) ::k) hs;rw [<-a];have c:((ops[n]?).map (Region.wanted · (yielded ops t))).getD false=true:=by simp [ho,hw]
 rw [A0];unfold stepG.exec;simp only [Cc,c,↓reduceIte];unfold stepG.oper;simp only [Frame.oper?,ho];rcases hdf with e | e
 ·simp only [e]
 ·cases d:o.op <;> first | rfl | (rw [d] at e;cases e;done) | (cases b.roundOf <;> rfl)
theorem Yn{main:Bool}{b:Frame}{t:Array aU}{ops:Array Oper}{n:Nat}{rest:List Nat}{k:List Item}{cs:List Frame}{o:Oper}{N:Nat}{w:World}{cc:Array CommCase}{bl:Bool}{sh:CommShape}(hs:BX t N O)(ho:ops[n]? =some o)(hw:Region.wanted o (yielded ops t)=true)
  (hdf:b.roundOf=none\/EK o.op=false) (hr:(execOp (AL O) o).runT P w #[]=(.ok (.comm cc bl sh) w,#[])) :
  stepG P main (G (Cc b t ds (.inRegion ops (n ::rest) ::k)) cs) w=.comm (G (Cc b t ds (.inRegion ops (n ::rest) ::k)) cs) cc bl sh w #[]:=by
 rw [U4 hs ho hw hdf];simp only [stepG.apply,hr,if_true,ite_self,seen_none];rfl
theorem spawn_at{main:Bool}{b:Frame}{t:Array aU}{ops:Array Oper}{n:Nat}{rest:List Nat}{k:List Item}{cs:List Frame}{o:Oper}{N:Nat}{w:World}{f:Fn}{cap args:Array aU}(hs:BX t N O)(ho:ops[n]? =some o)(hw:Region.wanted o (yielded ops t)=true)
  (hdf:b.roundOf=none\/EK o.op=false) (hr:(execOp (AL O) o).runT P w #[]=(.ok (.spawn { target:=.fn f cap,args:=args }) w,#[])) :
  stepG P main (G (Cc b t ds (.inRegion ops (n ::rest) ::k)) cs) w=.spawn (G ((Cc b t ds (.inRegion ops (n ::rest) ::k)).finish undef) cs) (born P { target:=.fn f cap,args:=args }) w #[]:=by
 rw [U4 hs ho hw hdf];simp only [stepG.apply,hr,if_true,ite_self,seen_none];simp [GStep.after,G,born]
variable {ops:Array Oper} {o:Oper} {l:List Oper}
theorem LF(hl:l≠[]):MD F ops l (some .never) O ds h Q:=λn b k a c t d e f _ g j=>Ei.stop rfl
theorem Zc{c:Nat}{m:aP}{nx:FC aP}{v z:aU}{hm h1:V}(hg:o.guard=none)(hdf:EK o.op=false)(hd:DK o.dst F.N=true)
  (hr:∀w,(execOp (AL O) o).runT P w #[]=(.ok (.comm #[scase c v z] true .send) w,#[])) (hsp:V.Split h h1 hm) (hrep:F.Rep c m v hm) (hnx:¬nx.isDone)
  (x:MD F ops l (some nx) (putS O o.dst undef) ds h1 Q):MD F ops (o ::l) (some (.send c m nx)) O ds h Q:=by
 intro n b k d q t e r a s g u;have p:ops[n]? =some o:=by simpa using (e 0).symm
 refine Ei.stop ⟨_,d,v,z,hm,h1,rfl,⟨λw f=>?_,hsp,hrep,?_⟩⟩
 ·rw [List.length_cons,List.range'_succ];exact Yn g p (by simp [Region.wanted,hg]) (.inr hdf) (hr w)
 ·rw [HN hnx,List.length_cons,List.range'_succ,DJ p];exact x (n+1) b k d q _ (λj=>by have:=e (j+1);simpa [Nat.add_assoc,Nat.add_comm 1 j] using this) r a s (g.putS hd undef) u
theorem Rw{c:Nat}{f:Option aP->FC aP}{z:aU}{ok:Bool}(hg:o.guard=none)(hdf:EK o.op=false)(hd:DK o.dst F.N=true)
  (hr:∀w,(execOp (AL O) o).runT P w #[]=(.ok (.comm #[rcase c z] true (.recv ok)) w,#[])) (hnx:∀o,¬(f o).isDone)
  (x:∀m v hm,F.Rep c m v hm->h.Compat hm->MD F ops l (some (f (some m))) (putS O o.dst (recvd ok v true)) ds (h.join hm) Q)
  (y:MD F ops l (some (f none)) (putS O o.dst (recvd ok z false)) ds h Q):MD F ops (o ::l) (some (.recv c f)) O ds h Q:=by
 intro n b k e s t g u a A p B;have q:ops[n]? =some o:=by simpa using (g 0).symm
 refine Ei.stop ⟨_,e,z,ok,rfl,⟨λw C=>?_,λm v hm d r=>?_,?_⟩⟩
 ·rw [List.length_cons,List.range'_succ];exact Yn p q (by simp [Region.wanted,hg]) (.inr hdf) (hr w)
 ·show FR P F.Rep F.W.K (f (some m)) F.main _ _;rw [HN (hnx _),List.length_cons,List.range'_succ,DJ q];exact x m v hm d r (n+1) b k e s _ (λj=>by have:=g (j+1);simpa [Nat.add_assoc,Nat.add_comm 1 j] using this) u a A (p.putS hd _) B
 ·show FR P F.Rep F.W.K (f none) F.main _ _;rw [HN (hnx _),List.length_cons,List.range'_succ,DJ q];exact y (n+1) b k e s _ (λj=>by have:=g (j+1);simpa [Nat.add_assoc,Nat.add_comm 1 j] using this) u a A (p.putS hd _) B
theorem trLI_go{ch nx:FC aP}{f:Fn}{cap args:Array aU}{hc h1:V}(hg:o.guard=none)(hdf:EK o.op=false)(hd:DK o.dst F.N=true)
  (hr:∀w,(execOp (AL O) o).runT P w #[]=(.ok (.spawn { target:=.fn f cap,args:=args }) w,#[])) (hsp:V.Split h h1 hc) (hnx:¬nx.isDone)
  (child:FR P F.Rep F.W.K ch false (born P { target:=.fn f cap,args:=args }) hc) (x:MD F ops l (some nx) (putS O o.dst undef) ds h1 Q):MD F ops (o ::l) (some (.spawn ch nx)) O ds h Q:=by
 intro n b k c m t d p a q e r;have g:ops[n]? =some o:=by simpa using (d 0).symm
 refine Ei.stop ⟨_,c,(Cc b t ds (.inRegion ops (List.range' n (o ::l).length) ::k)).finish undef,_,hc,h1,rfl,⟨λw s=>?_,hsp,?_,child⟩⟩
 ·rw [List.length_cons,List.range'_succ];exact spawn_at e g (by simp [Region.wanted,hg]) (.inr hdf) (hr w)
 ·rw [HN hnx,List.length_cons,List.range'_succ,DJ g];exact x (n+1) b k c m _ (λj=>by have:=d (j+1);simpa [Nat.add_assoc,Nat.add_comm 1 j] using this) p a q (e.putS hd undef) r
def LG(tys:Array aV)(ty:aV)(cs:Array Bool)(c:Nat):Deferred:={ target:=.builtin .close tys ty cs,args:=#[.chan (some c)] }
theorem Tb{f:FuncId}{fn:Func}{args:Array aU}(hf:P.funcs[f]? =some fn)(hc:AJ fn=true)(w:World):(callFunc f args).runT P w #[]=(.ok (.enter f args) w,#[]):=by
 unfold AJ at hc;simp only [Bool.and_eq_true,Bool.not_eq_true'] at hc;unfold callFunc;show (match P.funcs[f]? with | none=>_ | some fn=>_:Sem Next).runT P w #[]=_;rw [hf];simp only [];rw [aS (by rw [hc.1];simp),aS (by cases a:fn.body with | none=>rw [a] at hc;simp at hc | some c=>simp)];rfl
theorem Wm{tys:Array aV}{ty:aV}{cs:Array Bool}{ch s r:Nat}{w:World}(hw:w.heap[ch]? =some (.chan 0 #[] false s r false)) :
  (invoke (.builtin .close tys ty cs) #[.chan (some ch)]).runT P w #[]=(.ok (.value (.tuple #[])) { w with heap:=w.heap.setIfInBounds ch (.chan 0 #[] true s r false) },#[⟨.obj ch,false,true⟩,⟨.obj ch,true,true⟩]):=by
 show ((do pure (.value (<-Builtin.close_ tys ty #[.chan (some ch)])):Sem Next)).runT P w #[]=_;show Sem.runT P (.getObj ch λo=>_) w #[]=_;unfold Sem.runT;rw [hw];show Sem.runT P (.setObj ch (.chan 0 #[] true s r false) _) w _=_;unfold Sem.runT;rw [hw];rfl
theorem Wn{fn:FuncId}{ch:Nat}:seen P fn #[⟨.obj ch,false,true⟩,⟨.obj ch,true,true⟩]=#[⟨.obj ch,false,true⟩,⟨.obj ch,true,true⟩]:=by
 rw [seen_def];simp [seenStep]
theorem Zd{fn:Func}{c:Code}{s:FC aP}{ars cap args:Array aU}(hm:F.main=false)(hrd:F.rd=none)(ha:ars++cap=args)(hf:P.funcs[F.fn]? =some fn)(hc:AJ fn=true)(hb:fn.body=some c)(hN:F.N=fn.ntmps)(hres:fn.results=#[])(hsz:args.size<=fn.ntmps)(hs:¬s.isDone)
  (x:Lc F c (some s) (λi=>args.getD i undef) [] h λi e O ds h=>(e=.normal\/e=.ret)/\∃ch tys ty cs,i=some (.close ch .done)/\ds=[LG tys ty cs ch]):FR P F.Rep F.W.K s false (born P { target:=.fn (.func F.fn) cap,args:=ars }) h:=by
 let a:Frame:={ (default:Frame) with fn:=P.funcs.size,defers:=[],mode:=.panicking [goexitEntry] };have m:∀s,(F.wk (some s)).K=Ei P false (H8 P F.Rep F.W.K s false):=λs=>by show Ei P F.main (H8 P F.Rep F.W.K s F.main)=_;rw [hm]
 rw [HN hs];refine Lh _ _ _ _ rfl λw f=>⟨G (Frame.enter P F.fn args .deferred) [a],w,#[],h,?_,Bf.refl f,?_⟩
 ·subst ha;have n:(invoke (.fn (.func F.fn) cap) ars).runT P w #[]=(.ok (.enter F.fn (ars++cap)) w,#[]):=Tb hf hc w;show callDeferred P a [] none { target:=.fn (.func F.fn) cap,args:=ars } w=_;unfold callDeferred;rw [aS aD];simp only [n,seen_none];rfl
 have y:Frame.enter P F.fn args .deferred=Cc (Frame.enter P F.fn args .deferred) (args++Array.replicate (fn.ntmps-args.size) undef) [] [.code c]:=by simp [Frame.enter,Cc,hf,hb]
 rw [y,<-m s];let z:Option (FC aP)->Lv:=λi j t ds b=>(j=none\/j=some .ret)/\∃ch tys ty cs,i=some (.close ch .done)/\ds=[LG tys ty cs ch];have d:∀ch tys ty cs b t k,(F.wk (some (.close ch .done))).K (G (Dq (Frame.enter P F.fn args .deferred) t [LG tys ty cs ch] k) [a]) b:=by
  intro ch tys ty cs b t k;rw [m];refine Ei.stop ⟨_,_,Dq (Frame.enter P F.fn args .deferred) t [] k,[a],rfl,⟨λw s r _ A=>?_,rfl,?_⟩⟩
  ·have n:=Wm (P:=P) (tys:=tys) (ty:=ty) (cs:=cs) A;show callDeferred P (Dq (Frame.enter P F.fn args .deferred) t [] k) [a] none (LG tys ty cs ch) w=_;unfold callDeferred LG;rw [aS aD];simp only [n,Wn];rfl
  ·refine ⟨2,.inr ⟨rfl,G a [],λw=>?_,.inr ⟨rfl,{ G a [] with status:=.finished },λw=>?_,rfl⟩⟩⟩
   ·show unwind P false (Dq (Frame.enter P F.fn args .deferred) t [] k) [a] none w=_;have q:(Dq (Frame.enter P F.fn args .deferred) t [] k).fn=F.fn:=rfl;have B:(Dq (Frame.enter P F.fn args .deferred) t [] k).kind=.deferred:=rfl;have g:(Dq (Frame.enter P F.fn args .deferred) t [] k).mode=.returning:=rfl;have u:(Dq (Frame.enter P F.fn args .deferred) t [] k).defers=[]:=rfl;have C:∀t,(results fn t).runT P w #[]=(.ok (.tuple #[]) w,#[]):=λt=>by
     unfold results;rw [hres];simp only [Array.mapM_empty];rfl
    unfold unwind;simp only [u,g,q,hf,C,GStep.after,doReturn,B,seen_none];rfl
   ·show unwind P false a [] none w=_;have p:a.catches P=false:=by
     unfold Frame.catches
     have:P.funcs[a.fn]? =none:=Array.getElem?_eq_none (Nat.le_refl _)
     rw [this];rfl
    have u:a.defers=[]:=rfl;have g:a.mode=.panicking [goexitEntry]:=rfl;unfold unwind;simp only [u,g,p];rfl
 refine x (Frame.enter P F.fn args .deferred) [] [a] z _ rfl hrd.symm (λi=>⟨?_,?_,?_⟩) ⟨by rw [hN];simp;omega,λi=>?_⟩ ?_
 ·rintro t ds b ⟨_,ch,tys,ty,cs,rfl,rfl⟩;exact Wk.go (Dq (Frame.enter P F.fn args .deferred) t _ []) (λw=>by rw [A0];simp [stepG.exec,Cc,Dq,G,Frame.enter]) (d ch tys ty cs b t [])
 ·rintro t ds b k ⟨_,ch,tys,ty,cs,rfl,rfl⟩;exact Wk.go (Dq (Frame.enter P F.fn args .deferred) t _ (.code .ret ::k)) (λw=>by rw [A0];simp [stepG.exec,Cc,Dq,G,Frame.enter]) (d ch tys ty cs b t _)
 ·rintro id t ds b k _ ⟨h1 | h1,_⟩ <;> cases h1
 ·by_cases n:i<args.size
  ·simp [Array.getD_eq_getD_getElem?,Array.getElem?_append_left n]
  ·simp only [Array.getD_eq_getD_getElem?];rw [Array.getElem?_append_right Y,Array.getElem?_eq_none (show args.size<=i by omega),Array.getElem?_replicate];split <;> rfl
 ·rintro i e O ds b ⟨D,ch,tys,ty,cs,rfl,rfl⟩ v E;rcases D with rfl | rfl
  ·exact Wk.go (Dq (Frame.enter P F.fn args .deferred) v _ []) (λw=>by rw [A0];simp [stepG.exec,Cc,Dq,G,Frame.enter]) (d ch tys ty cs b v [])
  ·exact ⟨.inr rfl,ch,tys,ty,cs,rfl,rfl⟩
end
section
variable {P:Program} {aP:Type} {Post:aU->World->Prop}
def V.Same(h h':V):Prop:=∀b p o,h b=some (p,o)->∃p',h' b=some (p',o)
theorem H7.flags{g:Goroutine}{h h':V}{gs:Array Goroutine}{w:World}{q:Nat->Nat}{t:Trace}(B:H7 P g h gs w q t)(s:h'.Same h):H7 P g h' gs w q t:=
 { B with
  fits:=λb p o c=>by obtain ⟨d,x⟩:=s b p o c;exact B.fits b d o x
  chn:=λb p o k a c=>by obtain ⟨d,x⟩:=s b p o c;exact B.chn b d o k a x }
theorem Dz.flags{g:Goroutine}{h h':V}(s:h'.Same h)(x:Dz P Post g h'):Dz P Post g h:=λa w b q t B=>x a w b q t (B.flags s)
def Wo(c:Nat)(s0:FC aP)(N:Hq aP):Prop:=0<N.n/\N.s 0=s0/\(∀j,0<j->j<N.n->N.s j=.done/\N.kn 0 j)/\N.cl c=false
theorem RG{Rep:Nat->aP->aU->V->Prop}{g:Goroutine}{h:V}{c:Nat}{s0:FC aP}(hc:h c=some (true,.chan 0 #[] false 0 0 false))(good:∀N:Hq aP,Wo c s0 N->Gx (λx=>x=c) N)
  (d:FR P Rep (Dz P Post) s0 true g (h.delS λx=>x=c)):Dz P Post g h:=by
 intro l w S q t B;have m:(h.delS λx=>x=c).Same h:=λb p o y=>by
  by_cases e:b=c
  ·rw [V.delS_in (X:=λx=>x=c) e] at y;cases y
  ·rw [V.delS_ne (X:=λx=>x=c) e] at y;exact ⟨p,y⟩
 have B':=B.flags m;let N:Hq aP:={ n:=l.size,s:=λj=>if j=0 then s0 else .done,kn:=λi j=>i=0/\0<j,cl:=λ_=>false,ck:=λ_ _=>False };have r:0<l.size:=B.lt;obtain ⟨O,u⟩:=Ga (cl:=N.cl) d;have hsits:∀i A,l[i]? =some A->OB P Rep (Dz P Post) (N.s i) N.cl (i==0) A (only (h.delS λx=>x=c) i) (if i=0 then O else .leave (q i)):=by
  intro i A f;rcases Nat.eq_zero_or_pos i with rfl | hp
  ·have:=B.here;rw [f] at this;cases this
   simpa [N,only] using u
  ·have T:¬i=0:=Y
   have U:=B.old i A hp f;simp only [N,T,if_false];exact .leave (q i) rfl U
 have hparked:∀i (E:Goroutine) Q F,l[i]? =some (parked E Q F)->i=0:=λi E Q F f=>by
  rcases Nat.eq_zero_or_pos i with e | hp
  ·exact e
  ·rcases (B.old i _ hp f).status with e | e <;> cases e
 refine net_runs (used:=λx=>x=c) (N:=N) (good N ⟨r,rfl,λj R W=>⟨aS Y,rfl,R⟩,rfl⟩) (λi=>if i=0 then O else .leave (q i)) l w S t (only (h.delS λx=>x=c))
  ⟨rfl,B'.HS,B'.TI,hsits,?_,?_,?_,?_,?_,?_⟩
 ·rintro C rfl;exact ⟨0,B.fits _ _ _ hc⟩
 ·rintro C i rfl f;unfold only;split
  ·exact V.delS_in rfl
  ·rfl
 ·rintro C k a rfl H hl;exact B.chn _ _ _ k a hc rfl H hl
 ·intro i j E gj C v z F z' sh' D K;obtain rfl:=hparked i _ _ _ D;obtain rfl:=hparked j _ _ _ K;rw [D] at K;exact HF (Option.some.inj K).symm
 ·rintro i j f R ⟨rfl,hjp⟩;refine ⟨aS Y,λk a H _=>B.known k a H⟩
 ·rintro C rfl D;cases D
def PM(W:Wk P):Prop:=∃Post:aU->World->Prop,W.K=Dz P Post
variable {F:RF P aP} {i:Option (FC aP)} {O:Nat->aU} {ds:List Deferred} {h:V} {Q:U1 aP}
theorem trI_net{c:Code}{s0:FC aP}{ch:Nat}(hm:F.main=true)(hW:PM F.W)(hc:h ch=some (true,.chan 0 #[] false 0 0 false))(hs:¬s0.isDone)(good:∀N:Hq aP,Wo ch s0 N->Gx (λx=>x=ch) N)
  (x:Lc F c (some s0) O ds (h.delS λx=>x=ch) Q):Lc F c none O ds h Q:=by
 intro b k d e t f g j l m
 have:=x b k d e t f g j l m
 obtain ⟨Post,a⟩:=hW;show F.W.K _ _;rw [a];refine RG (Rep:=F.Rep) hc good ?_;rw [HN hs];unfold RF.wk at this;simp only [hm,a] at this;exact this
theorem trI_out{c:Code}{h0:V}(hW:PM F.W)(hs:h0.Same h)(x:Lc F c none O ds (h0.join h) Q):Lc F c (some .stop) O ds h Q:=by
 intro b k e f t a g j l m
 have:=x b k e f t a g j l m
 obtain ⟨Post,n⟩:=hW;refine Ei.stop ?_;show F.W.K _ _;have d:F.W.K _ _:=this;rw [n] at d ⊢;refine d.flags λb p o a=>?_;rcases hj:h0 b with _ | ⟨q,r⟩
 ·unfold V.join at a;rw [hj] at a;exact ⟨p,a⟩
 ·unfold V.join at a;rw [hj] at a;cases a;exact hs b p o hj
def V.ro(h:V):V:=λb=>(h b).map λx=>(false,x.2)
theorem V.ro_some{h:V}{b:Nat}{p:Bool}{o:Obj}(hb:h b=some (p,o)):h.ro b=some (false,o):=by unfold V.ro;rw [hb];rfl
theorem V.ro_inv{h:V}{b:Nat}{p:Bool}{o:Obj}(hb:h.ro b=some (p,o)):p=false/\∃p',h b=some (p',o):=by
 unfold V.ro at hb;cases e:h b with
 | none=>rw [e] at hb;cases hb
 | some x=>rw [e] at hb;obtain ⟨p',a⟩:=x;cases hb;exact ⟨rfl,p',rfl⟩
theorem V.split_ro(h:V):V.Split h h.ro h.ro where
 left:=λb p o a=>by obtain ⟨rfl,c,x⟩:=V.ro_inv a;exact ⟨c,x,λe=>by cases e⟩
 right:=λb p o a=>by obtain ⟨rfl,c,x⟩:=V.ro_inv a;exact ⟨c,x,λe=>by cases e⟩
 one:=λr o x a=>by cases (V.ro_inv a).1
 two:=λr o x a=>by cases (V.ro_inv a).1
theorem V.same_ro(h:V):h.Same h.ro:=λ_ _ _ a=>⟨false,V.ro_some a⟩
theorem V.Same.trans{a b c:V}(x:a.Same b)(y:b.Same c):a.Same c:=λr p o d=>by obtain ⟨e,z⟩:=x r p o d;exact y r e o z
theorem V.Le.same{a b:V}(x:a.Le b):a.Same b:=λr p o c=>⟨p,x.keep c rfl⟩
theorem V.le_join(a b:V):a.Le (a.join b):=λr p o c=>⟨o,by unfold V.join;rw [c],.inl rfl⟩
theorem V.Same.join{a b:V}(s:a.Same b):b.Same (a.join b):=λr p o c=>by
 unfold V.join;cases e:a r with
 | none=>exact ⟨p,c⟩
 | some x=>obtain ⟨d,f⟩:=x;obtain ⟨g,y⟩:=s r d f e;rw [c] at y;cases y;exact ⟨d,rfl⟩
theorem AN.flags{h h':V}(s:h.Same h'){b off n:Nat}{vs:Array aU}(x:AN h b off n vs):AN h' b off n vs:=by
 obtain ⟨p,c,t,f,y,z⟩:=x;obtain ⟨a,d⟩:=s _ _ _ y;exact ⟨a,c,t,f,d,z⟩
theorem AD.flags{U:Type}{h h':V}(s:h.Same h'){v:aU}{n:Nat}{enc:U->Array aU}{xs:List U}(x:AD h v n enc xs):AD h' v n enc xs:=by
 obtain ⟨a,c,e,f,g,j⟩:=x;refine ⟨a,c,e,f,g,λi k=>?_⟩;obtain ⟨b,d,l,m⟩:=j i k;exact ⟨b,d,l,m.flags s⟩
end
section
variable {aP:Type} [DecidableEq aP]
def IY(c:Nat):List aP->FC aP
 | []=>.close c .done
 | m ::ms=>.send c m (IY c ms)
def MG:Option aP->FC aP
 | none=>.stop
 | some _=>.never
def Gj(m:aP)(nx:FC aP):Option aP->FC aP
 | some m'=>if m'=m then nx else .never
 | none=>.never
def Jx(c:Nat):List aP->FC aP
 | []=>.recv c MG
 | m ::ms=>.recv c (Gj m (Jx c ms))
structure TwoN(c k:Nat)(ms:List aP)(N:Hq aP):Prop where
 n:N.n=k+1
 pos:0<k
 main:N.s 0=Jx c ms
 child:N.s k=IY c ms
 rest:∀j,0<j->j<k->N.s j=.done/\N.kn 0 j
 cl:N.cl c=false
theorem Ze{c k:Nat}:∀{ms:List aP}{N:Hq aP},TwoN c k ms N->Gx (λx=>x=c) N:=by
 intro ms
 induction ms with
 | nil=>
  intro N T;have C:=T.pos;refine .plain N (by rw [T.n];omega) ⟨_,.shut (i:=k) (c:=c) (nx:=.done) (by rw [T.n];omega) T.child⟩ (λi d=>?_) (λN' u=>?_) (λi f d a=>?_)
  ·rcases Nat.eq_zero_or_pos i with rfl | hp
   ·rw [T.main];rfl
   ·rcases Nat.lt_or_ge i k with hl | hl
    ·rw [(T.rest i hp hl).1];show i≠0;omega
    ·obtain rfl:i=k:=by have:=T.n;omega
     rw [T.child];exact ⟨rfl,T.cl⟩
  ·have b:∀i,i<N.n->i=0\/i=k\/N.s i=.done:=λi d=>by
    rcases Nat.eq_zero_or_pos i with e | hp
    ·exact .inl e
    ·rcases Nat.lt_or_ge i k with hl | hl
     ·exact .inr (.inr (T.rest i hp hl).1)
     ·exact .inr (.inl (by have:=T.n;omega))
   have o:N.s 0=.recv c MG:=T.main;have l:N.s k=.close c .done:=T.child;cases u with
   | hire d a=>rcases b _ d with rfl | rfl | e <;> simp_all
   | meet d g v a h=>rcases b _ d with rfl | rfl | e <;> simp_all
   | hear g a q=>
    rcases b _ g with rfl | rfl | e
    ·rw [o] at a;cases a;rw [T.cl] at q;cases q
    ·rw [l] at a;cases a
    ·rw [e] at a;cases a
   | @shut i D nx d a=>
    rcases b _ d with rfl | rfl | e
    ·rw [o] at a;cases a
    ·rw [l] at a;cases a;refine .plain _ (by show 0<N.n;rw [T.n];omega) ⟨_,.hear (j:=0) (c:=c) (f:=_) (by show 0<N.n;rw [T.n];omega) (by show (if 0=i then _ else N.s 0)=_;rw [aS Y];exact o) (by show (if c=c then true else _)=true;rw [aT rfl])⟩ (λj g=>?_) (λN'' u=>?_) (λj f g E=>?_)
     ·have g:j<N.n:=g;show Jd _ _ j (if j=i then _ else N.s j);by_cases e:j=i
      ·rw [aT e];show j≠0;omega
      ·rw [aS e];rcases b j g with rfl | rfl | e'
       ·rw [o];rfl
       ·exact absurd rfl e
       ·rw [e'];show j≠0;rintro rfl;rw [o] at e';cases e'
     ·have h:∀j,j<N.n->j≠0->(N.shut i c .done).s j=.done:=λj g y=>by
       show (if j=i then _ else N.s j)=_;by_cases e:j=i
       ·rw [aT e]
       ·rw [aS e];rcases b j g with rfl | rfl | e'
        ·exact absurd rfl y
        ·exact absurd rfl e
        ·exact e'
      have z:(N.shut i c .done).s 0=.recv c MG:=by show (if 0=i then _ else N.s 0)=_;rw [aS Y];exact o
      have p:∀j,j<N.n->j=0\/(N.shut i c .done).s j=.done:=λj g=>(Nat.eq_zero_or_pos j).imp id λhp=>h j g Y;cases u with
      | hire d a=>rcases p _ d with rfl | e <;> simp_all
      | meet d g v a h=>rcases p _ d with rfl | e <;> simp_all
      | shut d a=>rcases p _ d with rfl | e <;> simp_all
      | @hear j D f g a q=>
       rcases p _ g with rfl | e
       ·rw [z] at a;cases a;refine .stop _ _ (by show 0<N.n;rw [T.n];omega) (show (if 0=0 then MG none else (N.shut i c .done).s 0)=FC.stop from rfl) λj g t=>⟨?_,?_⟩
        ·show (if j=0 then _ else (N.shut i c .done).s j)=_;rw [aS Y];exact h j t Y
        ·simp only [Hq.hear,Hq.shut,if_true];show N.kn 0 j\/N.kn i j\/(j=i/\True);rcases Nat.lt_or_ge j i with hl | hl
         ·exact .inl (T.rest j g hl).2
         ·have t:j<N.n:=t;exact .inr (.inr ⟨by have:=T.n;omega,trivial⟩)
       ·rw [e] at a;cases a
     ·have r:(if j=i then FC.done else N.s j)=.make f:=E;split at r
      ·cases r
      ·rcases b j g with rfl | rfl | e'
       ·rw [o] at r;cases r
       ·rename_i e;exact absurd rfl e
       ·rw [e'] at r;cases r
    ·rw [e] at a;cases a
  ·rcases Nat.eq_zero_or_pos i with rfl | hp
   ·rw [T.main] at a;cases a
   ·rcases Nat.lt_or_ge i k with hl | hl
    ·rw [(T.rest i hp hl).1] at a;cases a
    ·obtain rfl:i=k:=by have:=T.n;omega
     rw [T.child] at a;cases a
 | cons m ms F=>
  intro N T;have C:=T.pos;have l:N.s k=.send c m (IY c ms):=T.child;have o:N.s 0=.recv c (Gj m (Jx c ms)):=T.main;have b:∀i,i<N.n->i=0\/i=k\/N.s i=.done:=λi d=>by
   rcases Nat.eq_zero_or_pos i with e | hp
   ·exact .inl e
   ·rcases Nat.lt_or_ge i k with hl | hl
    ·exact .inr (.inr (T.rest i hp hl).1)
    ·exact .inr (.inl (by have:=T.n;omega))
  refine .plain N (by rw [T.n];omega) ⟨_,.meet (i:=k) (j:=0) (by rw [T.n];omega) (by rw [T.n];omega) Y l o⟩ (λi d=>?_) (λN' u=>?_) (λi f d a=>by rcases b i d with rfl | rfl | e <;> simp_all)
  ·rcases b i d with rfl | rfl | e
   ·rw [o];rfl
   ·rw [l];exact ⟨rfl,T.cl⟩
   ·rw [e];show i≠0;rintro rfl;rw [o] at e;cases e
  ·cases u with
   | hire d a=>rcases b _ d with rfl | rfl | e <;> simp_all
   | shut d a=>rcases b _ d with rfl | rfl | e <;> simp_all
   | hear g a q=>
    rcases b _ g with rfl | rfl | e
    ·rw [o] at a;cases a;rw [T.cl] at q;cases q
    ·rw [l] at a;cases a
    ·rw [e] at a;cases a
   | @meet i j D H nx f d g v a h=>
    have A:i=k:=by
     rcases b _ d with rfl | rfl | e
     ·rw [o] at a;cases a
     ·rfl
     ·rw [e] at a;cases a
    have B:j=0:=by
     rcases b _ g with rfl | rfl | e
     ·rfl
     ·rw [l] at h;cases h
     ·rw [e] at h;cases h
    subst A B;rw [l] at a;cases a;rw [o] at h;cases h;refine F ⟨T.n,C,?_,?_,λj g w=>⟨?_,?_⟩,T.cl⟩
    ·show (if 0=i then _ else if 0=0 then _ else N.s 0)=_;rw [aS Y,aT rfl];show (if m=m then _ else _)=_;rw [aT rfl]
    ·show (if i=i then _ else _)=_;rw [aT rfl]
    ·show (if j=i then _ else if j=0 then _ else N.s j)=_;rw [aS Y,aS Y];exact (T.rest j g w).1
    ·simp only [Hq.meet,or_true,if_true];exact .inr (.inl (T.rest j g w).2)
theorem Wp{c:Nat}{ms:List aP}{N:Hq aP}(S:Wo c (.spawn (IY c ms) (Jx c ms)) N):Gx (λx=>x=c) N:=by
 obtain ⟨o,m,p,g⟩:=S;have a:∀i,i<N.n->i=0\/N.s i=.done:=λi b=>(Nat.eq_zero_or_pos i).imp id λq=>(p i q b).1;refine .plain N o ⟨_,.hire o m⟩ (λi b=>?_) (λN' r=>?_) (λi f b d=>by rcases a i b with rfl | e <;> simp_all)
 ·rcases a i b with rfl | e
  ·rw [m];trivial
  ·rw [e];show i≠0;rintro rfl;rw [m] at e;cases e
 ·cases r with
  | meet b h t d u=>rcases a _ b with rfl | e <;> simp_all
  | shut b d=>rcases a _ b with rfl | e <;> simp_all
  | hear h d g=>rcases a _ h with rfl | e <;> simp_all
  | @hire i v w b d=>
   rcases a _ b with rfl | e
   ·rw [m] at d;cases d;refine Ze (k:=N.n) (ms:=ms) ⟨rfl,o,?_,?_,λj h l=>⟨?_,?_⟩,g⟩
    ·show (if 0=N.n then _ else if 0=0 then _ else _)=_;rw [aS Y,aT rfl]
    ·show (if N.n=N.n then _ else _)=_;rw [aT rfl]
    ·show (if j=N.n then _ else if j=0 then _ else N.s j)=_;rw [aS Y,aS Y];exact (p j h l).1
    ·show (if j=N.n then False else if 0=N.n then _ else N.kn 0 j);rw [aS Y,aS Y];exact (p j h l).2
   ·rw [e] at d;cases d
omit [DecidableEq aP] in
theorem Rx(c:Nat)(ms:List aP):¬(IY c ms).isDone:=by cases ms <;> exact id
theorem R0(c:Nat)(ms:List aP):¬(Jx c ms).isDone:=by cases ms <;> exact id
end
end Go.Ns
namespace Go.Ns
open Go.Conc
section
variable (d m:Int) (gs:List Good) (ms:List AI) (cs:List AP)
def MH(mask:Nat):Option (List Int):=if DY d gs ms (Ci cs (mask:Int) cs.length) m=true then none else some (BL (mask:Int) cs.length)
def C5(k f:Nat):List (List Int):=(List.range' k f).filterMap (MH d m gs ms cs)
def ED:List (List Int):=C5 d m gs ms cs 0 (2 ^ cs.length)
def Ed:Int:=if Ah d m gs ms cs=0 then (if DY d gs ms cs m=true then 0 else if DY d gs ms (Ci cs 0 cs.length) m=true then 0 else 8) else Ah d m gs ms cs
def Fu:List Int:=if Ah d m gs ms cs=0/\DY d gs ms cs m=false/\DY d gs ms (Ci cs 0 cs.length) m=true then JW ((ED d m gs ms cs).getD 0 []) ((ED d m gs ms cs).drop 1) else []
end
section
variable {d m:Int} {gs:List Good} {ms:List AI} {cs:List AP}
theorem PN{k f:Nat}(h:DY d gs ms (Ci cs (k:Int) cs.length) m=true):C5 d m gs ms cs k (f+1)=C5 d m gs ms cs (k+1) f:=by
 unfold C5 MH;rw [List.range'_succ,List.filterMap_cons];simp [h]
theorem PO{k f:Nat}(h:DY d gs ms (Ci cs (k:Int) cs.length) m=false):C5 d m gs ms cs k (f+1)=BL (k:Int) cs.length ::C5 d m gs ms cs (k+1) f:=by
 unfold C5 MH;rw [List.range'_succ,List.filterMap_cons];simp [h]
theorem Wq{n i:Nat}(hn:n<=4)(hi:i<n):HY ((2 ^ n-1:Nat):Int) i=true:=by
 have h:∀n,n<=4->∀i,i<n->HY ((2 ^ n-1:Nat):Int) i=true:=aC
 exact h n hn i hi
theorem Wr{U:Type}(l:List U)(z:U):(List.range l.length).map (λi=>l.getD i z)=l:=by
 apply List.ext_getElem
 ·simp
 ·intro i b a;simp [List.getD_eq_getElem?_getD,List.getElem?_eq_getElem a]
theorem Ws(h:cs.length<=4):Ci cs ((2 ^ cs.length-1:Nat):Int) cs.length=cs:=by
 unfold Ci;rw [List.filter_eq_self.2 λi a=>Wq h (List.mem_range.1 a)];exact Wr cs AP.z
theorem U5(hcl:cs.length<=4)(h:DY d gs ms cs m=false):ED d m gs ms cs≠[]:=by
 intro e;unfold ED C5 at e;rw [List.filterMap_eq_nil_iff] at e;have a:0<2 ^ cs.length:=Nat.pow_pos aC
 have:=e (2 ^ cs.length-1) (List.mem_range'.2 ⟨2 ^ cs.length-1,Y,Y⟩)
 unfold MH at this;rw [Ws hcl,aS (by rw [h];simp)] at this;cases this
theorem Tc(hcl:cs.length<=4):(ED d m gs ms cs).length<=16:=by
 unfold ED C5;refine Nat.le_trans (List.length_filterMap_le _ _) ?_;rw [List.length_range'];exact Nat.pow_le_pow_right (n:=2) aC hcl
theorem RH(h:¬Ah d m gs ms cs=0):Ed d m gs ms cs=Ah d m gs ms cs:=by unfold Ed;rw [aS h]
theorem Wt(h:¬Ah d m gs ms cs=0):Fu d m gs ms cs=[]:=by unfold Fu;rw [aS (λe=>h e.1)]
theorem PP(h:Ah d m gs ms cs=0)(h1:DY d gs ms cs m=true):Ed d m gs ms cs=0:=by unfold Ed;rw [aT h,aT h1]
theorem U6(h1:DY d gs ms cs m=true):Fu d m gs ms cs=[]:=by unfold Fu;rw [aS (λe=>by rw [h1] at e;cases e.2.1)]
theorem N1(h:Ah d m gs ms cs=0)(h1:DY d gs ms cs m=false)(h2:DY d gs ms (Ci cs 0 cs.length) m=false):Ed d m gs ms cs=8:=by
 unfold Ed;rw [aT h,aS (by rw [h1];simp),aS (by rw [h2];simp)]
theorem Td(h2:DY d gs ms (Ci cs 0 cs.length) m=false):Fu d m gs ms cs=[]:=by unfold Fu;rw [aS (λe=>by rw [h2] at e;cases e.2.2)]
theorem Te(h:Ah d m gs ms cs=0)(h1:DY d gs ms cs m=false)(h2:DY d gs ms (Ci cs 0 cs.length) m=true):Ed d m gs ms cs=0:=by
 unfold Ed;rw [aT h,aS (by rw [h1];simp),aT h2]
theorem Zf{fl:List Sl}(h:Ah d m gs ms cs=0)(h1:DY d gs ms cs m=false)(h2:DY d gs ms (Ci cs 0 cs.length) m=true)(hcl:cs.length<=4)(hfl:CH fl=ED d m gs ms cs) :
  0<fl.length/\Fu d m gs ms cs=JW (fl.getD 0 Sl.z).2 (CH (fl.drop 1)):=by
 have b:=U5 (d:=d) (gs:=gs) (ms:=ms) hcl h1;have a:0<fl.length:=by
  rw [<-C8,hfl];exact List.length_pos_iff.2 b
 refine ⟨a,?_⟩;unfold Fu;rw [aT ⟨h,h1,h2⟩,<-hfl,FV a];congr 1;unfold CH;rw [List.map_drop]
end
theorem CA.pick{d m:Int}{gs:List Good}{ms:List AI}{cs:List AP}(b:CA d m gs ms cs)(mask:Int):CA d m gs ms (Ci cs mask cs.length):=
 { b with
  clen:=Nat.le_trans (Rn cs mask _) b.clen
  count:=λk f=>by
   have a:=CG (d:=AP.z) f;generalize g:(Ci cs mask cs.length).getD k AP.z=x at a;unfold Ci at a;obtain ⟨i,h,e⟩:=List.mem_map.1 a;have c:=List.mem_range.1 (List.mem_filter.1 h).1
   have:=b.count i c
   unfold Hu at this ⊢;rw [g,<-e];exact this }
theorem B9.flags{h h':V}{l:List Sl}(s:h.Same h')(a:B9 h l):B9 h' l:=λk=>(a k).flags s
def RepL:Nat->List Int->aU->V->Prop:=λ_ l v hm=>AD hm v 1 eI l
def V.part(h:V)(v:aU):V:=λb=>if back v=some b then h b else none
def V.rest(h:V)(v:aU):V:=λb=>if back v=some b then none else h b
theorem V.split_part(h:V)(v:aU):V.Split h (h.rest v) (h.part v) where
 left:=λb p o a=>by
  unfold V.rest at a;split at a
  ·cases a
  ·exact ⟨p,a,id⟩
 right:=λb p o a=>by
  unfold V.part at a;split at a
  ·exact ⟨p,a,id⟩
  ·cases a
 one:=λr o x c d=>by
  unfold V.rest at c;unfold V.part at d;split at c
  ·cases c
  ·rename_i e;rw [aS e] at d;cases d
 two:=λr o x c d=>by
  unfold V.rest at d;unfold V.part at c;split at d
  ·cases d
  ·rename_i e;rw [aS e] at c;cases c
theorem AV.part{U:Type}{h0 h:V}{v:aU}{t:aV}{n:Nat}{enc:U->Array aU}{xs:List U}(x:AV h0 h v t n enc xs):AD (h.part v) v n enc xs:=
 AV.sl (h0:=h0) (x.keep λb o a c=>by unfold V.part;rw [aT a];exact c)
theorem AV.le_rest{U:Type}{h0 h hb:V}{v:aU}{t:aV}{n:Nat}{enc:U->Array aU}{xs:List U}(x:AV h0 h v t n enc xs)(l:hb.Le h)(l0:hb.Le h0):hb.Le (h.rest v):=λb p o a=>by
 unfold V.rest;rw [aS]
 ·exact l b p o a
 ·intro e;rcases x with ⟨rfl,_⟩ | ⟨d,f,c,rfl,f0,_⟩
  ·cases e
  ·have:d=b:=by simpa [back] using e
   subst this
   have:=l0.keep a rfl
   rw [f0] at this;cases this
theorem AD.join{U:Type}{h hm:V}{v:aU}{n:Nat}{enc:U->Array aU}{xs:List U}(x:AD hm v n enc xs)(c:h.Compat hm):AD (h.join hm) v n enc xs:=x.flags λb p o a=>by
 unfold V.join;cases e:h b with
 | none=>exact ⟨p,a⟩
 | some y=>obtain ⟨q,d⟩:=y;obtain ⟨rfl,rfl,rfl⟩:=c b q d p o e a;exact ⟨false,rfl⟩
theorem V.Compat.le{a h hm:V}(l:a.Le h)(c:h.Compat hm):a.Compat hm:=λb p o q d x y=>c b p o q d (l.keep x rfl) y
theorem V.Le.joins{a h hm:V}(l:a.Le h)(c:h.Compat hm):(a.join hm).Le (h.join hm):=λb p o d=>by
 unfold V.join at d ⊢;cases e:a b with
 | some x=>rw [e] at d;cases d;rw [l.keep e rfl];exact ⟨o,rfl,.inl rfl⟩
 | none=>
  rw [e] at d;cases f:h b with
  | none=>exact ⟨o,d,.inl rfl⟩
  | some y=>obtain ⟨q,g⟩:=y;obtain ⟨rfl,rfl,rfl⟩:=c b q g p o f d;exact ⟨_,rfl,.inl rfl⟩
theorem AV.joins{U:Type}{h0 h hm:V}{v:aU}{t:aV}{n:Nat}{enc:U->Array aU}{xs:List U}(x:AV h0 h v t n enc xs)(c:h.Compat hm):AV (h0.join hm) (h.join hm) v t n enc xs:=by
 rcases x with x | ⟨b,a,d,rfl,f0,f1,f2⟩
 ·exact .inl x
 ·refine .inr ⟨b,a,d,rfl,?_,?_,f2⟩
  ·unfold V.join;rw [f0];cases e:hm b with
   | none=>rfl
   | some y=>obtain ⟨q,f⟩:=y;have:=(c b _ _ q f f1 e).1;cases this
  ·unfold V.join;rw [f1]
section
variable {P:Program} {aP:Type} {F:RF P aP} {i i':Option (FC aP)} {O:Nat->aU} {ds:List Deferred} {h:V} {Q:U1 aP}
theorem trI_ix{c:Code}(e:i=i')(x:Lc F c i' O ds h Q):Lc F c i O ds h Q:=e▸x
theorem Yo{ops:Array Oper}{l:List Oper}(e:i=i')(x:MD F ops l i' O ds h Q):MD F ops l i O ds h Q:=e▸x
theorem Zg{c:Code}{Q:Post}(x:Lc F c none O ds h λi e O ds h=>i=none/\Q e O ds h):Tr ⟨F.W,F.fn,F.rd,F.N⟩ c O ds h Q:=by
 intro b k f g t j l m n o;refine x b k f (λi=>match i with | none=>g | some _=>λ_ _ _ _=>False) t j l (λi=>?_) n λi e σ' a p q r d=>?_
 ·cases i with
  | none=>exact m
  | some s=>exact ⟨λ_ _ _ x=>x.elim,λ_ _ _ _ x=>x.elim,λ_ _ _ _ _ _ x=>x.elim⟩
 ·obtain ⟨rfl,q⟩:=q;exact o e σ' a p q r d
theorem trI_end{c:Code}{Q:Post}(x:Tr (F.env none) c O ds h Q):Lc F c none O ds h λi e O ds h=>i=none/\Q e O ds h:=
 IX (N9 (λ_ _ _ _ q=>⟨rfl,q⟩) x)
variable {dst:Option Nat} {ty:aV} {pos:String} {af:Array Edge} {gd:Option (Nat×Bool)}
theorem run_send{a x:Operand}{c:Nat}{v:aU}(ha:AL O a=.chan (some c))(hx:AL O x=v)(w:World):(execOp (AL O) ⟨dst,.send a x,ty,pos,af,gd⟩).runT P w #[]=(.ok (.comm #[scase c v (.tuple #[])] true .send) w,#[]):=by
 subst hx;show (Result.ok (Next.comm #[{ chan:=AL O a,send:=some (AL O x),zero:=.tuple #[] }] true .send) w,#[])=_;rw [ha];rfl
theorem run_recv{a:Operand}{c:Nat}{t e:aV}{d:ChanDir}{ok:Bool}{z:aU}{inf:TypeInfo}(ht:P.underlying t=some (.chan d e))(hi:P.info? e=some inf)(hz:inf.zero=some z)(ha:AL O a=.chan (some c))(w:World) :
  (execOp (AL O) ⟨dst,.recv t a ok,ty,pos,af,gd⟩).runT P w #[]=(.ok (.comm #[rcase c z] true (.recv ok)) w,#[]):=by
 have b:(zeroValue e).run P w=.ok z w:=by
  unfold zeroValue typeInfo;simp only [Sem.run_bind,program,hi];simp [Sem.run,hi,hz]
 have f:(underlying t).run P w=.ok (.chan d e) w:=run_underlying ht w;rw [Sem.runT_eq];unfold execOp;simp [b,f,ha,rcase]
theorem R1{a:Operand}{c:Nat}{t e:aV}{d:ChanDir}{ok:Bool}{z:aU}(ht:P.underlying t=some (.chan d e))(hz:(P.info? e).map (·.zero)=some (some z))(ha:AL O a=.chan (some c))(w:World) :
  (execOp (AL O) ⟨dst,.recv t a ok,ty,pos,af,gd⟩).runT P w #[]=(.ok (.comm #[rcase c z] true (.recv ok)) w,#[]):=by
 obtain ⟨b,f,g⟩:=Option.map_eq_some_iff.1 hz;exact run_recv ht f g ha w
theorem run_go{x:Operand}{f:Fn}{cap:Array aU}{tys:Array aV}(hx:AL O x=.func f #[] cap)(w:World):(execOp (AL O) ⟨dst,.go ⟨.value x,#[],tys⟩,ty,pos,af,gd⟩).runT P w #[]=(.ok (.spawn { target:=.fn f cap,args:=#[] }) w,#[]):=by
 have e:resolve (AL O) ⟨.value x,#[],tys⟩ ty=(pure { target:=.fn f cap,args:=#[] }:Sem Deferred):=by
  unfold resolve;simp only [hx,Deferred.ofValue];simp
 unfold execOp;simp only [e];rfl
variable {E:F8 P} {T:(Nat->aU)->List Deferred->V->Prop}
theorem U7{t e:aV}{d:ChanDir}{n:Operand}(ht:P.underlying t=some (.chan d e))(hi0:(P.info? e).isSome=true)(hn:AL O n=.int .i64 0)
  (k:∀r h',h r=none->h.Le h'->h' r=some (true,.chan 0 #[] false 0 0 false)->(∀b,b≠r->h' b=h b)->T (putS O dst (.chan (some r))) ds h'):BS E ⟨dst,.makeChan t n,ty,pos,af,gd⟩ O ds h T:=by
 unfold BS execOp;refine FE ?_;unfold Instr.makeChan;rw [hn];refine AG _ _ (Ao ?_);refine AG _ _ (Ak ht ?_);simp only [];obtain ⟨c,f⟩:=Option.isSome_iff_exists.1 hi0;refine AG _ _ (Cy f ?_);rw [aS (by simp [IntKind.max];decide)];refine AG _ _ ?_;exact λr a=>k r _ a (V.Le.new a _ _) (V.set_same _ _ _ _) λb g=>V.set_ne _ _ _ g
theorem trL_def{ops:Array Oper}{l:List Oper}{o:Oper}{Q:Post}(hg:o.guard=none)(hrd:E.rd=none)(hd:DK o.dst E.N=true)(x:BS E o O ds h λσ' ds' h'=>DI E ops l σ' ds' h' Q):DI E ops (o ::l) O ds h Q:=
 trL_op hg (.inl hrd) hd x
theorem RI{x:Operand}{c:Nat}{tys:Array aV}{bs:Array Bool}(hx:AL O x=.chan (some c))(hb:(#[x].map fun | .const _=>true | _=>false)=bs)(k:T (putS O dst undef) (LG tys ty bs c ::ds) h) :
  BS E ⟨dst,.defer ⟨.builtin .close,#[x],tys⟩,ty,pos,af,gd⟩ O ds h T:=by
 unfold BS execOp;simp only [];refine AG _ _ ?_;unfold resolve;simp only [];refine Ao (Ao ?_);have e:(#[x].map (AL O):Array aU)=#[.chan (some c)]:=by simp [hx]
 rw [e];subst hb;exact k
end
section
variable {d m:Int} {gs:List Good} {ms:List AI} {cs:List AP} {k c:Nat}
theorem Wu(hk:k<2 ^ cs.length)(h:DY d gs ms (Ci cs (k:Int) cs.length) m=true) :
  some (IY c (C5 d m gs ms cs k (2 ^ cs.length-k)))=some (IY c (C5 d m gs ms cs (k+1) (2 ^ cs.length-(k+1)))):=by
 rw [show 2 ^ cs.length-k=(2 ^ cs.length-(k+1))+1 by omega,PN h]
theorem Wv(hk:k<2 ^ cs.length)(h:DY d gs ms (Ci cs (k:Int) cs.length) m=false) :
  some (IY c (C5 d m gs ms cs k (2 ^ cs.length-k)))=some (.send c (BL (k:Int) cs.length) (IY c (C5 d m gs ms cs (k+1) (2 ^ cs.length-(k+1))))):=by
 rw [show 2 ^ cs.length-k=(2 ^ cs.length-(k+1))+1 by omega,PO h];rfl
theorem Zh(hk:2 ^ cs.length<=k):some (IY c (C5 d m gs ms cs k (2 ^ cs.length-k)))=some (.close c .done):=by
 rw [show 2 ^ cs.length-k=0 by omega];rfl
theorem U8(h:(k:Int)<(2:Int) ^ ((cs.length:Int)).toNat):k<2 ^ cs.length:=by
 have:=Ta cs.length
 rw [Int.toNat_natCast] at h;omega
theorem clash_ge(h:¬(k:Int)<(2:Int) ^ ((cs.length:Int)).toNat):2 ^ cs.length<=k:=by
 have:=Ta cs.length
 rw [Int.toNat_natCast] at h;omega
end
end Go.Ns
namespace Go.Ns
theorem U9{d m:Int}{gs:List Good}{ms:List AI}{cs:List AP}(b:CA d m gs ms cs):Ah d m gs ms cs=0:=by
 unfold Ah;refine Fc λj _ a=>?_
 have:j=0\/j=1\/j=2\/j=3:=Y
 rcases this with rfl | rfl | rfl | rfl
 ·show Gc d m=0;unfold Gc;have:=b.days;have:=b.most;rw [aS Y]
 ·show EA gs=0;unfold EA;have:=b.glen;rw [aS Y];exact Fc λj _ a=>b.good j Y
 ·show DT d gs ms=0;unfold DT;have:=b.mlen;rw [aS Y];exact Fc λj _ a=>b.move j Y
 ·show D2 d gs cs=0;unfold D2;have:=b.clen;rw [aS Y];exact Fc λj _ a=>b.count j Y
section
variable {d m:Int} {gs:List Good} {ms:List AI} {cs:List AP}
end
section
variable {d m:Int} {gs:List Good} {ms:List AI} {cs:List AP} {picks:List Int} {bits:Int}
end
end Go.Ns
namespace Go.Ns
open Go.Conc
section
variable {P:Program} {E:F8 P} {O:Nat->aU} {ds:List Deferred} {h:V} {T:(Nat->aU)->List Deferred->V->Prop} {dst:Option Nat} {ty:aV} {pos:String} {af:Array Edge} {gd:Option (Nat×Bool)}
theorem Ww{s:aW}{i:Nat}(h:i<s.size):((s[i]'h).toNat:Int)=(bytesOf s).getD i 0:=by
 have a:i<(bytesOf s).length:=by rw [CZ];exact h
 rw [EN 0 a];exact (List.getElem_map (l:=s.data.toList) (f:=λb=>(b.toNat:Int)) (h:=a)).symm
theorem PQ{t:aV}{x ix:Operand}{s:aW}{kd:IntKind}{i:Int}(ht:Lk P t=true)(hx:AL O x=.string s)(hi:AL O ix=.int kd i)(h0:0<=i)(h1:i<s.size)(k:T (putS O dst (.int .u8 ((bytesOf s).getD i.toNat 0))) ds h) :
  BS E ⟨dst,.index t x ix,ty,pos,af,gd⟩ O ds h T:=Rb ht hx hi h0 h1 (by rw [Ww];exact k)
end
theorem VA{s:aW}(h:¬(1<=(s.size:Int)/\(s.size:Int)<=10)):D1 s=false:=by unfold D1;rw [decide_eq_false h,Bool.and_false]
section
variable {d m:Int} {gs:List Good} {ms:List AI} {cs:List AP}
end
theorem B9.cons{h:V}{l:List Sl}{v:aU}{xs:List Int}(a:AD h v 1 eI xs)(b:B9 h l):B9 h ((v,xs) ::l):=λk=>by
 cases k with
 | zero=>exact a
 | succ k=>exact b k
theorem Wx{a b:List Sl}{k:Nat}(h:(CH a).take k=(CH b).take k)(ha:k<a.length)(hb:k<b.length)(e:(a.getD k Sl.z).2=(b.getD k Sl.z).2):(CH a).take (k+1)=(CH b).take (k+1):=
 Or [] h (by rw [C8];exact ha) (by rw [C8];exact hb) (by rw [FV ha,FV hb,e])
theorem Zi{a b:List Sl}{k:Nat}(h:(CH a).take k=(CH b).take k)(hk:¬(k:Int)<a.length)(hl:(a.length:Int)=b.length):CH a=CH b:=by
 rw [List.take_of_length_le (by rw [C8];omega),List.take_of_length_le (by rw [C8];omega)] at h;exact h
theorem lists_ne{a b:List Sl}(h:¬(a.length:Int)=b.length):¬CH a=CH b:=λe=>h (by rw [<-C8,<-C8,e])
theorem Wy{a b:List Sl}{k:Nat}(ha:k<a.length)(hb:k<b.length)(e:¬(a.getD k Sl.z).2=(b.getD k Sl.z).2):¬CH a=CH b:=λq=>e (by rw [<-FV ha,<-FV hb,q])
end Go.Ns
namespace Go.Ns
open Go.Conc
def DQ:List Good:=[⟨⟨#[116,101,97]⟩,5,4,3,3⟩,⟨⟨#[114,105,99,101]⟩,2,10,5,6⟩]
def Db:List AI:=[⟨0,0,2,4,4⟩,⟨1,0,3,2,3⟩,⟨2,1,4,0,1⟩,⟨0,1,5,10,10⟩]
def Dc:List AP:=[⟨0,10,4,5⟩,⟨1,10,5,5⟩]
theorem EE:∀k,(DQ.getD k Good.z).name.size<=1000
 | 0=>aC
 | 1=>aC
 | k+2=>by rw [DN (by simp [DQ])];decide
theorem fill_sl7{v0 v1 v2 v3 v4 v5 v6:aU}(h0:v0.cells=#[v0])(h1:v1.cells=#[v1])(h2:v2.cells=#[v2])(h3:v3.cells=#[v3])(h4:v4.cells=#[v4])(h5:v5.cells=#[v5])(h6:v6.cells=#[v6]):Instr.fill (λi=>some (i*1,1)) ((Array.range (7*1)).map (#[Value.slice none 0 0][·% #[Value.slice none 0 0].size]!)) [(0,v0),(1,v1),(2,v2),(3,v3),(4,v4),(5,v5),(6,v6)]=some #[v0,v1,v2,v3,v4,v5,v6]:=by
 have e:((Array.range (7*1)).map (#[Value.slice none 0 0][·% #[Value.slice none 0 0].size]!))=#[Value.slice none 0 0,Value.slice none 0 0,Value.slice none 0 0,Value.slice none 0 0,Value.slice none 0 0,Value.slice none 0 0,Value.slice none 0 0]:=aB
 rw [e];simp [Instr.fill,h0,h1,h2,h3,h4,h5,h6]
theorem AD.isSl{U:Type}{h:V}{v:aU}{n:Nat}{enc:U->Array aU}{xs:List U}(x:AD h v n enc xs):∀k i,v≠.int k i:=by
 obtain ⟨a,b,rfl,_⟩:=x;intro k i e;cases e
theorem AD.across{h h':V}{v:aU}{xs:List Int}{r:Nat}{a b c:aU}{T:aV}(x:AD h v 1 eI xs)(hb:h r=some (true,.cells #[.int .i64 10,.int .i64 1,a,b,c] T (0,0)))(ho:∀y,y≠r->h' y=h y)
  (ha:∀k i,a≠.int k i) (hb':∀k i,b≠.int k i) (hc:∀k i,c≠.int k i) (hx:∀o,o<5->∃i:Fin xs.length,(o+i.val=0->xs[i.val]≠10)/\(o+i.val=1->xs[i.val]≠1)):AD h' v 1 eI xs:=by
 obtain ⟨K,u,N,l,O,B⟩:=x;refine ⟨K,u,N,l,O,λi C=>?_⟩;obtain ⟨y,e,D,P⟩:=B i C;refine ⟨y,e,D,P.same (ho y ?_)⟩;rintro rfl;have m:∀j (n:j<xs.length),e+j<5/\(#[Value.int .i64 10,.int .i64 1,a,b,c]:Array aU).extract (e+j) (e+j+1)=eI xs[j]:=λj n=>by
  obtain ⟨S,E,w,Q⟩:=B j n;rw [D] at w;simp only [Option.some.injEq,Addr.mk.injEq,and_true] at w;obtain ⟨rfl,rfl⟩:=w;obtain ⟨p,U,t,f,A,F,H⟩:=Q;rw [hb] at A;simp only [Option.some.injEq,Prod.mk.injEq,Obj.cells.injEq] at A;obtain ⟨_,rfl,_⟩:=A;rw [Nat.mul_one] at F H;exact ⟨by simp at F;omega,H⟩
 obtain ⟨⟨j,n⟩,q,s⟩:=hx e (by have:=(m i C).1;omega);obtain ⟨R,g⟩:=m j n;simp only at q s;generalize e+j=o at R g q s;generalize xs[j]=z at g q s
 have:o=0\/o=1\/o=2\/o=3\/o=4:=Y
 rcases this with rfl | rfl | rfl | rfl | rfl
 ·have d:(#[.int .i64 10]:Array aU)=#[.int .i64 z]:=g;simp at d;exact q rfl d.symm
 ·have d:(#[.int .i64 1]:Array aU)=#[.int .i64 z]:=g;simp at d;exact s rfl d.symm
 ·have d:(#[a]:Array aU)=#[.int .i64 z]:=g;simp at d;exact ha _ _ d
 ·have d:(#[b]:Array aU)=#[.int .i64 z]:=g;simp at d;exact hb' _ _ d
 ·have d:(#[c]:Array aU)=#[.int .i64 z]:=g;simp at d;exact hc _ _ d
def DE(d m:Int)(gs:List Good)(ms:List AI)(cs:List AP):Int:=if Ah d m gs ms cs=0 then ((AY d gs ms cs m).length:Int) else 0
end Go.Ns
namespace Go.Ns
open Go.Conc
section
variable {P:Program} {E:F8 P} {O:Nat->aU} {ds:List Deferred} {h:V} {T:(Nat->aU)->List Deferred->V->Prop} {dst:Option Nat} {ty:aV} {pos:String} {af:Array Edge} {gd:Option (Nat×Bool)}
end
section
variable {d m:Int} {gs:List Good} {ms:List AI} {cs:List AP} {f y l:List Int}
end
end Go.Ns
namespace Go.Ns
open Go.Conc
section
variable {P:Program} {E:F8 P} {O:Nat->aU} {ds:List Deferred} {h:V} {T:(Nat->aU)->List Deferred->V->Prop} {dst:Option Nat} {ty:aV} {pos:String} {af:Array Edge} {gd:Option (Nat×Bool)}
end
end Go.Ns
namespace Go.Ns
open Go.Conc Go Go.RowKit
section
variable {d m:Int} {gs:List Good} {ms:List AI} {cs:List AP}
end
section
variable {P:Program} {E:F8 P} {O:Nat->aU} {ds:List Deferred} {h:V} {T:(Nat->aU)->List Deferred->V->Prop} {dst:Option Nat} {ty:aV} {pos:String} {af:Array Edge} {gd:Option (Nat×Bool)}
theorem ok_neqB{xt yt:aV}{x y:Operand}{a b:Bool}(hx:AL O x=.bool a)(hy:AL O y=.bool b)(he:Mm P 1 xt (.bool a) (.bool b)=some (a==b))(k:T (putS O dst (.bool (a !=b))) ds h):BS E ⟨dst,.binOp .neq xt x y yt,ty,pos,af,gd⟩ O ds h T:=by
 unfold BS execOp;simp only [hx,hy];refine FE (AG _ _ ?_);have c:∀(Q:Unit->V->Prop),Q () h->(eqGuard .neq xt x y (.bool a) (.bool b)).gh P h Q:=λQ q=>q;refine c _ ?_;show Sem.gh P (do pure (Value.bool (!(<-Op.equal xt (.bool a) (.bool b)))):Sem aU) h _;refine AG _ _ ?_;exact It 1 _ _ _ _ (a==b) h _ aC he k
end
end Go.Ns
namespace Go.Ns
open Go.Conc Go Go.RowKit
end Go.Ns
namespace Go.Ns
open Go.Conc
end Go.Ns
namespace Go.Ns
open Go.Conc Go Go.RowKit
section
variable {d m:Int} {gs:List Good} {ms:List AI} {cs:List AP}
end
section
variable {d m:Int} {gs:List Good} {ms:List AI} {cs:List AP}
end
end Go.Ns
namespace Go.Ns
open Go.Conc
section
variable {d m:Int} {gs:List Good} {ms:List AI} {cs:List AP}
end
end Go.Ns
namespace Go.Ns
open Go.Conc
end Go.Ns
namespace Go.Ns
open Go.Conc
section
variable {d m:Int} {gs:List Good} {ms:List AI} {cs:List AP}
end
end Go.Ns
namespace Go.Ns
open Go.Conc
section
variable {P:Program} {E:F8 P} {O:Nat->aU} {ds:List Deferred} {h:V} {T:(Nat->aU)->List Deferred->V->Prop}
variable {dst:Option Nat} {ty:aV} {pos:String} {af:Array Edge} {gd:Option (Nat×Bool)}
end
section
variable {d m:Int} {gs:List Good} {ms:List AI} {cs:List AP}
end
end Go.Ns
namespace Go.Ns
open Go.Conc
section
variable {d m:Int} {gs:List Good} {ms:List AI} {cs:List AP}
end
end Go.Ns
namespace Go.Ns
open Go.Conc
section
variable {d m:Int} {gs:List Good} {ms:List AI} {cs:List AP} {t:Nat}
end
section
variable {d m:Int} {gs:List Good} {ms:List AI} {cs:List AP} {t:Nat}
end
section
variable {d m:Int} {gs:List Good} {ms:List AI} {cs:List AP} {t:Nat}
end
section
variable {d m:Int} {gs:List Good} {ms:List AI} {cs:List AP} {t:Nat}
end
end Go.Ns
namespace Go.Ns
open Go.Conc
theorem ba_refl(a:aW):(a==a)=true:=by
 cases a with
 | mk d=>show (d==d)=true;simp
section
variable {d m:Int} {gs:List Good} {ms ms2:List AI} {cs cs2:List AP}
end
end Go.Ns
namespace Go.Ns
open Go.Conc
section
variable {ms:List AI} {cs:List AP} {f y l:List Int}
end
section
variable {d m:Int} {gs:List Good} {ms:List AI} {cs:List AP}
end
end Go.Ns
namespace Go.Ns
open Go.Conc
section
variable {d m:Int} {gs:List Good} {ms:List AI} {cs:List AP} {kd g n:Int}
end
end Go.Ns
namespace Go.Ns
open Go.Conc
section
variable {d m:Int} {gs:List Good} {ms:List AI} {cs:List AP}
end
end Go.Ns
namespace Go.Ns
open Go.Conc
section
variable {U:Type} {h h' h0:V} {v v':aU} {t t':aV} {n:Nat} {enc:U->Array aU} {ys:List U}
end
theorem Wz{P:Program}{E:F8 P}{O:Nat->aU}{ds:List Deferred}{h:V}{T:(Nat->aU)->List Deferred->V->Prop}{dst:Option Nat}{ty:aV}{pos:String}{af:Array Edge}{gd:Option (Nat×Bool)}{U:Type}
  {s x:aV} {o1 o2:Operand} {h0:V} {w:aU} {r e n bytes:Nat} {enc:U->Array aU} {ys:List U} (ht:JT P s x=some (e,n,bytes)) (h1:AL O o1=.slice (some ⟨r,0,none⟩) 0 0) (h2:AL O o2=w)
  (hv:AV h0 h (.slice (some ⟨r,0,none⟩) 0 0) e n enc ([]:List U)) (hw:AD h w n enc ys) (l0:∀q,h q=none->h0 q=none) (hb:(2*(([]:List U).length+ys.length)+512)*bytes<=2 ^ 48) (hfine:∀y ∈ ys,(enc y).toList.all (·.oneCell')=true)
  (k:∀v' h',AV h0 h' v' e n enc ys->HT h h' (.slice (some ⟨r,0,none⟩) 0 0) v'->h.Le h'->T (putS O dst v') ds h'):BS E ⟨dst,.call ⟨.builtin .append,#[o1,o2],#[s,x]⟩,ty,pos,af,gd⟩ O ds h T:=
 Of ht h1 h2 hv hw l0 hb hfine λv' h' o a f g=>k v' h' o ⟨a,f⟩ (.of λb y hb=>by
  by_cases e:b=r
  ·subst e;rcases hv with ⟨q,_⟩ | ⟨m,i,c,q,_,d,p,_⟩
   ·cases q
   ·simp only [Value.slice.injEq,Option.some.injEq,Addr.mk.injEq,and_true] at q;obtain ⟨rfl,_,rfl⟩:=q;obtain ⟨j,l,t⟩:=g b c rfl d;rw [d] at hb;cases hb;rw [l,Array.eq_empty_of_size_eq_zero (show c.size=0 by omega),Array.eq_empty_of_size_eq_zero (show j.size=0 by omega)]
  ·exact a b y hb λq=>e (by simpa [back] using q.symm))
def Zj(hs:V)(k0 ln:Nat)(c:Array aU)(t:aV)(k:Nat)(v:aU)(h:V):Prop:=k=k0->∃r,v=.slice (some ⟨r,0,none⟩) ln ln/\hs r=none/\h r=some (true,.cells c t (0,0))
theorem Zj.mono(hs:V)(k0 ln:Nat)(c:Array aU)(t:aV):∀k v h1 h2,V.Le h1 h2->Zj hs k0 ln c t k v h1->Zj hs k0 ln c t k v h2:=λ_ _ _ _ l x e=>by
 obtain ⟨r,a,b,d⟩:=x e;exact ⟨r,a,b,l.keep d rfl⟩
theorem Zk{P:Program}{E:F8 P}{O:Nat->aU}{ds:List Deferred}{hs hx:V}{dst:Option Nat}{ty:aV}{pos:String}{af:Array Edge}{gd:Option (Nat×Bool)}{t:aV}{len n k0 k:Nat}{z cells:Array aU}{e:aV}{parts:Array (Nat×Operand)}
  (h0:Dj P t=some (n,z,e)) (hl:len*n<=2 ^ 24) (hn:(len*n=0)=False) (hf:Instr.fill (λi=>some (i*n,n)) ((Array.range (len*n)).map (z[·%z.size]!)) (parts.map λ(i,x)=>(i,AL O x)).toList=some cells) (l:hs.Le hx) :
  BS E ⟨dst,.buildSlice t len parts,ty,pos,af,gd⟩ O ds hx λσ' ds' h'=>ds'=ds/\∃v,σ'=putS O dst v/\hx.Le h'/\Zj hs k0 len cells e k v h':=
 Aa h0 hl hn hf λr h' a le b _=>⟨rfl,_,rfl,le,λ_=>⟨r,rfl,V.Le.nothing l a,b⟩⟩
theorem IZ{U:Type}(z:U)(a b:List U)(k:Nat):(a++b).getD k z=if k<a.length then a.getD k z else b.getD (k-a.length) z:=by
 simp only [List.getD_eq_getElem?_getD,List.getElem?_append];split <;> rfl
structure PS where
 f:Sl
 y:Sl
 l:Sl
def PS.z:PS:=⟨Sl.z,Sl.z,Sl.z⟩
def Fj(x:Int×Int):Array aU:=#[.int .i64 x.1,.int .i64 x.2]
end Go.Ns
namespace Go.Ns
open Go.Conc
section
variable {P:Program} {E:F8 P} {O:Nat->aU} {ds:List Deferred} {h:V} {T:(Nat->aU)->List Deferred->V->Prop} {dst:Option Nat} {ty:aV} {pos:String} {af:Array Edge} {gd:Option (Nat×Bool)}
theorem Kr{t:aV}{x o:Operand}{m n b off hi:Nat}(ht:IN P t=some (m,n))(hx:AL O x=.pointer (some ⟨b,off,none⟩))(ho:∃kd,AL O o=.int kd hi)(h2:hi<=m)(k:T (putS O dst (.slice (some ⟨b,off,none⟩) hi m)) ds h) :
  BS E ⟨dst,.slice t x none (some o) none,ty,pos,af,gd⟩ O ds h T:=by
 obtain ⟨kd,e⟩:=ho;unfold BS execOp;simp only [hx];refine FE ?_;unfold IN at ht;unfold Instr.sliceAt;cases a:P.underlying t with
 | none=>rw [a] at ht;cases ht
 | some d=>
  rw [a] at ht;cases d <;> first | (cases ht;done) | skip
  rename_i f
  simp only [Option.map_eq_some_iff,Prod.mk.injEq] at ht;obtain ⟨g,c,rfl,rfl⟩:=ht;refine AG _ _ (Ak a ?_);dsimp only;refine AG _ _ (Ao ?_);unfold Instr.sliceBounds;simp only [Option.map_some,Option.map_none,e,Bool.false_eq_true,↓reduceIte];refine AG _ _ (AG _ _ (Ao (AG _ _ (CY Y Y (AG _ _ (Ao (Ao ?_)))))));refine AG _ _ (Do c (Ao ?_));simp only [Nat.sub_zero,Nat.zero_mul,IA,Nat.add_zero,ite_self,Int.toNat_natCast];exact k
end
theorem JE{b:Bool}(h:(!b)=true):b=false:=by simpa using h
theorem JF{b:Bool}(h:(!b)=false):b=true:=by simpa using h
end Go.Ns
namespace Go.Ns
def Co(l:List Int):Array aU:=#[.int .i64 (l.getD 0 0),.int .i64 (l.getD 1 0),.int .i64 (l.getD 2 0),.int .i64 (l.getD 3 0)]
theorem Fv(l:List Int):(Value.agg (Co l)).cells.size=4:=rfl
theorem Fw(l:List Int):Value.fine (.agg (Co l))=true:=rfl
theorem HA(l:List Int):0+4<=(Co l).size:=Nat.le_refl 4
theorem HB(l m:List Int):BV (Co l) 0 (Value.agg (Co m)).cells.toList=Co m:=by
 simp [Value.cells,Co,BV]
theorem MI{l:List Int}{i:Nat}(h:i<4):(Co l)[0+i*1]? =some (.int .i64 (l.getD i 0)):=by
 match i,h with
 | 0,_=>rfl
 | 1,_=>rfl
 | 2,_=>rfl
 | 3,_=>rfl
theorem m4_sl{h:V}{r n:Nat}{p:Bool}{l:List Int}{t:aV}{f:Nat×Nat}(hb:h r=some (p,.cells (Co l) t f))(hl:l.length<=4)(hn:n=l.length):AD h (.slice (some ⟨r,0,none⟩) n 4) 1 eI l:=by
 subst hn;refine ⟨some ⟨r,0,none⟩,4,rfl,hl,Y,λi a=>⟨r,0,rfl,p,_,t,f,hb,?_,?_⟩⟩
 ·show 0+i*1+1<=4;omega
 ·rw [<-EN 0 a];have b:i<4:=Y
  match i,b with
  | 0,_=>rfl
  | 1,_=>rfl
  | 2,_=>rfl
  | 3,_=>rfl
theorem m4_copy{l:List Int}(h:l.length<=4):BV (Co []) 0 (C7 eI l)=Co l:=by
 match l,h with
 | [],_=>rfl
 | [a],_=>rfl
 | [a,b],_=>rfl
 | [a,b,c],_=>rfl
 | [a,b,c,d],_=>rfl
end Go.Ns
namespace Go.Ns
def Bq(nm:aW)(cost n:Int):List Good:=[⟨nm,cost,1,n,n⟩]
structure Yp(d:Int)(ms:List AI):Prop where
 len:ms.length<=6
 mv:∀k,k<ms.length->(1<=(ms.getD k AI.z).kind/\(ms.getD k AI.z).kind<=4)/\(ms.getD k AI.z).good=0/\(1<=(ms.getD k AI.z).day/\(ms.getD k AI.z).day<=d)/\Fq ms k<=(ms.getD k AI.z).day/\(ms.getD k AI.z).high=(ms.getD k AI.z).low/\(0<=(ms.getD k AI.z).low/\(ms.getD k AI.z).low<=99)
def Hz(n:Int)(ms:List AI)(i:Nat):AZ:=⟨λk=>if k=0 then n else 0,λk=>if k<i then (ms.getD k AI.z).low else 0,λ_=>false⟩
section
variable {d cost n dy:Int} {nm:aW} {ms:List AI}
theorem Zl(hn:D1 nm=true)(hc:0<=cost/\cost<=999)(h0:0<=n/\n<=99)(hd:1<=d/\d<=99)(hm:Yp d ms):CA d 0 (Bq nm cost n) ms []:=by
 refine ⟨hd,aC,by simp [Bq],λk h=>?_,hm.len,λk h=>?_,aD,λk h=>by cases h⟩
 ·have:k=0:=by simp [Bq] at h;exact h
  subst this;have e:(Bq nm cost n).getD 0 Good.z=⟨nm,cost,1,n,n⟩:=rfl;unfold I2;rw [e];rw [aS (by rw [hn];simp),aS aD];exact aS (show¬((¬(0<=cost/\cost<=999)\/¬((1:Int)<=1/\(1:Int)<=20))\/¬Gy n n) by unfold Gy;omega)
 ·obtain ⟨a,b,c,e,f,g⟩:=hm.mv k h;have i:((Bq nm cost n).length:Int)-1=0:=rfl;unfold GI;rw [i,aS Y,aS Y,aS Y,aS Y,aS (by unfold Gy;omega)]
theorem R2(x:Int):E6 x x=[x]:=by
 unfold E6;rw [show (x-x+1).toNat=1 by omega];simp [BW]
theorem PR{ag:AZ->Bool}(hm:Yp d ms):∀f i,i+f=ms.length->A8 ag ms 0 f i (Hz n ms i)=if ag (Hz n ms ms.length) then [Hz n ms ms.length] else []
 | 0,i,h=>by
  have:i=ms.length:=Y
  subst this;rfl
 | f+1,i,h=>by
  obtain ⟨a,b,c,e,g,_⟩:=hm.mv i Y;rw [EB,g,R2];have j:EP ms (i:Int)=false:=by
   unfold EP;exact decide_eq_false (λq=>by have:=q.2;rw [Int.toNat_natCast] at this;omega)
  have l:(Hz n ms i).setMove i (ms.getD i AI.z).low false=Hz n ms (i+1):=by
   unfold AZ.setMove AZ.setMany AZ.setLie Hz;simp only [AZ.mk.injEq,true_and];refine ⟨funext λk=>?_,funext λk=>?_⟩
   ·by_cases q:k=i
    ·subst q;rw [aT rfl,aT Y]
    ·rw [aS q];by_cases r:k<i
     ·rw [aT r,aT Y]
     ·rw [aS r,aS Y]
   ·split <;> rfl
  simp only [List.flatMap_cons,List.flatMap_nil,List.append_nil];unfold B5;rw [j,l,PR hm f (i+1) Y];simp
theorem W0(hm:Yp d ms):AY d (Bq nm cost n) ms [] 0=if BI d 1 ms [] (Hz n ms ms.length) then [Hz n ms ms.length] else []:=by
 have e:(Bq nm cost n).getD 0 Good.z=⟨nm,cost,1,n,n⟩:=rfl;show BT (BI d 1 ms []) (Bq nm cost n) ms 0 1 0 AZ.zero=_;rw [Eo,e];simp only [R2,List.flatMap_cons,List.flatMap_nil,List.append_nil];have a:AZ.zero.setFirst 0 n=Hz n ms 0:=by
  unfold AZ.setFirst AZ.zero Hz;simp
 rw [a];exact PR hm ms.length 0 Y
end
end Go.Ns
namespace Go.Ns
open Go.Conc
section
variable {P:Program} {E:F8 P} {O:Nat->aU} {ds:List Deferred} {h:V} {T:(Nat->aU)->List Deferred->V->Prop} {dst:Option Nat} {ty:aV} {pos:String} {af:Array Edge} {gd:Option (Nat×Bool)}
theorem Yq{xt yt:aV}{x y:Operand}{a b:aW}(hx:AL O x=.string a)(hy:AL O y=.string b)(hs:a.size+b.size<=1000000)(k:T (putS O dst (.string (a++b))) ds h):BS E ⟨dst,.binOp .add xt x y yt,ty,pos,af,gd⟩ O ds h T:=by
 unfold BS execOp;simp only [hx,hy];have e:Op.stringOp .add a b=(pure (.string (a++b)):Sem aU):=by
  show (if ((a.size+b.size:Nat):Int)>IntKind.i64.max then _ else _)=_;rw [aS (by show¬((a.size+b.size:Nat):Int)>9223372036854775807;omega)]
 refine FE (AG _ _ ?_);show Sem.gh P (Op.stringOp .add a b) h _;rw [e];exact k
theorem Zm{t:aV}{x lo hi:Operand}{s:aW}{kd kd':IntKind}{a b:Int}(ht:Lk P t=true)(hx:AL O x=.string s)(ha:AL O lo=.int kd a)(hb:AL O hi=.int kd' b)(h1:0<=a/\a<=b)(h2:b<=s.size)(k:T (putS O dst (.string (s.extract a.toNat b.toNat))) ds h) :
  BS E ⟨dst,.slice t x (some lo) (some hi) none,ty,pos,af,gd⟩ O ds h T:=by
 unfold BS execOp;simp only [hx];refine FE ?_;unfold Lk at ht;cases c:P.underlying t with
 | none=>rw [c] at ht;cases ht
 | some d=>
  rw [c] at ht;cases d <;> first | (cases ht;done) | skip
  unfold Instr.sliceAt;refine AG _ _ (Ak c ?_);unfold Instr.slice;refine AG _ _ (Ak c ?_);dsimp only;unfold Instr.sliceBounds;simp only [Option.map_some,Option.map_none,ha,hb,Bool.false_eq_true,↓reduceIte,Option.isSome_none];obtain ⟨e,rfl⟩:∃e:Nat,a=e:=⟨a.toNat,Y⟩;obtain ⟨f,rfl⟩:∃f:Nat,b=f:=⟨b.toNat,Y⟩;refine AG _ _ (AG _ _ (Ao (AG _ _ (CY Y Y (AG _ _ (CY Y Y (Ao ?_)))))));exact Ao (by rw [Int.toNat_natCast,Int.toNat_natCast] at k;exact k)
end
section
variable {P:Program} {E:F8 P} {O:Nat->aU} {ds:List Deferred} {h:V} {T:(Nat->aU)->List Deferred->V->Prop} {dst:Option Nat} {ty:aV} {pos:String} {af:Array Edge} {gd:Option (Nat×Bool)}
theorem Mx{U:Type}{t:aV}{x:Operand}{olo ohi:Option Operand}{n:Nat}{enc:U->Array aU}{xs:List U}{v:aU}{hk:V}(lo hi:Nat)(ht:Dl P t=some n)(hs:AD hk v n enc xs)(hx:AL O x=v)
  (hlo:match olo with | none=>lo=0 | some o=>∃kd,AL O o=.int kd lo) (hhi:match ohi with | none=>hi=xs.length | some o=>∃kd,AL O o=.int kd hi) (h1:lo<=hi) (h2:hi<=xs.length)
  (k:∀v',AD hk v' n enc ((xs.take hi).drop lo)->T (putS O dst v') ds h):BS E ⟨dst,.slice t x olo ohi none,ty,pos,af,gd⟩ O ds h T:=by
 have b:=hs;obtain ⟨a,c,rfl,d,_,_⟩:=b;exact KD lo hi ht d hx hlo hhi h1 h2 (k _ (hs.part h1 h2))
end
def figsS:aW:=⟨#[48,49,50,51,52,53,54,55,56,57]⟩
def Kg(n:Int):aW:=⟨#[UInt8.ofNat (48+n.toNat)]⟩
theorem fig_ext{n:Int}(h:0<=n/\n<=9):figsS.extract n.toNat (n+1).toNat=Kg n:=by
 obtain ⟨k,rfl⟩:∃k:Nat,n=k:=⟨n.toNat,Y⟩;have a:k<=9:=Y
 rw [show ((k:Int)+1).toNat=k+1 by omega,Int.toNat_natCast];unfold Kg;rw [Int.toNat_natCast]
 match k,a with
 | 0,_=>decide
 | 1,_=>decide
 | 2,_=>decide
 | 3,_=>decide
 | 4,_=>decide
 | 5,_=>decide
 | 6,_=>decide
 | 7,_=>decide
 | 8,_=>decide
 | 9,_=>decide
theorem fig_ten{n:Int}(h:0<=n/\n<=9):n%10=n:=Y
theorem digS_nil{n:Int}:Kg n++(⟨#[]⟩:aW)=Kg n:=by simp [ByteArray.ext_iff,Kg]
def Bt(n:Int):aW:=(⟨#[103]⟩:aW)++Kg n
theorem gName_ok{n:Int}(h:0<=n/\n<=9):D1 (Bt n)=true:=by
 obtain ⟨k,rfl⟩:∃k:Nat,n=k:=⟨n.toNat,Y⟩;have a:k<=9:=Y
 unfold Bt Kg;rw [Int.toNat_natCast]
 match k,a with
 | 0,_=>decide
 | 1,_=>decide
 | 2,_=>decide
 | 3,_=>decide
 | 4,_=>decide
 | 5,_=>decide
 | 6,_=>decide
 | 7,_=>decide
 | 8,_=>decide
 | 9,_=>decide
theorem Tf{nm:aW}{cost n:Int}(h:nm.size<=1000)(k:Nat):((Bq nm cost n).getD k Good.z).name.size<=1000:=by
 match k with
 | 0=>exact h
 | k+1=>exact Nat.zero_le _
end Go.Ns
namespace Go.Ns
def R3(l h top many:Int):Prop:=((0<=l/\l<=h)/\h<=top)/\h-l<many
theorem any_of{U:Type}{p:U->Bool}{l:List U}{k:Nat}{d:U}(hk:k<l.length)(e:p (l.getD k d)=true):l.any p=true:=List.any_eq_true.2 ⟨_,CG hk,e⟩
theorem any_end{U:Type}{p:U->Bool}{l:List U}{k:Nat}(h:(l.take k).any p=false)(hk:l.length<=k):l.any p=false:=by rwa [List.take_of_length_le hk] at h
end Go.Ns
namespace Go.Ns
structure AC where
 nm:aW
 cost:Int
 stock:Int
 low:Int
 high:Int
 pv:aU
 fits:List Int
structure BM where
 wv:aU
 parts:List Int
 low:Int
 high:Int
def A4(x:AC):Array aU:=#[.string x.nm,.int .i64 x.cost,.int .i64 x.stock,.int .i64 x.low,.int .i64 x.high,x.pv]
def B1(x:BM):Array aU:=#[x.wv,.int .i64 x.low,.int .i64 x.high]
def AC.z:AC:=⟨⟨#[]⟩,0,0,0,0,.slice none 0 0,[]⟩
def BM.z:BM:=⟨.slice none 0 0,[],0,0⟩
def BA(h:V)(qs:List AC):Prop:=∀k,AD h (qs.getD k AC.z).pv 1 eI (qs.getD k AC.z).fits
def A5(h:V)(us:List BM):Prop:=∀k,AD h (us.getD k BM.z).wv 1 eI (us.getD k BM.z).parts
theorem BA.le{h h':V}{qs:List AC}(x:BA h qs)(l:h.Le h'):BA h' qs:=λk=>(x k).le l
theorem A5.le{h h':V}{us:List BM}(x:A5 h us)(l:h.Le h'):A5 h' us:=λk=>(x k).le l
def apP(a b:Int)(x:Int×Int):Bool:=decide (x.1=a/\x.2=b\/x.1=b/\x.2=a)
def PT(l:List Int)(many:Int):Prop:=∀i,i<l.length->(0<=l.getD i 0/\l.getD i 0<=many-1)/\(0<i->l.getD ((i:Int)-1).toNat 0<l.getD i 0)
def W1(pls:Int)(qs:List AC)(k:Nat):Prop:=
 D1 (qs.getD k AC.z).nm=true/\((qs.take k).any (λy=>y.nm.toList==(qs.getD k AC.z).nm.toList))=false/\(0<=(qs.getD k AC.z).cost/\(qs.getD k AC.z).cost<=99)/\(0<=(qs.getD k AC.z).stock/\(qs.getD k AC.z).stock<=3)/\
  R3 (qs.getD k AC.z).low (qs.getD k AC.z).high 20 4/\PT (qs.getD k AC.z).fits pls
def PairOK(np:Nat)(pr:List (Int×Int))(k:Nat):Prop:=
 (0<=(pr.getD k (0,0)).1/\(pr.getD k (0,0)).1<=(np:Int)-1)/\(0<=(pr.getD k (0,0)).2/\(pr.getD k (0,0)).2<=(np:Int)-1)/\(pr.getD k (0,0)).1<=(pr.getD k (0,0)).2/\((pr.take k).any (λy=>(y.1==(pr.getD k (0,0)).1 && (y.2==(pr.getD k (0,0)).2 && true))))=false
def CQ(np:Nat)(m:List Int):Prop:=∀i,i<m.length->0<=m.getD i 0/\m.getD i 0<=(np:Int)-1
def OK(qs:List AC)(pr:List (Int×Int))(m:List Int)(i:Nat):Prop:=
 (i:Int) ∈ (qs.getD (m.getD i 0).toNat AC.z).fits/\(0<i->pr.any (apP (m.getD ((i:Int)-1).toNat 0) (m.getD i 0))=false)
def PU(pls:Int)(qs:List AC)(pr:List (Int×Int))(m:List Int):Prop:=(m.length:Int)=pls/\CQ qs.length m/\∀i,i<m.length->OK qs pr m i
def Yr(pls:Int)(qs:List AC):Prop:=(1<=(qs.length:Int)/\(qs.length:Int)<=5)/\∀k,k<qs.length->W1 pls qs k
def Ys(np:Nat)(pr:List (Int×Int)):Prop:=¬(5:Int)<pr.length/\∀k,k<pr.length->PairOK np pr k
def TryOK(pls:Int)(qs:List AC)(pr:List (Int×Int))(us:List BM)(k:Nat):Prop:=PU pls qs pr (us.getD k BM.z).parts/\((0<=(us.getD k BM.z).low/\(us.getD k BM.z).low<=(us.getD k BM.z).high)/\(us.getD k BM.z).high<=99)
structure Bn(beat pls:Int)(qs:List AC)(pr:List (Int×Int))(us:List BM):Prop where
 hbt:0<beat/\beat<=99
 hpl:0<pls/\pls<=4
 hqs:Yr pls qs
 hpr:Ys qs.length pr
 hus:¬(4:Int)<us.length/\∀k,k<us.length->TryOK pls qs pr us k
theorem Bn.qlen{beat pls:Int}{qs:List AC}{pr:List (Int×Int)}{us:List BM}(b:Bn beat pls qs pr us):0<qs.length/\qs.length<=5:=by
 have:=b.hqs.1;omega
theorem apP_min{pr:List (Int×Int)}{a b:Int}(h:pr.any (apP a b)=false):pr.any (λx=>(min a b==x.1 && (max a b==x.2 && true)))=false:=by
 rw [List.any_eq_false] at h ⊢;intro x c
 have:=h x c
 unfold apP at this;simp only [decide_eq_true_eq,Bool.and_true,Bool.and_eq_true,beq_iff_eq] at this ⊢;intro q;apply this;rcases Int.le_total a b with e | e
 ·rw [Int.min_eq_left e,Int.max_eq_right e] at q;exact .inl ⟨q.1.symm,q.2.symm⟩
 ·rw [Int.min_eq_right e,Int.max_eq_left e] at q;exact .inr ⟨q.1.symm,q.2.symm⟩
theorem VB{U:Type}{p:U->Bool}{l:List U}{j k:Nat}(h:(l.take j).any p=false)(e:j=k):(l.take k).any p=false:=e▸h
theorem Zn{qs:List AC}(h:∀k,k<qs.length->(qs.getD k AC.z).nm.size<=1000)(k:Nat):(qs.getD k AC.z).nm.size<=1000:=by
 by_cases e:k<qs.length
 ·exact h k e
 ·rw [DN Y];exact Nat.zero_le _
section
variable {qs:List AC} {pr:List (Int×Int)} {m c:List Int} {n:Nat} {x:Int} {a b:List Sl}
theorem part_ok{pls:Int}{k:Nat}(h1:(!D1 (qs.getD k AC.z).nm)=false)(h2:((qs.take k).any (λy=>y.nm.toList==(qs.getD k AC.z).nm.toList))=false)
  (h3:¬(((¬(0<=(qs.getD k AC.z).cost/\(qs.getD k AC.z).cost<=99)\/¬(0<=(qs.getD k AC.z).stock/\(qs.getD k AC.z).stock<=3))\/¬((0<=(qs.getD k AC.z).low/\(qs.getD k AC.z).low<=(qs.getD k AC.z).high)/\(qs.getD k AC.z).high<=20))\/4<=(qs.getD k AC.z).high-(qs.getD k AC.z).low))
  (h4:PT (qs.getD k AC.z).fits pls):W1 pls qs k:=⟨by simpa using h1,h2,Y,Y,by unfold R3;omega,h4⟩
theorem place_ok{q:Nat}(h:(q:Int) ∈ (qs.getD (m.getD q 0).toNat AC.z).fits)(e:¬0<(q:Int)):OK qs pr m q:=⟨h,λd=>Y⟩
theorem Zo{q:Nat}(h:(q:Int) ∈ (qs.getD (m.getD q 0).toNat AC.z).fits)(e:pr.any (apP (m.getD ((q:Int)-1).toNat 0) (m.getD q 0))=false):OK qs pr m q:=⟨h,λ_=>e⟩
end
theorem mach_any{pls:Int}{qs:List AC}{pr:List (Int×Int)}{m:List Int}(h:PU pls qs pr m):m.any (λx=>decide (¬(0<=x/\x<=(qs.length:Int)-1)))=false:=by
 rw [List.any_eq_false];intro x b;obtain ⟨q,a,rfl⟩:=List.mem_iff_getElem.1 b
 have:=h.2.1 q a
 rw [EN 0 a] at this;simpa using this
theorem has_fits{l:List Int}{k:Int}(h:k ∈ l):l.any (λx=>decide (k=x))=true:=List.any_eq_true.2 ⟨k,h,decide_eq_true rfl⟩
theorem pair_any{l:List (Int×Int)}{p:Int×Int}(h:l.any (λy=>(y.1==p.1 && (y.2==p.2 && true)))=false):l.any (λx=>(p.1==x.1 && (p.2==x.2 && true)))=false:=by
 rw [List.any_eq_false] at h ⊢;intro x a
 have:=h x a
 simp only [Bool.and_true,Bool.and_eq_true,beq_iff_eq] at this ⊢;exact λq=>this ⟨q.1.symm,q.2.symm⟩
end Go.Ns
namespace Go.Ns
open Go.Conc
section
variable {U:Type} {hB:V} {aQ:List U->(Nat->Prop)->V->Prop} {S:V->Prop} {X0 X X1:Nat->Prop} {rm:Nat} {h hc h':V} {pre l:List U} {C:V->Prop} {v:aU}
structure Ja{U:Type}(hB:V)(aQ:List U->(Nat->Prop)->V->Prop)(X0:Nat->Prop)(rm:Nat)(h:V)(pre:List U)(X:Nat->Prop)(hc:V):Prop where
 inv:aQ pre X hc
 sub:∀b,X b->X0 b\/h b=none
 keep:BH (λb=>X0 b\/b=rm) h hc
 base:hB.Le hc
def Ia{U:Type}(hB:V)(aQ:List U->(Nat->Prop)->V->Prop)(S:V->Prop)(pre:List U)(X:Nat->Prop)(rm:Nat)(h:V)(l:List U)(C:V->Prop)(v:aU)(h':V):Prop:=
 ∃ok X',v=.bool ok/\(∀b,X' b->X b\/h b=none)/\BH (λb=>X b\/b=rm) h h'/\hB.Le h'/\(ok=true->aQ (pre++l) X' h'/\C h')/\(ok=false->S h')
theorem Ja.start(x:aQ pre X h)(lB:hB.Le h):Ja hB aQ X rm h pre X h:=⟨x,λ_ q=>.inl q,BH.refl _ _,lB⟩
theorem Ja.le(P:F9 hB aQ)(y:Ja hB aQ X0 rm h pre X hc)(l:hc.Le h'):Ja hB aQ X0 rm h pre X h':=
 ⟨P.le y.inv l (y.base.trans l),y.sub,y.keep.trans (λ_ q=>.inl q) (l.keepX _),y.base.trans l⟩
theorem Ja.put(P:F9 hB aQ)(y:Ja hB aQ X0 rm h pre X hc)(rB:hB rm=none)(hn:¬X rm)(ho:∀b,b≠rm->h' b=hc b):Ja hB aQ X0 rm h pre X h':=
 ⟨P.store y.inv hn ho (y.base.upd rB ho),y.sub,λb p o c a=>by rw [ho b λe=>a (.inr e)];exact y.keep b p o c a,y.base.upd rB ho⟩
theorem subZ(s:∀b,X b->X0 b\/h b=none)(k:BH (λb=>X0 b\/b=rm) h hc)(hm:∃x,hc rm=some x)(s':∀b,X1 b->X b\/hc b=none):∀b,X1 b->X0 b\/h b=none:=λb q=>by
 rcases s' b q with q | q
 ·exact s b q
 ·by_cases a:X0 b
  ·exact .inl a
  ·refine .inr ?_;cases c:h b with
   | none=>rfl
   | some x=>
    obtain ⟨g,d,_⟩:=k b x.1 x.2 c λz=>z.elim a λe=>by
     obtain ⟨y,f⟩:=hm;rw [e,f] at q;cases q
    rw [d] at q;cases q
theorem Ja.call(y:Ja hB aQ X0 rm h pre X hc)(hm:∃x,hc rm=some x)(r:G7 hB aQ S pre X hc l v h') :
  ∃ok X',v=.bool ok/\(∀b,X' b->X b\/hc b=none)/\BH X hc h'/\(ok=true->Ja hB aQ X0 rm h (pre++l) X' h')/\(ok=false->∀l' C,Ia hB aQ S pre X0 rm h l' C (.bool false) h'):=by
 obtain ⟨ok,X',i,a,c,d,j,k⟩:=r;have f:BH (λb=>X0 b\/b=rm) h h':=y.keep.trans (λb q=>(y.sub b q).imp .inl id) c;have g:=subZ y.sub y.keep hm a;exact ⟨ok,X',i,a,c,λe=>⟨j e,g,f,d⟩,λe l' C=>⟨false,X',rfl,g,f,d,(λx=>by cases x),λ_=>k e⟩⟩
theorem Ja.rec_(y:Ja hB aQ X0 rm h pre X hc)(hm:∃x,hc rm=some x)(r:Ia hB aQ S pre X rm hc l C v h') :
  ∃ok X',v=.bool ok/\(∀b,X' b->X b\/hc b=none)/\BH (λb=>X b\/b=rm) hc h'/\(ok=true->Ja hB aQ X0 rm h (pre++l) X' h'/\C h')/\(ok=false->∀l' C,Ia hB aQ S pre X0 rm h l' C (.bool false) h'):=by
 obtain ⟨ok,X',j,a,c,d,f,k⟩:=r;have g:BH (λb=>X0 b\/b=rm) h h':=y.keep.trans (λb q=>q.elim (λq=>(y.sub b q).imp .inl id) λq=>.inl (.inr q)) c;have i:=subZ y.sub y.keep hm a;exact ⟨ok,X',j,a,c,λe=>⟨⟨(f e).1,i,g,d⟩,(f e).2⟩,λe l' C=>⟨false,X',rfl,i,g,d,(λx=>by cases x),λ_=>k e⟩⟩
theorem Ja.done(y:Ja hB aQ X0 rm h (pre++l) X hc)(c:C hc):Ia hB aQ S pre X0 rm h l C (.bool true) hc:=⟨true,X,rfl,y.sub,y.keep,y.base,λ_=>⟨y.inv,c⟩,λx=>by cases x⟩
theorem Ja.pass(y:Ja hB aQ X0 rm h pre X hc)(hm:∃x,hc rm=some x)(hn:¬X rm){c:Bool×Obj}(hr:hc rm=some c)(hC:∀h2:V,h2 rm=some c->C h2)(r:G7 hB aQ S pre X hc l v h'):Ia hB aQ S pre X0 rm h l C v h':=by
 obtain ⟨d,X',f,g,a,i,j,h2⟩:=r;refine ⟨d,X',f,subZ y.sub y.keep hm g,y.keep.trans (λb q=>(y.sub b q).imp .inl id) a,i,λe=>⟨j e,hC _ ?_⟩,h2⟩;exact a.box (p:=c.1) (o:=c.2) hr hn rfl
theorem Ia.stopped{pre':List U}(hv:v=.bool false)(r:∀l' C,Ia hB aQ S pre X0 rm h l' C (.bool false) h'):Ia hB aQ S pre' X0 rm h l C v h':=by
 obtain ⟨f,X',e,a,b,c,_,d⟩:=r [] C;cases e;exact ⟨false,X',hv,a,b,c,(λx=>by cases x),λ_=>d rfl⟩
theorem Ia.final(n0:h rm=none){h1:V}(r:Ia hB aQ S [] X rm h1 l C v h')(hX:∀b,X b->h b≠none)(l1:h.Le h1):ZI hB aQ S l X h h':=by
 obtain ⟨i,X',A,j,k,d,a,m⟩:=r;have f:∀b,X' b->X b\/h b=none:=λb q=>(j b q).imp id l1.nothing;have g:BH X h h':=λb p o c n=>by
  obtain ⟨s,t,u⟩:=l1 b p o c;obtain ⟨w,x,y⟩:=k b p s t λq=>q.elim n λe=>by rw [e,n0] at c;cases c
  refine ⟨w,x,?_⟩;rcases u with rfl | ⟨z,_⟩
  ·exact y
  ·cases z
 cases i with
 | true=>exact ⟨X',f,g,d,.inl (by have:=(a rfl).1;simpa using this)⟩
 | false=>exact ⟨X',f,g,d,.inr (m rfl)⟩
end
def R4(h:V)(X:Nat->Prop)(v:aU)(xs:List Int):Prop:=AD h v 1 eI xs/\∀b,back v=some b->(∃p c f,h b=some (p,.cells c 3 f))/\¬X b
section
variable {h h':V} {X X':Nat->Prop} {v:aU} {xs:List Int}
theorem R4.same(x:R4 h X v xs)(key:∀b,back v=some b->h' b=h b)(hX:∀b,X' b->X b\/h b=none):R4 h' X' v xs:=by
 refine ⟨?_,λb d=>⟨?_,λq=>?_⟩⟩
 ·obtain ⟨a,e,j,l,m,o⟩:=x.1;refine ⟨a,e,j,l,m,λi r=>?_⟩;obtain ⟨b,g,k,s⟩:=o i r;exact ⟨b,g,k,s.same (key b (by rw [j,k];rfl))⟩
 ·rw [key b d];exact (x.2 b d).1
 ·obtain ⟨⟨p,c,f,z⟩,n⟩:=x.2 b d;rcases hX b q with q | q
  ·exact n q
  ·rw [z] at q;cases q
theorem R4.le(x:R4 h X v xs)(l:h.Le h'):R4 h' X v xs:=x.same (λb a=>by
 obtain ⟨⟨p,c,f,z⟩,_⟩:=x.2 b a;rw [l.keep z rfl,z]) λ_ q=>.inl q
theorem R4.store(x:R4 h X v xs){r:Nat}{p:Bool}{c:Array aU}{t:aV}{f:Nat×Nat}(hr:h r=some (p,.cells c t f))(ht:t≠3)(ho:∀b,b≠r->h' b=h b):R4 h' X v xs:=x.same (λb a=>ho b λe=>by
 obtain ⟨⟨p,c,f,z⟩,_⟩:=x.2 b a;subst e;rw [hr] at z;cases z;exact ht rfl) λ_ q=>.inl q
theorem R4.rec_(x:R4 h X v xs){rm:Nat}{p:Bool}{c:Array aU}{t:aV}{f:Nat×Nat}(hr:h rm=some (p,.cells c t f))(ht:t≠3)(k:BH (λb=>X b\/b=rm) h h')(hX:∀b,X' b->X b\/h b=none):R4 h' X' v xs:=x.same (λb a=>by
 obtain ⟨⟨p,c,f,z⟩,n⟩:=x.2 b a;rw [k.box z (λq=>q.elim n λe=>by subst e;rw [hr] at z;cases z;exact ht rfl) rfl,z]) hX
theorem R4.own{U:Type}{hB h0:V}{aQ:List U->(Nat->Prop)->V->Prop}{pre:List U}(P:F9 hB aQ)(i:aQ pre X h0)(o:AV h0 h v 3 1 eI xs):R4 h X v xs:=⟨o.sl,λb a=>⟨by
 rcases o with ⟨rfl,_⟩ | ⟨f,d,c,rfl,_,e,_⟩
 ·cases a
 ·simp only [back,Option.some.injEq] at a;subst a;exact ⟨_,_,_,e⟩,P.off i (o.fresh b a)⟩⟩
end
end Go.Ns
namespace Go.Ns
open Go.Conc
def DR(t:Nat->Int):Array aU:=#[.int .i64 (t 0),.int .i64 (t 1),.int .i64 (t 2),.int .i64 (t 3),.int .i64 (t 4)]
def tZ:Nat->Int:=λ_=>0
def EF(t:Nat->Int)(i:Nat)(n:Int):Nat->Int:=λk=>if k=i then n else t k
theorem MJ(a:Nat->Int):(Value.agg (DR a)).cells.size=5:=rfl
theorem MK(a:Nat->Int):Value.fine (.agg (DR a))=true:=rfl
theorem OL(a:Nat->Int):0+5<=(DR a).size:=Nat.le_refl 5
theorem OM(a b:Nat->Int):BV (DR a) 0 (Value.agg (DR b)).cells.toList=DR b:=by
 simp [Value.cells,DR,BV]
theorem PV{a:Nat->Int}{i:Nat}(h:i<5):(DR a)[0+i*1]? =some (.int .i64 (a i)):=by
 match i,h with
 | 0,_=>rfl
 | 1,_=>rfl
 | 2,_=>rfl
 | 3,_=>rfl
 | 4,_=>rfl
theorem ON{a:Nat->Int}{i:Nat}{n:Int}(h:i<5):BV (DR a) (0+i*1) [.int .i64 n]=DR (EF a i n):=by
 match i,h with
 | 0,_=>rfl
 | 1,_=>rfl
 | 2,_=>rfl
 | 3,_=>rfl
 | 4,_=>rfl
theorem m4_set{pc c:List Int}{n:Int}{i:Nat}(hi:i<4)(hp:pc.take i=c)(hl:c.length=i)(h1:pc.length<=i+1):BV (Co pc) (0+i*1) [.int .i64 n]=Co (c++[n]):=by
 have f:pc=c\/∃x,pc=c++[x]:=by
  have e:=List.take_append_drop i pc;rw [hp] at e;cases g:pc.drop i with
  | nil=>left;rw [g,List.append_nil] at e;exact e.symm
  | cons x r=>
   have:(pc.drop i).length<=1:=by rw [List.length_drop];omega
   rw [g] at this;cases r with
   | nil=>right;exact ⟨x,by rw [<-e,g]⟩
   | cons y r=>simp at this
 match c,hl,hi with
 | [],hl,_=>subst hl;rcases f with rfl | ⟨x,rfl⟩ <;> rfl
 | [a],hl,_=>subst hl;rcases f with rfl | ⟨x,rfl⟩ <;> rfl
 | [a,b],hl,_=>subst hl;rcases f with rfl | ⟨x,rfl⟩ <;> rfl
 | [a,b,d],hl,_=>subst hl;rcases f with rfl | ⟨x,rfl⟩ <;> rfl
 | a ::b ::d ::e ::r,hl,hi=>simp at hl;omega
theorem m4_snoc0{c:List Int}(h:c.length<4):Co (c++[0])=Co c:=by
 match c,h with
 | [],_=>rfl
 | [a],_=>rfl
 | [a,b],_=>rfl
 | [a,b,d],_=>rfl
 | a ::b ::d ::e ::r,h=>exfalso;simp at h;omega
theorem PW{U:Type}{d:U}(l:List U)(k:Nat):(l.drop 1).getD k d=l.getD (k+1) d:=by
 rw [List.getD_eq_getElem?_getD,List.getD_eq_getElem?_getD,List.getElem?_drop,Nat.add_comm]
theorem filt_t{U:Type}{p:U->Bool}{l:List U}{k:Nat}{d:U}(hk:k<l.length)(h:p (l.getD k d)=true):(l.take (k+1)).filter p=(l.take k).filter p++[l.getD k d]:=by
 rw [DD d hk,List.filter_append,List.filter_cons,aT h];rfl
theorem filt_f{U:Type}{p:U->Bool}{l:List U}{k:Nat}{d:U}(hk:k<l.length)(h:p (l.getD k d)=false):(l.take (k+1)).filter p=(l.take k).filter p:=by
 rw [DD d hk,List.filter_append,List.filter_cons,aS (by rw [h];simp)];simp
theorem Yt{fv z:aU}{j:Nat}(h:j<1):[fv].getD j z=fv:=by
 obtain rfl:j=0:=Y
 rfl
def eV(x:aU):Array aU:=#[x]
theorem fill_sh5{a b c d e w:aU}(h:w.cells=#[w]):Instr.fill (λx=>#[(0,5),(5,1)][x]?) #[.int .i64 0,.int .i64 0,.slice none 0 0,.slice none 0 0,.slice none 0 0,.slice none 0 0] [(0,.agg #[a,b,c,d,e]),(1,w)]=some #[a,b,c,d,e,w]:=by
 have g:∀f,(Value.agg f).cells=f:=λ_=>rfl;simp [Instr.fill,h,g]
theorem shr_int{a b:Int}(h:0<=b/\b<=63):a.fdiv (2 ^ (min b.toNat IntKind.i64.bits))=a.fdiv (2 ^ b.toNat):=by
 have:min b.toNat IntKind.i64.bits=b.toNat:=by
  show min b.toNat 64=b.toNat;omega
 rw [this]
theorem shl_int{b:Int}(h:0<=b/\b<=4):IntKind.i64.wrap (1*2 ^ (min b.toNat IntKind.i64.bits))=2 ^ b.toNat:=by
 have e:b=((b.toNat:Nat):Int):=Y
 rw [e];exact WS Y
theorem Yu{p i:Nat}(hp:p<=4)(h:i<p):((2:Int) ^ p-1).fdiv (2 ^ i)%2=1:=by
 match p,i,hp,h with
 | 1,0,_,_=>decide
 | 2,0,_,_=>decide
 | 2,1,_,_=>decide
 | 3,0,_,_=>decide
 | 3,1,_,_=>decide
 | 3,2,_,_=>decide
 | 4,0,_,_=>decide
 | 4,1,_,_=>decide
 | 4,2,_,_=>decide
 | 4,3,_,_=>decide
theorem Yv{b:Int}(h:0<=b/\b<=4):1<=(2:Int) ^ b.toNat/\(2:Int) ^ b.toNat<=16:=by
 have:b=0\/b=1\/b=2\/b=3\/b=4:=Y
 rcases this with rfl | rfl | rfl | rfl | rfl <;> decide
theorem CQ.snoc{n:Nat}{c:List Int}{x:Int}(h:CQ n c)(hx:0<=x/\x<n):CQ n (c++[x]):=λj a=>by
 rw [List.length_append,List.length_singleton] at a;rw [IZ];split
 ·exact h j aG
 ·rw [show j-c.length=0 by omega];show 0<=x/\x<=_;omega
def GB(qs:List AC)(i:Nat):Nat->List Int
 | 0=>[]
 | k+1=>if (qs.getD k AC.z).fits.any (λx=>decide ((i:Int)=x)) then GB qs i k++[(k:Int)] else GB qs i k
def DO(qs:List AC)(i:Nat):List Int:=GB qs i qs.length
def apartB(pr:List (Int×Int))(a b:Int):Bool:=pr.any (λx=>(min a b==x.1 && (max a b==x.2 && true)))
def PX(pr:List (Int×Int))(i:Nat)(c:List Int)(k:Int):Bool:=decide (0<i) && apartB pr (c.getD (i-1) 0) k
theorem Yw{pls mk:Int}{pr:List (Int×Int)}{i:Nat}{pc c:List Int}{x0:Int}(hmk:mk=(2:Int) ^ pls.toNat-1)(hp:i<pls.toNat)(h4:pls.toNat<=4)(hpc:pc.take i=c) :
  (decide ((0<(i:Int))/\(((mk.fdiv (2 ^ ((i:Int)-1).toNat))%2)=1)) && (pr.any (λx=>(min (pc.getD (((i:Int)-1).toNat) 0) x0==x.1 && (max (pc.getD (((i:Int)-1).toNat) 0) x0==x.2 && true)))))=PX pr i c x0:=by
 unfold PX apartB;by_cases h:0<i
 ·have e:((i:Int)-1).toNat=i-1:=Y
  have b:=Yu (p:=pls.toNat) (i:=i-1) h4 Y;have g:pc.getD (i-1) 0=c.getD (i-1) 0:=by
   rw [<-hpc,List.getD_eq_getElem?_getD,List.getD_eq_getElem?_getD,List.getElem?_take,aT Y]
  rw [e,g,hmk,b,decide_eq_true h,decide_eq_true (⟨Y,rfl⟩:0<(i:Int)/\(1:Int)=1)]
 ·rw [decide_eq_false h,decide_eq_false λq=>h (by have:=q.1;omega)];rfl
def Fx(qs:List AC)(pr:List (Int×Int)):Nat->Nat->List Int->List (List Int)
 | 0,_,c=>[c]
 | f+1,i,c=>(DO qs i).flatMap λk=>if PX pr i c k then [] else Fx qs pr f (i+1) (c++[k])
def E7(qs:List AC)(pr:List (Int×Int))(f i:Nat)(c:List Int)(k:Int):List (List Int):=if PX pr i c k then [] else Fx qs pr f (i+1) (c++[k])
def DF(pls:Int)(qs:List AC)(pr:List (Int×Int)):List (List Int):=Fx qs pr pls.toNat 0 []
section
variable {qs:List AC} {pr:List (Int×Int)} {f i k:Nat} {c:List Int} {x:Int} {all pre:List (List Int)}
theorem KO(qs:List AC)(i:Nat):∀k,(GB qs i k).length<=k
 | 0=>Nat.le_refl 0
 | k+1=>by
  have:=KO qs i k
  unfold GB;split
  ·rw [List.length_append,List.length_singleton];omega
  ·omega
theorem KP:∀k x,x ∈ GB qs i k->0<=x/\x<k
 | 0,x,h=>by cases h
 | k+1,x,h=>by
  unfold GB at h;split at h
  ·rcases List.mem_append.1 h with q | q
   ·have:=KP k x q;omega
   ·rw [List.mem_singleton.1 q];omega
  ·have:=KP k x h;omega
theorem canTo_t(h:(qs.getD k AC.z).fits.any (λx=>decide ((i:Int)=x))=true):GB qs i k++[(k:Int)]=GB qs i (k+1):=by
 show _=if _ then _ else _
 rw [aT h]
theorem canTo_f(h:(qs.getD k AC.z).fits.any (λx=>decide ((i:Int)=x))=false):GB qs i k=GB qs i (k+1):=by
 show _=if _ then _ else _
 rw [aS (by rw [h];simp)]
theorem canL_rng(h:k<(DO qs i).length):0<=(DO qs i).getD k 0/\(DO qs i).getD k 0<qs.length:=KP _ _ (CG h)
theorem VC(hw:Br all pre (Fx qs pr (f+1) i c))(hk:k<(DO qs i).length):Br all (pre++((DO qs i).take k).flatMap (E7 qs pr f i c)) (E7 qs pr f i c ((DO qs i).getD k 0)):=by
 have e:Fx qs pr (f+1) i c=((DO qs i).take k).flatMap (E7 qs pr f i c)++(E7 qs pr f i c ((DO qs i).getD k 0)++((DO qs i).drop (k+1)).flatMap (E7 qs pr f i c)):=by
  show (DO qs i).flatMap (E7 qs pr f i c)=_;have a:DO qs i=(DO qs i).take k++(DO qs i).getD k 0 ::(DO qs i).drop (k+1):=by
   rw [EN 0 hk,List.getElem_cons_drop,List.take_append_drop]
  conv=>lhs;rw [a]
  rw [List.flatMap_append,List.flatMap_cons]
 rw [e] at hw;exact hw.right.left
theorem R5(hk:k<(DO qs i).length):pre++((DO qs i).take (k+1)).flatMap (E7 qs pr f i c)=(pre++((DO qs i).take k).flatMap (E7 qs pr f i c))++E7 qs pr f i c ((DO qs i).getD k 0):=by
 rw [DD 0 hk,List.flatMap_append];simp
theorem Zp(hk:k<(DO qs i).length)(h:PX pr i c ((DO qs i).getD k 0)=true):pre++((DO qs i).take (k+1)).flatMap (E7 qs pr f i c)=pre++((DO qs i).take k).flatMap (E7 qs pr f i c):=by
 rw [R5 hk];unfold E7;rw [aT h,List.append_nil]
theorem VD(h:PX pr i c x=false):E7 qs pr f i c x=Fx qs pr f (i+1) (c++[x]):=by
 unfold E7;rw [aS (by rw [h];simp)]
theorem fill_end(hk:¬(k:Int)<(DO qs i).length):Fx qs pr (f+1) i c=((DO qs i).take k).flatMap (E7 qs pr f i c):=by
 rw [List.take_of_length_le Y];rfl
theorem VE:∀(f i:Nat)(c x:List Int),x ∈ Fx qs pr f i c->c.length=i->CQ qs.length c->x.length=i+f/\CQ qs.length x
 | 0,i,c,x,a,b,d=>by rw [List.mem_singleton.1 a];exact ⟨b,d⟩
 | f+1,i,c,x,a,b,d=>by
  obtain ⟨k,e,a⟩:=List.mem_flatMap.1 a;split at a
  ·cases a
  ·have e:=KP _ _ e
   have:=VE f (i+1) (c++[k]) x a (by rw [List.length_append,b];rfl) (λj g=>by
    rw [List.length_append,List.length_singleton] at g;rw [IZ];split
    ·exact d j aG
    ·rw [show j-c.length=0 by omega];show 0<=k/\k<=_
     omega)
   exact ⟨Y,this.2⟩
theorem VF{pls:Int}{x:List Int}(hp:0<pls)(h:x ∈ DF pls qs pr):(x.length:Int)=pls/\CQ qs.length x:=by
 have:=VE pls.toNat 0 [] x h rfl (λj a=>by cases a)
 exact ⟨Y,this.2⟩
end
theorem VG{qs:List AC}{pr:List (Int×Int)}(hq:qs.length<=5):∀(f i:Nat)(c:List Int),(Fx qs pr f i c).length<=5 ^ f
 | 0,_,_=>Nat.le_refl 1
 | f+1,i,c=>by
  have a:=Jk (f:=λk=>if PX pr i c k then [] else Fx qs pr f (i+1) (c++[k])) (c:=5 ^ f) (l:=DO qs i) λk _=>by
   show (if _ then _ else _:List (List Int)).length<=_;split
   ·exact Nat.zero_le _
   ·exact VG hq f (i+1) _
  have b:=KO qs i qs.length;have d:=Nat.mul_le_mul_right (5 ^ f) (show (DO qs i).length<=5 from Nat.le_trans b hq);rw [Nat.pow_succ,Nat.mul_comm (5 ^ f) 5];exact Nat.le_trans a d
theorem PY{pls:Int}{qs:List AC}{pr:List (Int×Int)}(hq:qs.length<=5)(hp:pls<=4):(DF pls qs pr).length<=625:=
 Nat.le_trans (VG hq _ _ _) (Nat.pow_le_pow_right aC (show pls.toNat<=4 by omega))
theorem CQ.five{n:Nat}{m:List Int}(h:CQ n m)(hn:n<=5):CQ 5 m:=λi a=>by
 have:=h i a
 refine ⟨this.1,?_⟩
 have:((5:Nat):Int)=5:=rfl
 omega
theorem A5.mem{h:V}{us:List BM}{x:BM}(t:A5 h us)(hx:x ∈ us):AD h x.wv 1 eI x.parts:=by
 obtain ⟨k,a,rfl⟩:=List.getElem_of_mem hx
 have:=t k
 rwa [EN BM.z a] at this
theorem Bn.tryMem{beat pls:Int}{qs:List AC}{pr:List (Int×Int)}{us:List BM}{x:BM}(b:Bn beat pls qs pr us)(hx:x ∈ us):PU pls qs pr x.parts/\((0<=x.low/\x.low<=x.high)/\x.high<=99):=by
 obtain ⟨k,a,rfl⟩:=List.getElem_of_mem hx
 have:=b.hus.2 k a
 unfold TryOK at this
 rwa [EN BM.z a] at this
def CO(t:Nat->Int)(m:List Int):Nat->Int
 | 0=>0
 | k+1=>CO t m k+t (m.getD k 0).toNat
def Zq(pls:Int)(t:Nat->Int)(u:BM):Bool:=decide (¬(u.low<=CO t u.parts pls.toNat/\CO t u.parts pls.toNat<=u.high))
def agT(pls:Int)(us:List BM)(t:Nat->Int):Bool:= !us.any (Zq pls t)
def DB(pls:Int)(qs:List AC)(us:List BM):Nat->Nat->(Nat->Int)->List (Nat->Int)
 | 0,_,t=>if agT pls us t then [t] else []
 | f+1,i,t=>(E6 (qs.getD i AC.z).low (qs.getD i AC.z).high).flatMap λn=>DB pls qs us f (i+1) (EF t i n)
def EV(pls:Int)(qs:List AC)(us:List BM):List (Nat->Int):=DB pls qs us qs.length 0 tZ
def R6(t:Nat->Int):Prop:=∀i,0<=t i/\t i<=20
theorem R6.zero:R6 tZ:=λ_=>⟨Int.le_refl 0,show (0:Int)<=20 by decide⟩
theorem R6.set{t:Nat->Int}{i:Nat}{n:Int}(h:R6 t)(hn:0<=n/\n<=20):R6 (EF t i n):=λk=>by unfold EF;split;exact hn;exact h k
theorem R7{t:Nat->Int}(h:R6 t)(m:List Int):∀k:Nat,0<=CO t m k/\CO t m k<=20*(k:Int)
 | 0=>⟨Int.le_refl 0,Int.le_refl 0⟩
 | k+1=>by
  have:=R7 h m k
  have:=h (m.getD k 0).toNat
  unfold CO;omega
section
variable {pls:Int} {qs:List AC} {us:List BM} {f i k:Nat} {t p pc:Nat->Int} {x lo:Int} {all pre:List (Nat->Int)}
def Gk(i n:Nat)(pc p:Nat->Int):Prop:=∀j,j<i\/n<=j->pc j=p j
theorem Gk.refl(i n:Nat)(p:Nat->Int):Gk i n p p:=λ_ _=>rfl
theorem Gk.whole{n:Nat}(h:Gk n n pc p):pc=p:=funext λj=>h j Y
theorem Gk.back{n:Nat}{x:Int}(h:Gk (i+1) n pc (EF p i x))(hi:i<n):Gk i n pc p:=λj a=>by
 rw [h j Y];unfold EF;rw [aS Y]
theorem Gk.at_{n:Nat}{x:Int}(h:Gk (i+1) n pc (EF p i x)):pc i=x:=by
 rw [h i Y];unfold EF;rw [aT rfl]
theorem Gk.put{n:Nat}{x:Int}(h:Gk i n pc p)(hi:i<n):Gk i n (EF pc i x) p:=λj a=>by
 unfold EF;rw [aS Y];exact h j a
theorem Gk.here{n:Nat}(h:Gk i n pc p)(e:pc i=x):Gk (i+1) n pc (EF p i x):=λj a=>by
 unfold EF;by_cases q:j=i
 ·rw [aT q,q];exact e
 ·rw [aS q];exact h j Y
theorem OO:EF t i x i=x:=aT rfl
theorem Tg(hw:Br all pre (DB pls qs us (f+1) i p))(hx:x=(qs.getD i AC.z).low+(k:Int))(hk:x<=(qs.getD i AC.z).high) :
  Br all (pre++(BW (qs.getD i AC.z).low k).flatMap (λn=>DB pls qs us f (i+1) (EF p i n))) (DB pls qs us f (i+1) (EF p i x)):=by
 have w:=Br.round (k:=k) hw Y;rw [<-hx] at w;exact w
theorem W3(hx:x=lo+(k:Int)):pre++(BW lo (k+1)).flatMap (λn=>DB pls qs us f (i+1) (EF p i n))=(pre++(BW lo k).flatMap (λn=>DB pls qs us f (i+1) (EF p i n)))++DB pls qs us f (i+1) (EF p i x):=by
 rw [Hw,<-hx];simp
theorem Zs(hk:¬x<=(qs.getD i AC.z).high)(hx:x=(qs.getD i AC.z).low+(k:Int))(h:(k:Int)<=(qs.getD i AC.z).high-(qs.getD i AC.z).low+1):DB pls qs us (f+1) i p=(BW (qs.getD i AC.z).low k).flatMap (λn=>DB pls qs us f (i+1) (EF p i n)):=
 Br.roundEnd Y (.inl h)
theorem R8(hq:∀k,k<qs.length->0<=(qs.getD k AC.z).low/\(qs.getD k AC.z).high<=20):∀(f i:Nat)(t x:Nat->Int),x ∈ DB pls qs us f i t->i+f=qs.length->R6 t->R6 x
 | 0,i,t,x,a,_,b=>by
  unfold DB at a;split at a
  ·rw [List.mem_singleton.1 a];exact b
  ·cases a
 | f+1,i,t,x,a,d,b=>by
  obtain ⟨n,c,a⟩:=List.mem_flatMap.1 a;have c:=Mq.1 c
  have:=hq i Y
  exact R8 hq f (i+1) _ x a Y (b.set Y)
end
theorem R9{pls:Int}{qs:List AC}{us:List BM}(hq:∀k,(qs.getD k AC.z).high-(qs.getD k AC.z).low<4):∀(f i:Nat)(t:Nat->Int),(DB pls qs us f i t).length<=4 ^ f
 | 0,_,t=>by unfold DB;split <;> simp
 | f+1,i,t=>by
  have a:=Jk (f:=λn=>DB pls qs us f (i+1) (EF t i n)) (c:=4 ^ f) (l:=E6 (qs.getD i AC.z).low (qs.getD i AC.z).high) λn _=>R9 hq f (i+1) _;have b:(E6 (qs.getD i AC.z).low (qs.getD i AC.z).high).length<=4:=by unfold E6 BW;rw [List.length_map,List.length_range];have:=hq i;omega
  have d:=Nat.mul_le_mul_right (4 ^ f) b;rw [Nat.pow_succ,Nat.mul_comm (4 ^ f) 4];exact Nat.le_trans a d
theorem ML{pls beat:Int}{qs:List AC}{pr:List (Int×Int)}{us:List BM}(b:Bn beat pls qs pr us):(EV pls qs us).length<=1024:=
 Nat.le_trans (R9 (λk=>by
  by_cases e:k<qs.length
  ·have:=(b.hqs.2 k e).2.2.2.2.1;unfold R3 at this;omega
  ·rw [DN Y];decide) _ _ _) (Nat.pow_le_pow_right aC b.qlen.2)
def LH(pls:Int)(ts:List (Nat->Int))(m:List Int):Nat->Int
 | 0=>CO (ts.getD 0 tZ) m pls.toNat
 | k+1=>max (LH pls ts m k) (CO (ts.getD (k+1) tZ) m pls.toNat)
def Jy(beat pls:Int)(ts:List (Nat->Int))(m:List Int):Bool:=decide (LH pls ts m (ts.length-1)<=beat)
def AQ(beat pls:Int)(qs:List AC)(pr:List (Int×Int))(us:List BM):List (List Int):=(DF pls qs pr).filter (Jy beat pls (EV pls qs us))
theorem Hg{beat pls:Int}{qs:List AC}{pr:List (Int×Int)}{us:List BM}{x:List Int}(hp:0<pls)(h:x ∈ AQ beat pls qs pr us):(x.length:Int)=pls/\CQ qs.length x:=VF hp (List.mem_filter.1 h).1
theorem Th{beat pls:Int}{qs:List AC}{pr:List (Int×Int)}{us:List BM}(b:Bn beat pls qs pr us)(k:Nat):R6 ((EV pls qs us).getD k tZ):=by
 by_cases e:k<(EV pls qs us).length
 ·exact R8 (λj a=>by have:=(b.hqs.2 j a).2.2.2.2.1;unfold R3 at this;omega) qs.length 0 tZ _ (CG e) Y R6.zero
 ·rw [DN Y];exact R6.zero
end Go.Ns
namespace Go.Ns
open Go.Conc
def Bv(m:List Int)(k:Nat):Int:=((m.filter λx=>decide (x=(k:Int))).length:Nat)
def Dd(s:Nat->Int)(m:List Int):Nat->Int:=λk=>s k-Bv m k
def PZ(s:Nat->Int):Int:=s 0+s 1+s 2+s 3+s 4
def Ks(s:Nat->Int):Prop:=∀k,0<=s k/\s k<=3
def Nf(s:Nat->Int)(m:List Int):Prop:=∀k:Nat,k<5->Bv m k<=s k
structure Gz(ml:List (List Int))(s:Nat->Int)(n:Int):Prop where
 nn:0<=n
 le:n<=PZ s
 one:∀m ∈ ml,Nf s m->1<=n
 need:∀k:Nat,k<5->(∀m ∈ ml,(k:Int) ∈ m)->n<=s k
 none:ml=[]->n=0
section
variable {m:List Int} {s:Nat->Int} {k:Nat} {ml:List (List Int)} {n r:Int}
theorem KQ(x:Int):Bv (m++[x]) k=Bv m k+if x=(k:Int) then 1 else 0:=by
 unfold Bv;rw [List.filter_append,List.length_append];split
 ·rename_i e;subst e;simp
 ·rename_i e;simp [e]
theorem Ti(m:List Int)(k:Nat):0<=Bv m k:=Int.natCast_nonneg _
theorem cntM_pos(h:(k:Int) ∈ m):1<=Bv m k:=by
 unfold Bv
 have:0<(m.filter λx=>decide (x=(k:Int))).length:=List.length_pos_of_mem (List.mem_filter.2 ⟨h,decide_eq_true rfl⟩)
 omega
theorem Zt(m:List Int)(k i:Nat):Bv (m.take i) k<=Bv m k:=by
 unfold Bv
 have:((m.take i).filter λx=>decide (x=(k:Int))).length<=(m.filter λx=>decide (x=(k:Int))).length:=((List.take_sublist i m).filter _).length_le
 omega
theorem cntM_sum(h:CQ 5 m):Bv m 0+Bv m 1+Bv m 2+Bv m 3+Bv m 4=m.length:=by
 induction m with
 | nil=>rfl
 | cons x m a=>
  have b:=h 0 aD;have a:=a λi c=>h (i+1) (by simp;omega);have e:∀k:Nat,Bv (x ::m) k=(if x=(k:Int) then 1 else 0)+Bv m k:=λk=>by
   unfold Bv;by_cases q:x=(k:Int) <;> simp [q] <;> omega
  rw [e 0,e 1,e 2,e 3,e 4,List.length_cons];change 0<=x/\x<=4 at b
  have:x=0\/x=1\/x=2\/x=3\/x=4:=Y
  rcases this with rfl | rfl | rfl | rfl | rfl <;> simp <;> omega
theorem SA:Dd s []=s:=funext λk=>Int.sub_zero _
theorem Pa{i:Nat}(hi:i<m.length)(h0:0<=m.getD i 0):EF (Dd s (m.take i)) (m.getD i 0).toNat (Dd s (m.take i) (m.getD i 0).toNat-1)=Dd s (m.take (i+1)):=by
 funext k;rw [DD 0 hi];unfold EF Dd;rw [KQ];by_cases e:k=(m.getD i 0).toNat
 ·subst e;rw [aT rfl,aT Y];omega
 ·rw [aS e,aS Y];omega
theorem less_nn{i:Nat}(hi:i<m.length)(h0:0<=m.getD i 0)(hn:∀j,0<=Dd s (m.take i) j)(h:¬Dd s (m.take i) (m.getD i 0).toNat-1<0):∀j,0<=Dd s (m.take (i+1)) j:=λj=>by
 rw [<-Pa hi h0];unfold EF;split
 ·omega
 ·exact hn j
theorem My{i:Nat}(hi:m.length<=i)(h:∀k,0<=Dd s (m.take i) k):Nf s m/\(∀k,0<=Dd s m k)/\Dd s (m.take i)=Dd s m:=by
 rw [List.take_of_length_le hi] at h ⊢;exact ⟨λk _=>by have:=h k;unfold Dd at this;omega,h,rfl⟩
theorem Zu{i:Nat}(hi:i<m.length)(h5:0<=m.getD i 0/\m.getD i 0<=4)(h:Dd s (m.take i) (m.getD i 0).toNat-1<0):¬Nf s m:=λt=>by
 have a:=t (m.getD i 0).toNat Y;have b:=Zt m (m.getD i 0).toNat (i+1);rw [DD 0 hi,KQ,aT Y] at b;unfold Dd at h;omega
theorem Ks.less(h:Ks s)(t:∀k,0<=Dd s m k):Ks (Dd s m):=λk=>by
 have:=h k;have:=t k;have:=Ti m k
 unfold Dd at *;omega
theorem M0(hm:CQ 5 m):PZ (Dd s m)=PZ s-m.length:=by
 have:=cntM_sum hm
 unfold PZ Dd;omega
theorem MM(h:Ks s):0<=PZ s/\PZ s<=15:=by
 have:=h 0;have:=h 1;have:=h 2;have:=h 3;have:=h 4
 unfold PZ;omega
def N2(qs:List AC):Nat->Int:=λk=>(qs.getD k AC.z).stock
def H0(qs:List AC)(n:Nat):Nat->Int:=λk=>if k<n then (qs.getD k AC.z).stock else 0
theorem stkTo_0{qs:List AC}:H0 qs 0=tZ:=rfl
theorem Zv{qs:List AC}{k:Nat}:EF (H0 qs k) k (qs.getD k AC.z).stock=H0 qs (k+1):=by
 funext j;unfold EF H0;by_cases e:j=k
 ·subst e;rw [aT rfl,aT Y]
 ·rw [aS e];by_cases q:j<k
  ·rw [aT q,aT Y]
  ·rw [aS q,aS Y]
theorem Zw{qs:List AC}{k:Nat}(h:qs.length<=k):H0 qs k=N2 qs:=by
 funext j;unfold H0 N2;by_cases q:j<k
 ·rw [aT q]
 ·rw [aS q,DN Y];rfl
theorem Tj{beat pls:Int}{qs:List AC}{pr:List (Int×Int)}{us:List BM}(b:Bn beat pls qs pr us):Ks (N2 qs):=λk=>by
 unfold N2;by_cases e:k<qs.length
 ·exact (b.hqs.2 k e).2.2.2.1
 ·rw [DN Y];decide
structure FM(ml:List (List Int))(s:Nat->Int)(i:Nat)(n:Int):Prop where
 nn:0<=n
 le:n<=PZ s
 one:∀m ∈ ml.take i,Nf s m->1<=n
 need:∀k:Nat,k<5->(∀m ∈ ml,(k:Int) ∈ m)->n<=s k
 none:ml=[]->n=0
theorem FM.start(h:Ks s):FM ml s 0 0:=⟨Int.le_refl _,(MM h).1,λm q=>(by cases q),λk _ _=>(h k).1,λ_=>rfl⟩
theorem FM.skip{i:Nat}(b:FM ml s i n)(hi:i<ml.length)(t:¬Nf s (ml.getD i [])):FM ml s (i+1) n:=⟨b.nn,b.le,λm q a=>by
 rw [DD [] hi] at q;rcases List.mem_append.1 q with q | q
 ·exact b.one m q a
 ·rw [List.mem_singleton.1 q] at a;exact absurd a t,b.need,b.none⟩
theorem FM.take{i:Nat}(b:FM ml s i n)(hi:i<ml.length)(hm:CQ 5 (ml.getD i [])/\0<(ml.getD i []).length)(q:Gz ml (Dd s (ml.getD i [])) r):FM ml s (i+1) (max n (1+r)):=by
 have g:=q.nn;refine ⟨?_,?_,λm _ _=>?_,λk f h=>?_,λe=>by rw [e] at hi;cases hi⟩
 ·have:=b.nn;omega
 ·have:=b.le;have:=q.le;rw [M0 hm.1] at this;omega
 ·omega
 ·have a:=b.need k f h;have c:=q.need k f h;have d:=cntM_pos (h (ml.getD i []) (CG hi));unfold Dd at c;omega
theorem FM.done{i:Nat}(b:FM ml s i n)(hi:ml.length<=i):Gz ml s n:=⟨b.nn,b.le,λm q=>b.one m (by rw [List.take_of_length_le hi];exact q),b.need,b.none⟩
end
abbrev Pb:=Int×Int×Int×Int×Int
def G0(a:Pb):aU:=.agg #[.int .i64 a.1,.int .i64 a.2.1,.int .i64 a.2.2.1,.int .i64 a.2.2.2.1,.int .i64 a.2.2.2.2]
def skAt(a:Pb)(i:Nat):Int:=match i with
 | 0=>a.1
 | 1=>a.2.1
 | 2=>a.2.2.1
 | 3=>a.2.2.2.1
 | 4=>a.2.2.2.2
 | _=>0
def VH(s:Nat->Int):Pb:=(s 0,s 1,s 2,s 3,s 4)
theorem Gz.sk{ml:List (List Int)}{s:Nat->Int}{n:Int}(b:Gz ml s n):Gz ml (skAt (VH s)) n:=by
 have e:∀k,k<5->skAt (VH s) k=s k:=λk a=>by match k,a with
  | 0,_=>rfl
  | 1,_=>rfl
  | 2,_=>rfl
  | 3,_=>rfl
  | 4,_=>rfl
 exact ⟨b.nn,b.le,λm q t=>b.one m q λk a=>by rw [<-e k a];exact t k a,λk a h=>by rw [e k a];exact b.need k a h,b.none⟩
theorem Gz.ofSk{ml:List (List Int)}{s:Nat->Int}{n:Int}(b:Gz ml (skAt (VH s)) n):Gz ml s n:=by
 have e:∀k,k<5->skAt (VH s) k=s k:=λk a=>by match k,a with
  | 0,_=>rfl
  | 1,_=>rfl
  | 2,_=>rfl
  | 3,_=>rfl
  | 4,_=>rfl
 exact ⟨b.nn,b.le,λm q t=>b.one m q λk a=>by rw [e k a];exact t k a,λk a h=>by rw [<-e k a];exact b.need k a h,b.none⟩
def Ca(ml:List (List Int))(r:Nat)(h:V):Prop:=∃aP:Pb->Option Int,El h r G0 EQ aP/\∀a v,aP a=some v->Gz ml (skAt a) v
section
variable {hB h hc h':V} {ml:List (List Int)} {r:Nat}
theorem Ca.same(x:Ca ml r h)(e:h' r=h r):Ca ml r h':=by
 obtain ⟨a,b,c⟩:=x;exact ⟨a,b.le_other e,c⟩
theorem Ca.known(x:Ca ml r h):∃o,h r=some (true,o):=by
 obtain ⟨c,⟨d,a,b,_⟩,_⟩:=x;exact ⟨_,b⟩
structure Jz(hB:V)(ml:List (List Int))(r:Nat)(h hc:V):Prop where
 ok:Ca ml r hc
 keep:BH (λb=>b=r) h hc
 base:hB.Le hc
def KRes(hB:V)(ml:List (List Int))(r:Nat)(h h':V):Prop:=Ca ml r h'/\BH (λb=>b=r) h h'/\hB.Le h'
theorem Jz.start(x:Ca ml r h)(l:hB.Le h):Jz hB ml r h h:=⟨x,BH.refl _ _,l⟩
theorem Jz.le(y:Jz hB ml r h hc)(l:hc.Le h'):Jz hB ml r h h':=by
 obtain ⟨o,a⟩:=y.ok.known;exact ⟨y.ok.same ((l.keep a rfl).trans a.symm),y.keep.trans (λ_ q=>.inl q) (l.keepX _),y.base.trans l⟩
theorem Jz.store(y:Jz hB ml r h hc){q:Nat}(hq:h q=none)(qB:hB q=none)(hn:q≠r)(ho:∀b,b≠q->h' b=hc b):Jz hB ml r h h':=
 ⟨y.ok.same (ho r (Ne.symm hn)),y.keep.store hq ho,y.base.upd qB ho⟩
theorem Jz.call(y:Jz hB ml r h hc)(m:KRes hB ml r hc h'):Jz hB ml r h h':=⟨m.1,y.keep.trans (λ_ q=>.inl q) m.2.1,m.2.2⟩
theorem Jz.ne(y:Jz hB ml r h hc){q:Nat}(hq:hc q=none):q≠r:=λe=>by
 obtain ⟨o,a⟩:=y.ok.known;rw [e,a] at hq;cases hq
theorem Jz.res(y:Jz hB ml r h hc):KRes hB ml r h hc:=⟨y.ok,y.keep,y.base⟩
theorem Jz.nothing(y:Jz hB ml r h hc){q:Nat}(hq:hc q=none):h q=none:=by
 cases a:h q with
 | none=>rfl
 | some x=>
  obtain ⟨c,b,_⟩:=y.keep q x.1 x.2 a (y.ne hq);rw [b] at hq;cases hq
theorem Ca.le(x:Ca ml r h)(l:h.Le h'):Ca ml r h':=by
 obtain ⟨o,a⟩:=x.known;exact x.same ((l.keep a rfl).trans a.symm)
theorem Ca.empty(x:h r=some (true,.map #[] 0)):Ca ml r h:=⟨λ_=>none,El.empty x,λa v e=>by cases e⟩
theorem Ca.slDel{U:Type}(k:Ca ml r h){v:aU}{m:Nat}{enc:U->Array aU}{xs:List U}(x:AD h v m enc xs):AD (h.del r) v m enc xs:=by
 obtain ⟨c,⟨d,a,b,_⟩,_⟩:=k;exact x.slDel b
end
theorem Pb.eq_iff(a b:Pb):((a.1==b.1 && (a.2.1==b.2.1 && (a.2.2.1==b.2.2.1 && (a.2.2.2.1==b.2.2.2.1 && (a.2.2.2.2==b.2.2.2.2 && true))))) && true)=decide (a=b):=by
 obtain ⟨c,d,e,f,g⟩:=a;obtain ⟨h,i,j,k,l⟩:=b;simp only [Bool.and_true,Prod.mk.injEq];by_cases m:c=h <;> by_cases n:d=i <;> by_cases o:e=j <;> by_cases p:f=k <;> by_cases q:g=l <;> simp [m,n,o,p,q]
theorem RJ(a:Pb):Instr.sameBits 10000 (G0 a) (G0 a)=true:=by
 have b:∀(n:Nat)(x:Int),Instr.sameBits n (.int .i64 x) (.int .i64 x)=true:=λn x=>by
  cases n <;> (unfold Instr.sameBits;simp)
 unfold G0;show Instr.sameBits (9999+1) _ _=true;unfold Instr.sameBits;simp only [List.zip_cons_cons,List.zip_nil_left,List.all_cons,List.all_nil,b];simp
section
variable {P:Program} {E:F8 P} {O:Nat->aU} {ds:List Deferred} {h:V} {T:(Nat->aU)->List Deferred->V->Prop}
variable {dst:Option Nat} {ty:aV} {pos:String} {af:Array Edge} {gd:Option (Nat×Bool)} {ml:List (List Int)} {s:Nat->Int} {t kt vt:aV} {r d:Nat}
theorem W4{x ix:Operand}(ht:IQ P t=some (kt,vt))(hx:AL O x=.map (some r))(hk:AL O ix=.agg (DR s))(hm:Ca ml r h)(hd:Nat.ble (d+1) 10000=true)
  (hc:∀a,WI P (d+1) kt (G0 a)=true) (he:∀a b,Mm P (d+1) kt (G0 a) (G0 b)=some ((a.1==b.1 && (a.2.1==b.2.1 && (a.2.2.1==b.2.2.1 && (a.2.2.2.1==b.2.2.2.1 && (a.2.2.2.2==b.2.2.2.2 && true))))) && true)) (hz:(P.info? vt).bind (·.zero)=some (.int .i64 0))
  (k:∀(n:Int)(is:Bool),(is=true->Gz ml s n)->(is=false->n=0)->T (putS O dst (.tuple #[.int .i64 n,.bool is])) ds h):BS E ⟨dst,.lookup t x ix true,ty,pos,af,gd⟩ O ds h T:=by
 obtain ⟨c,f,g⟩:=hm;refine Mn (a:=VH s) (z:=.int .i64 0) ht hx hk f hd (hc _) (λb=>by rw [he,Pb.eq_iff]) hz ?_;cases i:c (VH s) with
 | none=>exact k 0 false (by intro e;cases e) λ_=>rfl
 | some v=>exact k v true (λ_=>(g _ _ i).ofSk) (by intro e;cases e)
theorem Zx{om ok ox:Operand}{n:Int}(ht:IQ P t=some (kt,vt))(hm':AL O om=.map (some r))(hk:AL O ok=.agg (DR s))(hv:AL O ox=.int .i64 n)(hm:Ca ml r h)(hd:Nat.ble (d+1) 10000=true)
  (hc:∀a,WI P (d+1) kt (G0 a)=true) (he:∀a b,Mm P (d+1) kt (G0 a) (G0 b)=some ((a.1==b.1 && (a.2.1==b.2.1 && (a.2.2.1==b.2.2.1 && (a.2.2.2.1==b.2.2.2.1 && (a.2.2.2.2==b.2.2.2.2 && true))))) && true)) (hs:∀a,Instr.sameBits 10000 (G0 a) (G0 a)=true) (hn:Gz ml s n)
  (k:∀h',Ca ml r h'->(∀b,b≠r->h' b=h b)->T (putS O dst undef) ds h'):BS E ⟨dst,.mapUpdate t om ok ox,ty,pos,af,gd⟩ O ds h T:=by
 obtain ⟨l,f,g⟩:=hm;refine Iv (a:=VH s) (v:=n) (ek:=G0) (ev:=EQ) ht hm' hk hv f hd (hc _) (λb=>by rw [he,Pb.eq_iff]) (hs _) λh' i j=>k h' ⟨_,i,λa v c=>?_⟩ j;by_cases e:a=VH s
 ·subst e;rw [aT rfl] at c;cases c;exact hn.sk
 ·rw [aS e] at c;exact g a v c
end
end Go.Ns
namespace Go.Ns
def Fy(n:Int):List AI:=[⟨3,0,1,n,n⟩]
theorem M1{k cost s n:Int}(hk:0<=k/\k<=9)(hc:0<=cost/\cost<=999)(hs:0<=s/\s<=99)(hn:0<=n/\n<=99):Ah 1 0 (Bq (Bt k) cost s) [⟨3,0,1,n,n⟩] []=0/\DE 1 0 (Bq (Bt k) cost s) [⟨3,0,1,n,n⟩] []=if n<=s then 1 else 0:=by
 have a:Yp 1 (Fy n):=⟨by simp [Fy],λk hk=>by
  have:k=0:=by simpa [Fy] using hk
  subst this;refine ⟨show (1:Int)<=3/\(3:Int)<=4 by decide,rfl,show (1:Int)<=1/\(1:Int)<=1 by decide,show (0:Int)<=1 by decide,rfl,hn⟩⟩
 have b:=U9 (Zl (gName_ok hk) hc hs aC a);refine ⟨b,?_⟩;show DE 1 0 (Bq (Bt k) cost s) (Fy n) []=_;unfold DE;rw [aT b,W0 a];have e:(AX (Fy n) (Hz s (Fy n) (Fy n).length) 0 1).2=min s (s-n):=by
  unfold AX DM Fy Hv GV Cn Hz signed;simp [DM];rfl
 by_cases q:n<=s
 ·rw [aT q,aT]
  ·rfl
  ·unfold BI;rw [decide_eq_true]
   ·rfl
   ·intro j c
    have:j=0:=Y
    subst this
    show¬(AX (Fy n) (Hz s (Fy n) (Fy n).length) 0 1).2<0
    rw [e];omega
 ·rw [aS q,aS]
  ·rfl
  ·rw [Ox (k:=0) aC (by
    show (AX (Fy n) (Hz s (Fy n) (Fy n).length) 0 1).2<0;rw [e];omega)]
   simp
def AU(ml:List (List Int))(np:Nat):List Int:=((List.range np).filter λk:Nat=>ml.all λm=>m.any λx=>decide ((k:Int)=x)).map λk:Nat=>(k:Int)
theorem Yx{ml:List (List Int)}{k:Nat}(h:(ml.any λm=> !m.any λx=>decide ((k:Int)=x))=false):AU ml (k+1)=AU ml k++[(k:Int)]:=by
 unfold AU;rw [List.range_succ,List.filter_append,List.map_append,List.filter_cons,aT]
 ·rfl
 ·rw [List.any_eq_false] at h;rw [List.all_eq_true];intro x a;simpa using h x a
theorem Yy{ml:List (List Int)}{k:Nat}(h:¬(ml.any λm=> !m.any λx=>decide ((k:Int)=x))=false):AU ml (k+1)=AU ml k:=by
 unfold AU;rw [List.range_succ,List.filter_append,List.map_append,List.filter_cons,aS]
 ·simp
 ·intro q;apply h;rw [List.all_eq_true] at q;rw [List.any_eq_false];intro x a;simpa using q x a
theorem SB{ml:List (List Int)}{np:Nat}{x:Int}(h:x ∈ AU ml np):(0<=x/\x<np)/\∀m ∈ ml,x ∈ m:=by
 obtain ⟨k,c,rfl⟩:=List.mem_map.1 h;obtain ⟨a,b⟩:=List.mem_filter.1 c;have a:=List.mem_range.1 a;refine ⟨Y,λm d=>?_⟩;rw [List.all_eq_true] at b
 have:=b m d
 rw [List.any_eq_true] at this;obtain ⟨y,f,e⟩:=this;rw [of_decide_eq_true e];exact f
theorem Zy(ml:List (List Int))(np:Nat):(AU ml np).length<=np:=by
 unfold AU;rw [List.length_map];exact Nat.le_trans (List.length_filter_le _ _) (by rw [List.length_range];exact Nat.le_refl _)
theorem LI(ml:List (List Int)):∀np:Nat,PT (AU ml np) np
 | 0=>λi a=>by cases a
 | np+1=>by
  have b:=LI ml np;by_cases h:(ml.any λm=> !m.any λx=>decide ((np:Int)=x))=false
  ·rw [Yx h];intro i a;rw [List.length_append,List.length_singleton] at a;by_cases q:i<(AU ml np).length
   ·have:=b i q
    rw [IZ,aT q];refine ⟨Y,λc=>?_⟩;rw [IZ,aT Y];exact this.2 c
   ·have e:(AU ml np++[(np:Int)]).getD i 0=np:=by
     rw [IZ,aS q,show i-(AU ml np).length=0 by omega];rfl
    rw [e];refine ⟨Y,λc=>?_⟩;rw [IZ,aT Y]
    have:=b ((i:Int)-1).toNat Y
    omega
  ·rw [Yy h];intro i a
   have:=b i a
   exact ⟨Y,this.2⟩
section
variable {x:List Int} {q i:Nat} {qs:List AC} {rn:Bool}
theorem cnt_t(hq:q<x.length)(h:x.getD q 0=(i:Int)):Bv (x.take q) i+1=Bv (x.take (q+1)) i:=by
 rw [DD 0 hq,KQ,aT h]
theorem cnt_f(hq:q<x.length)(h:¬x.getD q 0=(i:Int)):Bv (x.take q) i=Bv (x.take (q+1)) i:=by
 rw [DD 0 hq,KQ,aS h,Int.add_zero]
theorem cnt_le(x:List Int)(q i:Nat):0<=Bv (x.take q) i/\Bv (x.take q) i<=(q:Int):=by
 refine ⟨Ti _ _,?_⟩;unfold Bv;have a:=List.length_filter_le (λy=>decide (y=(i:Int))) (x.take q);have b:=List.length_take_le q x;omega
theorem Zz{v:Int}(h:rn=false->∀j:Nat,j<i->Bv x j<=N2 qs j)(hf:rn=false)(hp:v=if Bv (x.take q) i<=(qs.getD i AC.z).stock then 1 else 0)(hq:x.length<=q)(z:¬v=0):∀j:Nat,j<i+1->Bv x j<=N2 qs j:=λj a=>by
 by_cases e:j<i
 ·exact h hf j e
 ·obtain rfl:j=i:=Y
  rw [List.take_of_length_le hq] at hp;by_cases w:Bv x j<=(qs.getD j AC.z).stock
  ·exact w
  ·rw [aS w] at hp;exact absurd hp z
theorem cntM_out{np k:Nat}(h:CQ np x)(hk:np<=k):Bv x k=0:=by
 unfold Bv
 have:x.filter (λy=>decide (y=(k:Int)))=[]:=List.filter_eq_nil_iff.2 λy b=>by
  obtain ⟨j,a,rfl⟩:=List.getElem_of_mem b
  have:=h j a
  rw [EN 0 a] at this;simp;omega
 rw [this];rfl
theorem W5{beat pls:Int}{pr:List (Int×Int)}{us:List BM}(b:Bn beat pls qs pr us)(hr:CQ qs.length x)(h:∀j:Nat,j<i->Bv x j<=N2 qs j)(hi:qs.length<=i):Nf (N2 qs) x:=λk _=>by
 by_cases e:k<i
 ·exact h k e
 ·rw [cntM_out hr Y];exact (Tj b k).1
end
end Go.Ns
namespace Go.Ns
open Go.Conc
section
variable {P:Program} {Post:aU->World->Prop}
def Yz(P:Program)(Post:aU->World->Prop):Wk P:=⟨true,Dz P Post,Kh⟩
theorem Tk:PM (Yz P Post):=⟨Post,rfl⟩
theorem Z0{f:FuncId}{fn:Func}{c:Code}{args:Array aU}{h:V}{R:aU->V->Prop}(hf:P.funcs[f]? =some fn)(hb:fn.body=some c)(hsz:args.size<=fn.ntmps)(hin:P.inits.idxOf? f=none)(hpost:∀v h',R v h'->∀w,D7 w h'->Post v w)
  (x:Tr ⟨Yz P Post,f,none,fn.ntmps⟩ c (λi=>args.getD i undef) [] h (λe O ds h'=>(e=.normal\/e=.ret)/\Fk P fn O R ds h')):Dz P Post (G (Frame.enter P f args .normal) []) h:=by
 have u:Frame.enter P f args .normal=Cc (Frame.enter P f args .normal) (args++Array.replicate (fn.ntmps-args.size) undef) [] [.code c]:=by
  simp [Frame.enter,Cc,hf,hb]
 rw [u];let y:Lv:=λj t ds h'=>(j=none\/j=some .ret)/\∃O,BX t fn.ntmps O/\Fk P fn O R ds h';have d:∀O ds h' t k,BX t fn.ntmps O->Fk P fn O R ds h'->(Yz P Post).K (G (Dq (Frame.enter P f args .normal) t ds k) []) h':=by
  intro O ds h' t k g a;refine NS (W:=Yz P Post) (R:=R) hf (b:=Frame.enter P f args .normal) rfl (λt k v h h' z l=>?_) ds h' t k g a;refine V9 rfl λw A=>?_;obtain ⟨p,q,B,r⟩:=l w A;refine ⟨v,p,seen P f q++ #[],h',?_,r.sub (es':=seen P f q++ #[]) λe n=>?_,hpost v h' z p r.fits⟩
  ·rw [Kz];unfold unwind;have o:(Dq (Frame.enter P f args .normal) t [] k).fn=f:=rfl;have C:(Dq (Frame.enter P f args .normal) t [] k).kind=.normal:=rfl;have D:(Dq (Frame.enter P f args .normal) t [] k).mode=.returning:=rfl;have E:(Dq (Frame.enter P f args .normal) t [] k).defers=[]:=rfl;have F:(Dq (Frame.enter P f args .normal) t [] k).tmps=t:=rfl;simp only [E,D,o,hf,F,B,GStep.after,doReturn,C,hin];rfl
  ·rw [Array.append_empty] at n;exact mem_seen n
 refine x (Frame.enter P f args .normal) [] [] y _ rfl rfl ⟨?_,?_,?_⟩ ⟨by simp;omega,λi=>?_⟩ ?_
 ·rintro t ds h' ⟨_,O,g,a⟩;exact Wk.go (Dq (Frame.enter P f args .normal) t ds []) (λw=>by rw [A0];simp [stepG.exec,Cc,Dq,G,Frame.enter]) (d O ds h' t [] g a)
 ·rintro t ds h' k ⟨_,O,g,a⟩;exact Wk.go (Dq (Frame.enter P f args .normal) t ds (.code .ret ::k)) (λw=>by rw [A0];simp [stepG.exec,Cc,Dq,G,Frame.enter]) (d O ds h' t _ g a)
 ·rintro id t ds h' k _ ⟨h1 | h1,_⟩ <;> cases h1
 ·by_cases H:i<args.size
  ·simp [Array.getD_eq_getD_getElem?,Array.getElem?_append_left H]
  ·simp only [Array.getD_eq_getD_getElem?];rw [Array.getElem?_append_right Y,Array.getElem?_eq_none (show args.size<=i by omega),Array.getElem?_replicate];split <;> rfl
 ·rintro e O ds h' ⟨n,a⟩ s m;rcases n with rfl | rfl
  ·exact Wk.go (Dq (Frame.enter P f args .normal) s ds []) (λw=>by rw [A0];simp [stepG.exec,Cc,Dq,G,Frame.enter]) (d O ds h' s [] m a)
  ·exact ⟨.inr rfl,O,m,a⟩
def V.of(W:World):V:=λb=>(W.heap[b]?).map λo=>(false,o)
theorem V.of_some{W:World}{b:Nat}{o:Obj}(h:W.heap[b]? =some o):V.of W b=some (false,o):=by unfold V.of;rw [h];rfl
theorem fits_of(W:World):D7 W (V.of W):=λb p o h=>by
 unfold V.of at h;cases e:W.heap[b]? with
 | none=>rw [e] at h;cases h
 | some x=>rw [e] at h;cases h;rfl
theorem kept_of{W w:World}{h:V}(l:(V.of W).Le h)(f:D7 w h){b:Nat}{o:Obj}(hb:W.heap[b]? =some o):w.heap[b]? =some o:=f b _ _ (l.keep (V.of_some hb) rfl)
theorem W6{g:Goroutine}{W:World}(hg:Dz P Post g (V.of W)):Bl P (Io Post W.os W.output) (solo g W) #[]:=by
 have c:∀k a,touchAt (#[]:Trace) k=some a->False:=λk a h=>by
  obtain ⟨f,m,_⟩:=touch_of h;simp at m
 refine hg #[g] W none (λ_=>0) #[] ⟨rfl,?_,fits_of W,?_,?_,λk a b e=>(c k a e).elim,?_,λk a e=>(c k a e).elim,λb p o k a _ _ e=>(c k a e).elim⟩
 ·intro j x r l;rw [Array.getElem?_eq_none (by simp;omega)] at l;cases l
 ·intro f d;simp at d
 ·rintro said ⟨i,j,n,⟨a,b,q,_⟩,_⟩;exact c i a q
 ·intro f d;simp at d
end
end Go.Ns
namespace Go.Ns
open Go.Conc Go.ChangeShapes Go.WideShapes Go.ChangeAt Go.RowKit
section
variable {P:Program} {W:World}
theorem W7{b off n:Nat}{cs:List aU}(h:W.cells? 0 ⟨b,off,none⟩ n=some cs)(hn:0<n):AN (V.of W) b off n cs.toArray:=by
 obtain ⟨_,p,k⟩:=World.cells?_some h;have hcell:∀i,i<n->W.cell? ⟨b,off+i,none⟩=cs[i]? :=λi d=>by
  have:=k i d
  unfold Addr.add at this;split at this
  ·rename_i e;subst e;exact this
  ·exact this
 have j:=hcell 0 hn;unfold World.cell? at j;cases g:W.heap[b]? with
 | none=>simp [g,List.getElem?_eq_getElem (show 0<cs.length by omega)] at j
 | some o=>
  cases o with
  | cells c t f=>
   have a:∀i,i<n->c[off+i]? =cs[i]? :=λi d=>by
    have:=hcell i d
    unfold World.cell? at this;simpa [g] using this
   have hlast:=a (n-1) Y;rw [List.getElem?_eq_getElem (show n-1<cs.length by omega)] at hlast;have l:=(Array.getElem?_eq_some_iff.1 hlast).1;refine ⟨false,c,t,f,V.of_some g,Y,?_⟩;apply Array.ext
   ·simp;omega
   ·intro i q m;have d:i<n:=by simp at m;omega
    have:=a i d
    rw [Array.getElem?_eq_getElem Y,List.getElem?_eq_getElem Y] at this;simpa using this
  | _=>simp [g,List.getElem?_eq_getElem (show 0<cs.length by omega)] at j
def Pc(P:Program)(W:World)(e:aV){U:Type}(enc:U->Array aU)(good:U->Prop):Prop:=
 ∀{H:Type}(en:aV×aU->H)(sp:Nat->Bool)(held:Bool)(fuel:Nat)(cs:List aU)(x:DataW H×List MemPlace),DataW.trod en P W 0 sp held fuel e cs=some x->(∀y ∈ x.1.weights P e,y<=reachBytes)->∃a:U,cs=(enc a).toList/\good a
theorem J0{H:Type}{e:aV}{d:DataW H}{y:Nat}:∀{l:List (DataW H)},d ∈ l->y ∈ d.weights P e->y ∈ DataW.weightsAll P e l
 | c ::l,hd,a=>by
  unfold DataW.weightsAll;rcases List.mem_cons.1 hd with rfl | hd
  ·exact List.mem_append_left _ a
  ·exact List.mem_append_right _ (J0 hd a)
theorem J1{H:Type}{en:aV×aU->H}{sp:Nat->Bool}{held:Bool}{fuel:Nat}{t e:aV}{n:Nat}{U:Type}{enc:U->Array aU}{good:U->Prop}{v:aU}{d:DataW H}{ps:List MemPlace}(ht:P.underlying t=some (.slice e))(hc:P.cellsOf e=n)(hn:0<n)
  (hb:1<=P.bytesOf e) (ho:Pc P W e enc good) (h:DataW.trod en P W 0 sp held fuel t [v]=some (d,ps)) (hw:∀y ∈ d.weights P t,y<=reachBytes):∃xs:List U,AD (V.of W) v n enc xs/\∀x ∈ xs,good x:=by
 rcases DataW.trod_slice ht h with ⟨o,_⟩ | ⟨a,f,p,elems,rest,m,rfl,o,C,_,N,_,D,q,_,_⟩
 ·simp at o;subst o;exact ⟨[],AD.nil _ _ _,λx j=>by cases j⟩
 ·simp only [List.cons.injEq,and_true] at o;subst o;simp only [Prod.mk.injEq] at C;have E:d=.slice (elems.map (·.1)) (rest.map (·.1)):=C.1;have r:f<=140737488355328:=by
   have:=hw ((elems.map (·.1)).length+(rest.map (·.1)).length |>.mul (P.bytesOf e)) (by rw [E];unfold DataW.weights;rw [ht];exact List.mem_cons_self ..)
   have O:(elems.map (·.1)).length+(rest.map (·.1)).length<=((elems.map (·.1)).length+(rest.map (·.1)).length)*P.bytesOf e:=Nat.le_mul_of_pos_right _ hb;have F:((elems.map (·.1)).length+(rest.map (·.1)).length)*P.bytesOf e<=reachBytes:=this;rw [List.length_map] at O F;unfold reachBytes at F;omega
  have each:∀i,i<f->∃x:U,∃b c,a=⟨b,c,none⟩/\AN (V.of W) b (c+i*n) n (enc x)/\good x:=λi l=>by
   have:=q i l
   rw [List.getElem?_eq_getElem Y,hc] at this;simp only [Option.bind_eq_some_iff] at this;obtain ⟨Q,g,j⟩:=this;obtain ⟨x,u,w⟩:=ho _ _ _ _ _ _ j λy R=>hw y (by rw [E];unfold DataW.weights;rw [ht];exact List.mem_cons_of_mem _ (List.mem_append_left _ (J0 (List.mem_map.2 ⟨_,List.getElem_mem (show i<elems.length by omega),rfl⟩) R)));have s:=(World.cells?_some g).2.2 0 hn;have A:=(World.cells?_some g).2.1;rw [List.getElem?_eq_getElem (show 0<Q.length by omega)] at s;have B:=World.cell?_spot s;obtain ⟨b,c,spot⟩:=a;have hspot:spot=none\/i≠0:=by
    by_cases K:i=0
    ·subst K;left;simpa [Addr.add] using B
    ·exact .inr K
   have hfirst:spot=none:=by
    rcases hspot with e | e
    ·exact e
    ·have h00:=q 0 Y;rw [List.getElem?_eq_getElem Y,hc] at h00;simp only [Option.bind_eq_some_iff] at h00;obtain ⟨S,hc00,_⟩:=h00;have z:=(World.cells?_some hc00).2.2 0 hn;have zl:=(World.cells?_some hc00).2.1;rw [List.getElem?_eq_getElem (show 0<S.length by omega)] at z
     have:=World.cell?_spot z
     simpa [Addr.add] using this
   subst hfirst;refine ⟨x,b,c,rfl,?_,w⟩;have T:(Addr.add ⟨b,c,none⟩ (i*n))=⟨b,c+i*n,none⟩:=by
    unfold Addr.add;split
    ·rename_i e;rw [e];rfl
    ·rfl
   rw [T] at g
   have:=W7 g hn
   rw [u] at this;simpa using this
  by_cases X:f=0
  ·subst X;exact ⟨[],⟨some a,p,rfl,Nat.zero_le _,Nat.zero_le _,λi l=>by simp at l⟩,λx j=>by cases j⟩
  ·have k:∀i:Fin f,∃x:U,∃b c,a=⟨b,c,none⟩/\AN (V.of W) b (c+i.val*n) n (enc x)/\good x:=λi=>each i.val i.isLt;refine ⟨List.ofFn λi=>Classical.choose (k i),⟨some a,p,by rw [List.length_ofFn],by rw [List.length_ofFn];exact N,by rw [List.length_ofFn];exact r,λi l=>?_⟩,λx j=>?_⟩
   ·rw [List.length_ofFn] at l;obtain ⟨b,c,u,w,_⟩:=Classical.choose_spec (k ⟨i,l⟩);refine ⟨b,c,by rw [u],?_⟩;rw [List.getElem_ofFn];exact w
   ·obtain ⟨i,rfl⟩:=List.mem_ofFn.1 j;obtain ⟨_,_,_,_,e3⟩:=Classical.choose_spec (k i);exact e3
theorem SC{H:Type}{en:aV×aU->H}{t:aV}(hl:laidOutB P=true)(hr:P.readableRec t=true)(hrow:t<P.types.size){W':World}{v:aU}{d:DataW H}{ps:List MemPlace}(h:DataW.Trod en P W 0 (λ_=>true) true t v d ps)
  (hk:∀(b:Nat)(o:Obj),W.heap[b]? =some o->W'.heap[b]? =some o) (hlt:∀x ∈ ps,x.block<W.heap.size):DataW.Trod en P W' 0 (λb=>decide (b<W.heap.size)) true t v d ps:=by
 let W2:World:={ W' with os:=W.os,tape:=W.tape,output:=W.output };have c:W.heap.size<=W'.heap.size:=by
  rcases Nat.lt_or_ge W'.heap.size W.heap.size with x | x
  ·have:=hk W'.heap.size _ (Array.getElem?_eq_getElem x)
   rw [Array.getElem?_eq_none (Nat.le_refl _)] at this;cases this
  ·exact x
 have e:Below W.heap.size W W2:=⟨rfl,rfl,rfl,c,λk a=>by
  show W'.heap[k]? =_;rw [Array.getElem?_eq_getElem a];exact hk k _ (Array.getElem?_eq_getElem a)⟩
 exact DataW.Trod.of_heap (w:=W2) (w':=W') rfl (Below.trod hl hr hrow h e hlt)
theorem kept_but{W':World}(hk:∀(b:Nat)(o:Obj),W.heap[b]? =some o->W'.heap[b]? =some o)(ho:W'.os=W.os)(hp:W'.output=W.output)(may:MemPlace->Prop):W.keptBut W' may:=by
 refine ⟨ho,hp,λi a=>?_⟩;rw [hk i _ (Array.getElem?_eq_getElem a),Array.getElem?_eq_getElem a];split <;> simp_all
end
end Go.Ns
namespace Go.Ns
open Go.Conc
universe u
theorem Z{U:Sort u}{a:U}:a=a:=rfl
theorem Lr{h:V}:V.Le h h:=V.Le.refl h
theorem Ln{h h':V}(l:h.Le h'){r:Nat}(hr:h' r=none):h r=none:=l.nothing hr
theorem CL{h:V}{b r:Nat}{p:Bool}{o:Obj}(hb:h b=some (p,o))(hr:h r=none):b≠r:=V.ne_of hb hr
theorem Nb{a b:Nat}(h:Nat.ble a b=true):a<=b:=Nat.le_of_ble_eq_true h
theorem Dn{p:Prop}[Decidable p](h:¬¬p):p:=Decidable.not_not.1 h
theorem Et{U:Sort u}{a b c:U}(x:a=b)(y:b=c):a=c:=x.trans y
theorem Kl{h0 h:V}(k:EC (λb=>h0 b=none) h0 h):h0.Le h:=k.leOf
theorem Bx{h:V}{b:Nat}{p:Bool}{c:Array aU}{t:aV}{f:Nat×Nat}(hb:h b=some (p,.cells c t f)){n:Nat}(hn:c.size=n):AN h b 0 n c:=AN.box hb hn
abbrev lE(v:aU):IG:=λ_ u _=>u=v
abbrev lF(v:aU):QT:=λu _=>u=v
abbrev zP:Array aU:=#[.int .i64 0,.int .i64 0,.slice none 0 0,.slice none 0 0,.slice none 0 0,.slice none 0 0,.map none]
section
variable {P:Program} {E:F8 P} {O:Nat->aU} {ds:List Deferred} {h:V} {Q:Post} {T:(Nat->aU)->List Deferred->V->Prop}
variable {dst:Option Nat} {ty:aV} {pos:String} {af:Array Edge} {ops:Array Oper} {o:Oper} {l:List Oper}
theorem Sq{x y:Code}(a:Tr E x O ds h (λe σ' ds' h'=>match e with | .normal=>Tr E y σ' ds' h' Q | e=>Q e σ' ds' h')):Tr E (.seq x y) O ds h Q:=tr_seq a
theorem Rg{id:Nat}{l:List Oper}(a:DI E l.toArray l O ds h Q):Tr E (.region id l.toArray false) O ds h Q:=Y9 a
theorem M(q:Q .normal O ds h):DI E ops [] O ds h Q:=trL_nil q
abbrev Rt:=@tr_ret
abbrev Bk:=@tr_block
abbrev Sk:=@tr_skip
abbrev Xt:=@tr_exit
def plainB(N:Nat)(o:Oper):Bool:=o.guard.isNone && !EK o.op && DK o.dst N
theorem L(hp:plainB E.N o=true)(x:BS E o O ds h λσ' ds' h'=>DI E ops l σ' ds' h' Q):DI E ops (o ::l) O ds h Q:=by
 simp only [plainB,Bool.and_eq_true,Option.isNone_iff_eq_none,Bool.not_eq_true'] at hp;exact GC hp.1.1 hp.1.2 hp.2 x
theorem Mv{x:Operand}(v:aU)(hp:DK dst E.N=true)(hx:AL O x=v)(k:DI E ops l (putS O dst v) ds h Q):DI E ops (⟨dst,.move x,ty,pos,af,none⟩ ::l) O ds h Q:=GC rfl rfl hp (Su hx k)
theorem As{x:Operand}(v:aU)(hp:DK dst E.N=true)(hx:AL O x=v)(k:DI E ops l (putS O dst v) ds h Q):DI E ops (⟨dst,.assign x,ty,pos,af,none⟩ ::l) O ds h Q:=GC rfl rfl hp (Mi hx k)
theorem Ld{t:aV}{x:Operand}{b off:Nat}(v:aU)(hp:DK dst E.N=true)(hx:AL O x=.pointer (some ⟨b,off,none⟩))(hr:Rd P h t b off v)(k:DI E ops l (putS O dst v) ds h Q):DI E ops (⟨dst,.load t x,ty,pos,af,none⟩ ::l) O ds h Q:=
 GC rfl rfl hp (B8 hx hr k)
theorem Fa{s:aV}{x:Operand}{f o b off:Nat}(hf:CM P s f=some o)(hp:DK dst E.N=true)(hx:AL O x=.pointer (some ⟨b,off,none⟩))(k:DI E ops l (putS O dst (.pointer (some ⟨b,off+o,none⟩))) ds h Q) :
  DI E ops (⟨dst,.fieldAddr s x f,ty,pos,af,none⟩ ::l) O ds h Q:=GC rfl rfl hp (AE hf hx k)
theorem Pk{c a b:Operand}(t:Bool)(v:aU)(hp:DK dst E.N=true)(hc:AL O c=.bool t)(hv:(if t then AL O a else AL O b)=v)(k:DI E ops l (putS O dst v) ds h Q):DI E ops (⟨dst,.pick c a b,ty,pos,af,none⟩ ::l) O ds h Q:=
 GC rfl rfl hp (Ax hc hv k)
theorem Ad{xt yt:aV}{x y:Operand}(a b:Int)(hp:DK dst E.N=true)(hx:AL O x=.int .i64 a)(hy:AL O y=.int .i64 b)(hr: -9223372036854775808<=a+b/\a+b<=9223372036854775807)(k:DI E ops l (putS O dst (.int .i64 (a+b))) ds h Q) :
  DI E ops (⟨dst,.binOp .add xt x y yt,ty,pos,af,none⟩ ::l) O ds h Q:=GC rfl rfl hp (C9 hx hy hr k)
def skipB(N:Nat)(ops:Array Oper)(o:Oper)(j d:Nat)(is:Bool):Bool:=(match o.guard with
 | some (i,w)=>i==j && w !=is
 | none=>false) && (match ops[j]? with
 | some oj=>(match oj.dst with
  | some e=>e==d
  | none=>false)
 | none=>false) && Nat.blt d N && DK o.dst N
theorem Gs(j d:Nat){is:Bool}(hv:O d=.bool is)(hs:skipB E.N ops o j d is=true)(x:DI E ops l (putS O o.dst undef) ds h Q):DI E ops (o ::l) O ds h Q:=by
 simp only [skipB,Bool.and_eq_true] at hs;obtain ⟨⟨⟨a,b⟩,m⟩,n⟩:=hs;cases f:o.guard with
 | none=>rw [f] at a;cases a
 | some q=>
  obtain ⟨i,w⟩:=q;rw [f] at a;simp only [Bool.and_eq_true,beq_iff_eq,bne_iff_ne,ne_eq] at a;obtain ⟨rfl,g⟩:=a;cases c:ops[i]? with
  | none=>rw [c] at b;cases b
  | some p=>
   cases k:p.dst with
   | none=>simp [c,k] at b
   | some e=>
    obtain rfl:e=d:=by simpa [c,k] using b
    exact OT f c k hv m g n x
def goB(N:Nat)(ops:Array Oper)(o:Oper)(j d:Nat)(is:Bool):Bool:=(match o.guard with
 | some (i,w)=>i==j && w==is
 | none=>false) && (match ops[j]? with
 | some oj=>(match oj.dst with
  | some e=>e==d
  | none=>false)
 | none=>false) && Nat.blt d N && !EK o.op && DK o.dst N
theorem Gg(j d:Nat){is:Bool}(hv:O d=.bool is)(hs:goB E.N ops o j d is=true)(x:BS E o O ds h λσ' ds' h'=>DI E ops l σ' ds' h' Q):DI E ops (o ::l) O ds h Q:=by
 simp only [goB,Bool.and_eq_true,Bool.not_eq_true'] at hs;obtain ⟨⟨⟨⟨a,b⟩,k⟩,m⟩,n⟩:=hs;cases f:o.guard with
 | none=>rw [f] at a;cases a
 | some q=>
  obtain ⟨i,w⟩:=q;rw [f] at a;simp only [Bool.and_eq_true,beq_iff_eq] at a;obtain ⟨rfl,rfl⟩:=a;cases c:ops[i]? with
  | none=>rw [c] at b;cases b
  | some p=>
   cases g:p.dst with
   | none=>simp [c,g] at b
   | some e=>
    obtain rfl:e=d:=by simpa [c,g] using b
    exact trL_opg f c g hv k (.inr m) n x
end
section
variable {S:Nat->Prop} {Pre:Nat->V->Prop} {Φ:List IG} {cl:List Nat} {k d:Nat} {h h':V} {O:Nat->aU} {ds:List Deferred} {v:aU}
theorem fL{Φ:List QT}(p:Lm Φ k v h):ds=ds/\V.Le h h/\∃w,putS O (some d) v=putS O (some d) w/\Lm Φ k w h:=⟨rfl,V.Le.refl _,_,rfl,p⟩
theorem K1{R:V->V->Prop}{Φ:List QT}{a:aU}(x:FU R Φ):FU R (lF a ::Φ):=⟨λ_ _ _ _ y=>y,x⟩
theorem K2{R:V->V->Prop}{Φ:List QT}{a b:aU}(x:FU R Φ):FU R (lF a ::lF b ::Φ):=K1 (K1 x)
theorem K4{R:V->V->Prop}{Φ:List QT}{a b c d:aU}(x:FU R Φ):FU R (lF a ::lF b ::lF c ::lF d ::Φ):=K2 (K2 x)
theorem K8{R:V->V->Prop}{Φ:List QT}{a b c d a' b' c' d':aU}(x:FU R Φ):FU R (lF a ::lF b ::lF c ::lF d ::lF a' ::lF b' ::lF c' ::lF d' ::Φ):=K4 (K4 x)
end
end Go.Ns
namespace Go.Ns
open Go.Conc
section
variable {S:Nat->Prop} {Pre:Nat->V->Prop} {Φ:List IG} {cl:List Nat} {k d:Nat} {h h':V} {O:Nat->aU} {ds:List Deferred} {v:aU}
theorem fS(p:GK Φ k (putS O (some d) v) v h):ds=ds/\St (EC S) Pre Φ cl k h h/\∃w,putS O (some d) v=putS O (some d) w/\GK Φ k (putS O (some d) v) w h/\((some d:Option Nat)=none->w=undef):=
 ⟨rfl,St.same,_,rfl,p,λe=>by cases e⟩
theorem fT(l:h.Le h')(m:D9 V.Le Φ)(p:GK Φ k (putS O (some d) v) v h'):ds=ds/\St (EC S) (λ_ _=>True) Φ cl k h h'/\∃w,putS O (some d) v=putS O (some d) w/\GK Φ k (putS O (some d) v) w h'/\((some d:Option Nat)=none->w=undef):=
 ⟨rfl,St.ofLe l m (λ_ _ _ _ _=>trivial),_,rfl,p,λe=>by cases e⟩
theorem L1{R:V->V->Prop}{a:aU}(x:D9 R Φ):D9 R (lE a ::Φ):=⟨λ_ _ _ _ _ y=>y,x⟩
theorem L2{R:V->V->Prop}{a b:aU}(x:D9 R Φ):D9 R (lE a ::lE b ::Φ):=L1 (L1 x)
theorem L4{R:V->V->Prop}{a b c d:aU}(x:D9 R Φ):D9 R (lE a ::lE b ::lE c ::lE d ::Φ):=L2 (L2 x)
theorem L8{R:V->V->Prop}{a b c d a' b' c' d':aU}(x:D9 R Φ):D9 R (lE a ::lE b ::lE c ::lE d ::lE a' ::lE b' ::lE c' ::lE d' ::Φ):=L4 (L4 x)
end
theorem Dk{P:Program}{E:F8 P}{S:Nat->Prop}{id:Nat}{l:List Oper}{O:Nat->aU}{ds:List Deferred}{h:V}{Q:Post}{Φ:List IG}(_:D9 V.Le Φ)(n:Nat)(cls:List (List Nat))(Pre:Nat->V->Prop)
  (hm:P.follows .mixedOrders=true) (ok:Ez E.N l n cls=true) (p0:∀k,k<n->Pre k h) (ind:TH l n cls Φ) (x:Jm (EC S) Pre E l n Φ O ds h Q n 0 l cls):Tr E (.region id l.toArray true) O ds h Q:=
 ZK n cls Φ Pre hm ok p0 ind x
end Go.Ns
namespace Go.Ns
open Go.Conc
section
variable {P:Program} {E:F8 P} {O:Nat->aU} {ds:List Deferred} {h:V} {Q:Post} {T:(Nat->aU)->List Deferred->V->Prop}
variable {dst:Option Nat} {ty:aV} {pos:String} {af:Array Edge} {ops:Array Oper} {o:Oper} {l:List Oper} {gd:Option (Nat×Bool)}
theorem Mz{x:Operand}(v:aU)(e:(DK dst E.N,AL O x)=(true,v))(k:DI E ops l (putS O dst v) ds h Q):DI E ops (⟨dst,.move x,ty,pos,af,none⟩ ::l) O ds h Q:=Mv v (congrArg Prod.fst e) (congrArg Prod.snd e) k
theorem I{x:Operand}(v:aU)(e:(DK dst E.N,AL O x)=(true,v))(k:DI E ops l (putS O dst v) ds h Q):DI E ops (⟨dst,.assign x,ty,pos,af,none⟩ ::l) O ds h Q:=As v (congrArg Prod.fst e) (congrArg Prod.snd e) k
theorem Lz{t:aV}{x:Operand}{b off:Nat}(v:aU)(e:(DK dst E.N,AL O x)=(true,.pointer (some ⟨b,off,none⟩)))(hr:Rd P h t b off v)(k:DI E ops l (putS O dst v) ds h Q):DI E ops (⟨dst,.load t x,ty,pos,af,none⟩ ::l) O ds h Q:=
 Ld v (congrArg Prod.fst e) (congrArg Prod.snd e) hr k
theorem Fz{s:aV}{x:Operand}{f o b off:Nat}(hf:CM P s f=some o)(e:(DK dst E.N,AL O x)=(true,.pointer (some ⟨b,off,none⟩)))(k:DI E ops l (putS O dst (.pointer (some ⟨b,off+o,none⟩))) ds h Q) :
  DI E ops (⟨dst,.fieldAddr s x f,ty,pos,af,none⟩ ::l) O ds h Q:=Fa hf (congrArg Prod.fst e) (congrArg Prod.snd e) k
theorem Pz{c a b:Operand}(t:Bool)(v:aU)(e:(DK dst E.N,AL O c,(if t then AL O a else AL O b))=(true,.bool t,v))(k:DI E ops l (putS O dst v) ds h Q):DI E ops (⟨dst,.pick c a b,ty,pos,af,none⟩ ::l) O ds h Q:=
 Pk t v (congrArg Prod.fst e) (congrArg (λq=>q.2.1) e) (congrArg (λq=>q.2.2) e) k
theorem Yd{xt yt:aV}{x y:Operand}{a b:Int}(e:(DK dst E.N,AL O x,AL O y)=(true,.int .i64 a,.int .i64 b))(hr: -9223372036854775808<=a+b/\a+b<=9223372036854775807)(k:DI E ops l (putS O dst (.int .i64 (a+b))) ds h Q) :
  DI E ops (⟨dst,.binOp .add xt x y yt,ty,pos,af,none⟩ ::l) O ds h Q:=Ad a b (congrArg Prod.fst e) (congrArg (λq=>q.2.1) e) (congrArg (λq=>q.2.2) e) hr k
theorem Mo{x:Operand}(v:aU)(hx:AL O x=v)(k:T (putS O dst v) ds h):BS E ⟨dst,.move x,ty,pos,af,gd⟩ O ds h T:=Su hx k
theorem Lo{t:aV}{x:Operand}{b off:Nat}(v:aU)(hx:AL O x=.pointer (some ⟨b,off,none⟩))(hr:Rd P h t b off v)(k:T (putS O dst v) ds h):BS E ⟨dst,.load t x,ty,pos,af,gd⟩ O ds h T:=B8 hx hr k
theorem Ex{x:Operand}{n:Nat}{vs:Array aU}(v:aU)(e:(AL O x,vs[n]?)=(.tuple vs,some v))(k:T (putS O dst v) ds h):BS E ⟨dst,.extract x n,ty,pos,af,gd⟩ O ds h T:=WF (congrArg Prod.fst e) (congrArg Prod.snd e) k
theorem Bo{t:aV}{x:Operand}{v:aU}(c:Array aU)(hx:AL O x=v)(hc:v.cells=c)
  (k:∀r h',h r=none->h.Le h'->h' r=some (true,.cells c t (0,0))->(∀b,b≠r->h' b=h b)->T (putS O dst (.pointer (some ⟨r,0,none⟩))) ds h'):BS E ⟨dst,.box t x,ty,pos,af,gd⟩ O ds h T:=ok_box' hx hc k
theorem So{t:aV}{a x:Operand}{b off n:Nat}{g:Bool}{c:Array aU}{et:aV}(v:aU)(c':Array aU)(ht:Bz P t=some (g,n))(e:(AL O a,AL O x)=(.pointer (some ⟨b,off,none⟩),v))(hb:h b=some (true,.cells c et (0,0)))
  (e2:(v.cells.size,Value.fine v)=(n,true)) (hn:off+n<=c.size) (hc:BV c off v.cells.toList=c') (k:∀h',h' b=some (true,.cells c' et (0,0))->(∀x,x≠b->h' x=h x)->T (putS O dst undef) ds h') :
  BS E ⟨dst,.store t a x,ty,pos,af,gd⟩ O ds h T:=Ac ht (congrArg Prod.fst e) (congrArg Prod.snd e) hb (congrArg Prod.fst e2) (congrArg Prod.snd e2) hn hc k
theorem Ot{fn:Func}{R:aU->V->Prop}{t:Tmp}(v:aU)(e:(fn.results,O t)=(#[.tmp t],v))(x:R v h):Fk P fn O R [] h:=JS (congrArg Prod.fst e) (congrArg Prod.snd e) x
theorem Ou{fn:Func}{R:aU->V->Prop}{t u:Tmp}(v v':aU)(e:(fn.results,O t,O u)=(#[.tmp t,.tmp u],v,v'))(x:R (.tuple #[v,v']) h):Fk P fn O R [] h:=outs2 (congrArg Prod.fst e) (congrArg (λq=>q.2.1) e) (congrArg (λq=>q.2.2) e) x
theorem Sr{id:Nat}{y:Code}(a:DI E l.toArray l O ds h (λe σ' ds' h'=>match e with | .normal=>Tr E y σ' ds' h' Q | e=>Q e σ' ds' h')):Tr E (.seq (.region id l.toArray false) y) O ds h Q:=Sq (Rg a)
theorem S2{id:Nat}{y z:Code}(a:DI E l.toArray l O ds h (λe σ' ds' h'=>match e with | .normal=>Tr E y σ' ds' h' (λe σ' ds' h'=>match e with | .normal=>Tr E z σ' ds' h' Q | e=>Q e σ' ds' h') | e=>(λe σ' ds' h'=>match e with | .normal=>Tr E z σ' ds' h' Q | e=>Q e σ' ds' h') e σ' ds' h')) :
  Tr E (.seq (.seq (.region id l.toArray false) y) z) O ds h Q:=Sq (Sq (Rg a))
theorem Zr{U:Type}{a b:U}:a=b\/a=a:=.inr rfl
theorem M2{x x':Operand}{dst':Option Nat}{ty':aV}{pos':String}{af':Array Edge}(v v':aU)(e:(DK dst E.N,AL O x,DK dst' E.N,AL (putS O dst v) x')=(true,v,true,v'))(k:DI E ops l (putS (putS O dst v) dst' v') ds h Q):DI E ops (⟨dst,.move x,ty,pos,af,none⟩ ::⟨dst',.move x',ty',pos',af',none⟩ ::l) O ds h Q:=
 Mv v (congrArg Prod.fst e) (congrArg (λq=>q.2.1) e) (Mv v' (congrArg (λq=>q.2.2.1) e) (congrArg (λq=>q.2.2.2) e) k)
theorem A2{x x':Operand}{dst':Option Nat}{ty':aV}{pos':String}{af':Array Edge}(v v':aU)(e:(DK dst E.N,AL O x,DK dst' E.N,AL (putS O dst v) x')=(true,v,true,v'))(k:DI E ops l (putS (putS O dst v) dst' v') ds h Q):DI E ops (⟨dst,.assign x,ty,pos,af,none⟩ ::⟨dst',.assign x',ty',pos',af',none⟩ ::l) O ds h Q:=
 As v (congrArg Prod.fst e) (congrArg (λq=>q.2.1) e) (As v' (congrArg (λq=>q.2.2.1) e) (congrArg (λq=>q.2.2.2) e) k)
theorem Ct{W:Wk P}{f:FuncId}{fn:Func}{c:Code}{args:Array aU}{R:aU->V->Prop}(hf:P.funcs[f]? =some fn)(e:(fn.body,Nat.ble args.size fn.ntmps)=(some c,true))
  (x:Tr ⟨W,f,none,fn.ntmps⟩ c (λi=>args.getD i undef) [] h (λe O ds h'=>(e=.normal\/e=.ret)/\Fk P fn O R ds h')):AW W f args h R:=WD hf (congrArg Prod.fst e) (Nat.le_of_ble_eq_true (congrArg Prod.snd e)) x
end
section
variable {P:Program} {E:F8 P} {l:List Oper} {n:Nat} {fl:Bool} {hs:V} {ds:List Deferred} {Lw:Nat->aU->V->Prop} {F:(Nat->aU)->V->Prop} {aO:List Nat} {O:Nat->aU} {h:V} {m k g d:Nat} {dst:Option Nat} {op:Op} {ty:aV} {pos:String} {af:Array Edge} {v:aU} {w is:Bool} {og:Oper}
theorem Rz(e:(Nx m,l[k]?)=((.r,k),some ⟨dst,op,ty,pos,af,none⟩))(x:US E ⟨dst,op,ty,pos,af,none⟩ O ds h v)(y:TD E l n fl hs ds Lw F (dK aO) (putS O dst v) h):TD E l n fl hs ds Lw F (dK (m ::aO)) O h:=tR (congrArg Prod.fst e) (congrArg Prod.snd e) x y
theorem Rm{x:Operand}(v:aU)(e:(Nx m,l[k]?,AL O x)=((.r,k),some ⟨dst,.move x,ty,pos,af,none⟩,v))(y:TD E l n fl hs ds Lw F (dK aO) (putS O dst v) h):TD E l n fl hs ds Lw F (dK (m ::aO)) O h:=
 tR (congrArg Prod.fst e) (congrArg (λq=>q.2.1) e) (Su (congrArg (λq=>q.2.2) e) vz) y
theorem Rl{t:aV}{x:Operand}{b off:Nat}(v:aU)(e:(Nx m,l[k]?,AL O x)=((.r,k),some ⟨dst,.load t x,ty,pos,af,none⟩,.pointer (some ⟨b,off,none⟩)))(hr:Rd P h t b off v)(y:TD E l n fl hs ds Lw F (dK aO) (putS O dst v) h):TD E l n fl hs ds Lw F (dK (m ::aO)) O h:=
 tR (congrArg Prod.fst e) (congrArg (λq=>q.2.1) e) (B8 (congrArg (λq=>q.2.2) e) hr vz) y
theorem Py(e:(Nx m,l[k]?)=((.p,k),some ⟨dst,op,ty,pos,af,none⟩))(x:∀hx,US E ⟨dst,op,ty,pos,af,none⟩ O ds hx v)(y:TD E l n fl hs ds Lw F (dK aO) (putS O dst v) h):TD E l n fl hs ds Lw F (dK (m ::aO)) O h:=tP (congrArg Prod.fst e) (congrArg Prod.snd e) x y
theorem Ry(e:(Nx m,l[k]?,l[g]?,og.dst)=((.r,k),some ⟨dst,op,ty,pos,af,some (g,w)⟩,some og,some d))(h3:O d=.bool w)(x:US E ⟨dst,op,ty,pos,af,some (g,w)⟩ O ds h v)
  (y:TD E l n fl hs ds Lw F (dK aO) (putS O dst v) h):TD E l n fl hs ds Lw F (dK (m ::aO)) O h:=tRg (congrArg Prod.fst e) (congrArg (λq=>q.2.1) e) (congrArg (λq=>q.2.2.1) e) (congrArg (λq=>q.2.2.2) e) h3 x y
theorem Sz{kd:Kd}(e:(Nx m,l[k]?,l[g]?,og.dst)=((kd,k),some ⟨dst,op,ty,pos,af,some (g,w)⟩,some og,some d))(h3:O d=.bool is)(hne:(is==w)=false)
  (y:TD E l n fl hs ds Lw F (dK aO) (putS O dst undef) h) (hl:(kd !=Kd.l)=true:=by rfl):TD E l n fl hs ds Lw F (dK (m ::aO)) O h:=tS (congrArg Prod.fst e) (congrArg (λq=>q.2.1) e) (congrArg (λq=>q.2.2.1) e) (congrArg (λq=>q.2.2.2) e) h3 hne y hl
end
end Go.Ns
namespace Go.Ns
open Go.Conc
abbrev J(x:Int):aU:=.int .i64 x
abbrev Pt(b:Nat):aU:=.pointer (some ⟨b,0,none⟩)
abbrev Sc(b:Nat)(n c:Nat):aU:=.slice (some ⟨b,0,none⟩) n c
abbrev Q0:Array aU:=#[J 0,J 0,.slice none 0 0,.slice none 0 0,.slice none 0 0,.slice none 0 0]
abbrev Q1(a:List AC)(b:Nat):Array aU:=#[.string ((a.getD b AC.z).nm),J ((a.getD b AC.z).cost),J ((a.getD b AC.z).stock),J ((a.getD b AC.z).low),J ((a.getD b AC.z).high),(a.getD b AC.z).pv]
abbrev Q2:Array aU:=#[J 0,J 0,J 0,J 0,J 0,J 0,J 0,J 0,J 0,.bool false,.bool false,.bool false,.bool false,.bool false,.bool false]
abbrev Q3(a:Int)(b:Int)(c:List Good)(d:List AI)(e:List AP)(f:Int)(g:Int)(h:Int):=At a b c d e [if (decide (0<=f/\f<=(c.length:Int)-1)) then (0:Int) else 6,if (decide (1<=g/\g<=a)) then (0:Int) else 1,if (decide (g<=h/\h<=a)) then (0:Int) else 1]
abbrev Q4(a:Int)(b:List Good)(c:List AI)(d:List AP)(e:Int)(f:Nat):=(AY a b c d e).getD ((f:Int)).toNat AZ.zero
abbrev Q5(a:Int):=Kf (Kf a (FA a 13)) ((Kf a (FA a 13)) / 128)
abbrev Q6(a:Int)(b:List AI):=decide ((0<=a/\a<=(b.length:Int)-1)/\(b.getD a.toNat AI.z).kind=0)
abbrev Q7(a:Int)(b:Int)(c:List Good)(d:List AI)(e:List AP)(f:Int)(g:Int):=At a b c d e [if (decide (0<=f/\f<=(c.length:Int)-1)) then (0:Int) else 6,if (decide (0<=g/\g<=a)) then (0:Int) else 1]
abbrev Q8:aU:=.slice none 0 0
abbrev Q9(a:List Good)(b:Nat):=decide (((¬(0<=((a.getD b Good.z).cost)/\((a.getD b Good.z).cost)<=999))\/(¬(1<=((a.getD b Good.z).pack)/\((a.getD b Good.z).pack)<=20)))\/(¬(Gy ((a.getD b Good.z).low) ((a.getD b Good.z).high))))
abbrev Qa(a:List Int)(b:Nat):=a.getD (((b:Int)-1).toNat) 0
abbrev Qb(a:List AI)(b:Nat):Array aU:=#[J ((a.getD (b+1) AI.z).kind),J ((a.getD (b+1) AI.z).good),J ((a.getD (b+1) AI.z).day),J ((a.getD (b+1) AI.z).low),J ((a.getD (b+1) AI.z).high)]
abbrev Qc(a:Int)(b:Int)(c:List Good)(d:List AI)(e:List AP)(f:Int):=At a b c d e [if (decide (0<=f/\f<=(d.length:Int)-1)) then (0:Int) else 6]
abbrev Qd(a:List AI)(b:Nat):Array aU:=#[J ((a.getD b AI.z).kind),J ((a.getD b AI.z).good),J ((a.getD b AI.z).day),J ((a.getD b AI.z).low),J ((a.getD b AI.z).high)]
abbrev Qe(a:List Int)(b:List Int):=decide (((a.length:Int)<(b.length:Int))\/(((a.length:Int)=(b.length:Int))/\((TK a b)<0)))
abbrev Qf(a:List aU)(b:Array Int)(c:Nat)(d:Nat):=Bg a ((b.setIfInBounds c (b[d]!)).setIfInBounds d (b[c]!))
abbrev Qg(a:Nat)(b:Array Int)(c:Nat):=Sc a b.size c
abbrev Qh(a:Int)(b:Int)(c:List Good)(d:List AI)(e:List AP)(f:Int):=At a b c d e [if (decide (0<=f/\f<=a)) then (0:Int) else 1]
abbrev Qi(a:List AZ)(b:Int):=a.getD (b.toNat) AZ.zero
abbrev Qj(a:aW)(b:Nat):=decide ((¬(FF ((bytesOf a).getD b 0)))/\(((b:Int)=0)\/(¬(FL ((bytesOf a).getD b 0)))))
abbrev Qk(a:List Good)(b:Nat):Array aU:=#[.string ((a.getD b Good.z).name),J ((a.getD b Good.z).cost),J ((a.getD b Good.z).pack),J ((a.getD b Good.z).low),J ((a.getD b Good.z).high)]
abbrev Ql(a:Int)(b:List Good):=decide (0<=a/\a<=(b.length:Int)-1)
abbrev Qm(a:List Int)(b:List Int):=(AZ.zero.setFirsts a).setManys b
abbrev Qn(a:Int)(b:Int)(c:Int)(d:Int):=decide (((a<=b)/\(b<=c))/\(c<=d))
abbrev Qo(a:List Int)(b:Nat):=J (a.getD b 0)
abbrev Qp(a:Int)(b:Int):aU:=.bool (decide (a<=b))
abbrev Qq(a:List AP)(b:Nat):Array aU:=#[J ((a.getD b AP.z).good),J ((a.getD b AP.z).day),J ((a.getD b AP.z).low),J ((a.getD b AP.z).high)]
abbrev Qr(a:Int)(b:List AI)(c:List Good)(d:List AP)(e:Int)(f:Int)(g:Int):Array aU:=#[J ((CE (KL a b (AY a c b d e) f)).tdiv g),J ((Da (KL a b (AY a c b d e) f)).tdiv g)]
abbrev Qs(a:List AC)(b:Nat)(c:Nat):=(DO a b).getD c 0
abbrev Qt(a:Nat)(b:Nat)(c:Array Int)(d:Nat):=decide (((a:Int)<=(b:Int))/\(¬((c[b]!)<(c[d]!))))
abbrev Qu(a:List Int)(b:Nat):=(a.getD b 0).toNat
abbrev Qv(a:Nat)(b:Int):=decide ((0<(a:Int))/\(((b.fdiv (2 ^ ((a:Int)-1).toNat))%2)=1))
abbrev Qw:=Aq AZ.zero
abbrev Qx(a:List Int):=a.getD (((a.length:Int)-1).toNat) 0
abbrev Qy(a:Int)(b:Int):=decide (0<=a/\a<=b)
abbrev Qz(a:List AC)(b:Nat):Array aU:=#[J ((a.getD b AC.z).low),J ((a.getD b AC.z).high)]
abbrev Q10(a:List Good)(b:Nat):=Gy ((a.getD b Good.z).low) ((a.getD b Good.z).high)
abbrev Q11(a:List BM)(b:Nat):Array aU:=#[J ((a.getD b BM.z).low),J ((a.getD b BM.z).high)]
abbrev Q12(a:List AI)(b:AZ)(c:AP):=(AX a b c.good c.day).1
abbrev Q13(a:List BM)(b:Nat):Array aU:=#[(a.getD b BM.z).wv,J ((a.getD b BM.z).low),J ((a.getD b BM.z).high)]
abbrev Q14(a:Int)(b:Int):=decide (((0<=a/\a<=b)/\b<=99)/\((b-a)<3))
abbrev Q15(a:List aU)(b:Array Int)(c:Nat)(d:Nat):=Bg a (b.setIfInBounds c (b[d]!))
abbrev Q16(a:Nat):=J ((2*(a:Int))+1)
abbrev Q17(a:Nat)(b:Int)(c:Array Int)(d:Nat):=decide (((((2*(a:Int))+1)+1)<b)/\((c[(d+((2*a)+1))]!)<(c[((d+((2*a)+1))+1)]!)))
abbrev VI(a:Nat)(b:Nat)(c:Nat)(d:Nat):Array aU:=#[Pt a,Pt b,Pt c,Pt d]
abbrev Q19(a:Int)(b:List AI):=decide (0<=a/\a<=(b.length:Int)-1)
abbrev Q1a(a:Int)(b:Int)(c:Int):Array aU:=#[.string (⟨#[103]⟩++(Kg a)),J b,J 1,J c,J c]
abbrev Q1b(a:Int)(b:Int)(c:Int):=decide ((a<=b)/\(b<=c))
abbrev Q1c(a:Nat)(b:Nat):aU:=.bool (decide ((a:Int)<=(b:Int)))
abbrev Q1d(a:Int):aU:=.bool (decide (¬(0<=a/\a<=99)))
abbrev Q1e(a:List Good)(b:Nat):=(a.getD b Good.z).pack
abbrev Q1f(a:Nat)(b:Nat):=J ((a:Int)-(b:Int))
abbrev VJ(a:Int)(b:Int)(c:List Good)(d:List AI)(e:List AP):=J (Ah a b c d e)
abbrev Q1h(a:Nat)(b:Nat)(c:Array Int):=decide (((a:Int)<(b:Int))/\((c[b]!)<(c[((b:Int)-1).toNat]!)))
abbrev Z1(a:Nat->Int)(b:List Int)(c:Nat):=Dd a (b.take c)
abbrev Q1j(a:Int)(b:Int):=decide ((¬(1<=a/\a<=99))\/(¬(0<=b/\b<=2)))
abbrev Q1k(a:Nat):=J (((2*(a:Int))+1)+1)
abbrev Q1l(a:Nat)(b:Array Int)(c:Nat):=decide ((0<(a:Int))/\(¬((b[((a:Int)-1).toNat]!)<(b[c]!))))
abbrev Q1m(a:aW)(b:Nat):=(bytesOf a).getD b 0
abbrev Q1n(a:aW):=decide (((a.size:Int)<1)\/(10<(a.size:Int)))
abbrev Q1o(a:Int):=decide ((97<=a)/\(a<=122))
abbrev Q1p(a:Array Int)(b:Nat)(c:Nat):=decide (¬((a[b]!)<(a[c]!)))
abbrev Q1q(a:List Int)(b:Nat)(c:List Int):=J (TJ (a.getD b 0) (c.getD b 0))
abbrev Q1r(a:Int):=decide ((48<=a)/\(a<=57))
abbrev Q1s:Array UInt8:=#[48,49,50,51,52,53,54,55,56,57]
abbrev Cp(a:Int)(b:Int)(c:aU)(d:aU)(e:aU):Array aU:=#[J a,J b,c,d,e]
abbrev Q1u(a:List Good)(b:Nat):=(a.getD b Good.z).cost
end Go.Ns
namespace Go.Ns
open Go.Conc Go.Proofs Go.Proofs.Tryz
theorem RK:JT prog 103 103=some (121,15,80):=aB
theorem Du:JT prog 32 32=some (3,1,8):=aB
theorem VK:JT prog 47 47=some (45,5,40):=aB
theorem VL:JT prog 48 48=some (116,4,32):=aB
theorem Ng:JT prog 75 75=some (32,1,24):=aB
theorem VM:JT prog 78 78=some (174,5,40):=aB
theorem Nh:JT prog 84 84=some (93,4,32):=aB
theorem Z2:UL prog 119=some (6,false,1):=aB
theorem Z3:UL prog 153=some (4,false,1):=aB
theorem Z4:UL prog 172=some (4,false,1):=aB
theorem M3:IN prog 117=some (3,1):=aB
theorem M4:IN prog 118=some (6,1):=aB
theorem HL:IN prog 119=some (6,1):=aB
theorem Z5:IN prog 162=some (5,2):=aB
theorem Ib:IN prog 174=some (5,1):=aB
theorem MN:IN prog 88=some (5,1):=aB
theorem FI:IN prog 93=some (4,1):=aB
theorem KR:AJ Tryz.f10=true:=aB
theorem W8:AJ Tryz.f100=true:=aB
theorem LJ:AJ Tryz.f101=true:=aB
theorem W9:AJ Tryz.f102=true:=aB
theorem XA:AJ Tryz.f103=true:=aB
theorem XB:AJ Tryz.f104=true:=aB
theorem LK:AJ Tryz.f105=true:=aB
theorem Pd:AJ Tryz.f106=true:=aB
theorem XC:AJ Tryz.f107=true:=aB
theorem XD:AJ Tryz.f108=true:=aB
theorem XE:AJ Tryz.f109=true:=aB
theorem SD:AJ Tryz.f11=true:=aB
theorem Pe:AJ Tryz.f110=true:=aB
theorem XF:AJ Tryz.f111=true:=aB
theorem XG:AJ Tryz.f112=true:=aB
theorem Pf:AJ Tryz.f113=true:=aB
theorem XH:AJ Tryz.f114=true:=aB
theorem Pg:AJ Tryz.f115=true:=aB
theorem XI:AJ Tryz.f116=true:=aB
theorem XJ:AJ Tryz.f117=true:=aB
theorem XK:AJ Tryz.f118=true:=aB
theorem XL:AJ Tryz.f119=true:=aB
theorem M5:AJ Tryz.f12=true:=aB
theorem XM:AJ Tryz.f120=true:=aB
theorem XN:AJ Tryz.f121=true:=aB
theorem Ch:AJ Tryz.f122=true:=aB
theorem XO:AJ Tryz.f123=true:=aB
theorem XP:AJ Tryz.f124=true:=aB
theorem XQ:AJ Tryz.f126=true:=aB
theorem XR:AJ Tryz.f127=true:=aB
theorem LL:AJ Tryz.f128=true:=aB
theorem XS:AJ Tryz.f129=true:=aB
theorem Z6:AJ Tryz.f13=true:=aB
theorem XT:AJ Tryz.f130=true:=aB
theorem De:AJ Tryz.f131=true:=aB
theorem XU:AJ Tryz.f132=true:=aB
theorem Ph:AJ Tryz.f133=true:=aB
theorem Pi:AJ Tryz.f134=true:=aB
theorem XV:AJ Tryz.f135=true:=aB
theorem XW:AJ Tryz.f136=true:=aB
theorem LM:AJ Tryz.f137=true:=aB
theorem Pj:AJ Tryz.f138=true:=aB
theorem XX:AJ Tryz.f139=true:=aB
theorem Z7:AJ Tryz.f14=true:=aB
theorem XY:AJ Tryz.f140=true:=aB
theorem LN:AJ Tryz.f141=true:=aB
theorem Z8:AJ Tryz.f15=true:=aB
theorem XZ:AJ Tryz.f159=true:=aB
theorem Z9:AJ Tryz.f16=true:=aB
theorem Xa:AJ Tryz.f160=true:=aB
theorem Xb:AJ Tryz.f161=true:=aB
theorem Xc:AJ Tryz.f162=true:=aB
theorem Xd:AJ Tryz.f163=true:=aB
theorem Xe:AJ Tryz.f164=true:=aB
theorem Xf:AJ Tryz.f165=true:=aB
theorem Pm:AJ Tryz.f166=true:=aB
theorem Pn:AJ Tryz.f167=true:=aB
theorem Xg:AJ Tryz.f168=true:=aB
theorem Po:AJ Tryz.f169=true:=aB
theorem AAA:AJ Tryz.f17=true:=aB
theorem LO:AJ Tryz.f170=true:=aB
theorem Xh:AJ Tryz.f171=true:=aB
theorem Xi:AJ Tryz.f172=true:=aB
theorem Xj:AJ Tryz.f173=true:=aB
theorem Xk:AJ Tryz.f174=true:=aB
theorem Xl:AJ Tryz.f175=true:=aB
theorem Xm:AJ Tryz.f176=true:=aB
theorem Xn:AJ Tryz.f177=true:=aB
theorem Pp:AJ Tryz.f178=true:=aB
theorem Xo:AJ Tryz.f179=true:=aB
theorem AAB:AJ Tryz.f18=true:=aB
theorem Xp:AJ Tryz.f180=true:=aB
theorem Xq:AJ Tryz.f181=true:=aB
theorem SE:AJ Tryz.f19=true:=aB
theorem AAC:AJ Tryz.f20=true:=aB
theorem AAD:AJ Tryz.f21=true:=aB
theorem AAE:AJ Tryz.f22=true:=aB
theorem AAF:AJ Tryz.f23=true:=aB
theorem AAG:AJ Tryz.f24=true:=aB
theorem AAH:AJ Tryz.f25=true:=aB
theorem DU:AJ Tryz.f26=true:=aB
theorem AAI:AJ Tryz.f27=true:=aB
theorem AAJ:AJ Tryz.f28=true:=aB
theorem Ic:AJ Tryz.f29=true:=aB
theorem SF:AJ Tryz.f30=true:=aB
theorem M6:AJ Tryz.f31=true:=aB
theorem SG:AJ Tryz.f32=true:=aB
theorem AAK:AJ Tryz.f33=true:=aB
theorem KT:AJ Tryz.f34=true:=aB
theorem AAL:AJ Tryz.f35=true:=aB
theorem SH:AJ Tryz.f36=true:=aB
theorem AAM:AJ Tryz.f37=true:=aB
theorem AAN:AJ Tryz.f38=true:=aB
theorem HM:AJ Tryz.f39=true:=aB
theorem fx_call4:AJ Tryz.f4=true:=aB
theorem M7:AJ Tryz.f40=true:=aB
theorem AAO:AJ Tryz.f41=true:=aB
theorem AAP:AJ Tryz.f42=true:=aB
theorem M8:AJ Tryz.f43=true:=aB
theorem Ee:AJ Tryz.f44=true:=aB
theorem AAQ:AJ Tryz.f45=true:=aB
theorem AAR:AJ Tryz.f46=true:=aB
theorem AAS:AJ Tryz.f47=true:=aB
theorem SI:AJ Tryz.f48=true:=aB
theorem AAT:AJ Tryz.f49=true:=aB
theorem Gl:AJ Tryz.f5=true:=aB
theorem KU:AJ Tryz.f50=true:=aB
theorem Cx:AJ Tryz.f51=true:=aB
theorem Id:AJ Tryz.f52=true:=aB
theorem Ie:AJ Tryz.f53=true:=aB
theorem GN:AJ Tryz.f54=true:=aB
theorem B7:AJ Tryz.f55=true:=aB
theorem If:AJ Tryz.f56=true:=aB
theorem AAU:AJ Tryz.f57=true:=aB
theorem KV:AJ Tryz.f58=true:=aB
theorem SJ:AJ Tryz.f59=true:=aB
theorem VN:AJ Tryz.f6=true:=aB
theorem AAV:AJ Tryz.f60=true:=aB
theorem M9:AJ Tryz.f61=true:=aB
theorem KW:AJ Tryz.f62=true:=aB
theorem NA:AJ Tryz.f63=true:=aB
theorem AAW:AJ Tryz.f64=true:=aB
theorem AAX:AJ Tryz.f65=true:=aB
theorem SK:AJ Tryz.f66=true:=aB
theorem NB:AJ Tryz.f67=true:=aB
theorem AAY:AJ Tryz.f68=true:=aB
theorem AAZ:AJ Tryz.f69=true:=aB
theorem Pq:AJ Tryz.f7=true:=aB
theorem NC:AJ Tryz.f70=true:=aB
theorem SL:AJ Tryz.f71=true:=aB
theorem AAa:AJ Tryz.f72=true:=aB
theorem SM:AJ Tryz.f73=true:=aB
theorem ND:AJ Tryz.f74=true:=aB
theorem AAb:AJ Tryz.f75=true:=aB
theorem AAc:AJ Tryz.f76=true:=aB
theorem SN:AJ Tryz.f77=true:=aB
theorem SO:AJ Tryz.f78=true:=aB
theorem AAd:AJ Tryz.f79=true:=aB
theorem Pr:AJ Tryz.f8=true:=aB
theorem AAe:AJ Tryz.f80=true:=aB
theorem AAf:AJ Tryz.f81=true:=aB
theorem AAg:AJ Tryz.f82=true:=aB
theorem AAh:AJ Tryz.f83=true:=aB
theorem AAi:AJ Tryz.f84=true:=aB
theorem AAj:AJ Tryz.f85=true:=aB
theorem AAk:AJ Tryz.f86=true:=aB
theorem AAl:AJ Tryz.f87=true:=aB
theorem SP:AJ Tryz.f88=true:=aB
theorem AAm:AJ Tryz.f89=true:=aB
theorem Ps:AJ Tryz.f9=true:=aB
theorem AAn:AJ Tryz.f90=true:=aB
theorem AAo:AJ Tryz.f91=true:=aB
theorem AAp:AJ Tryz.f92=true:=aB
theorem NE:AJ Tryz.f93=true:=aB
theorem SQ:AJ Tryz.f94=true:=aB
theorem NF:AJ Tryz.f95=true:=aB
theorem AAq:AJ Tryz.f96=true:=aB
theorem AAr:AJ Tryz.f97=true:=aB
theorem AAs:AJ Tryz.f98=true:=aB
theorem AAt:AJ Tryz.f99=true:=aB
theorem SR:prog.eqGuardType prog.depth 158=false:=aB
theorem Pu:prog.eqGuardType prog.depth 36=false:=aB
theorem KX:Dl prog 103=some 15:=aB
theorem AAu:Dl prog 150=some 1:=aB
theorem SS:Dl prog 163=some 1:=aB
theorem Cs:Dl prog 22=some 6:=aB
theorem Ig:Dl prog 23=some 2:=aB
theorem ST:Dl prog 233=some 1:=aB
theorem J2:Dl prog 24=some 3:=aB
theorem AM:Dl prog 32=some 1:=aB
theorem Hh:Dl prog 42=some 5:=aB
theorem F0:Dl prog 47=some 5:=aB
theorem Pv:Dl prog 48=some 4:=aB
theorem Hi:Dl prog 75=some 1:=aB
theorem Pw:Dl prog 78=some 5:=aB
theorem Ih:Dl prog 84=some 4:=aB
theorem Aw:CM prog 105 0=some 0:=aB
theorem H1:CM prog 112 0=some 0:=aB
theorem H2:CM prog 112 1=some 1:=aB
theorem Ni:CM prog 116 0=some 0:=aB
theorem Nj:CM prog 116 1=some 1:=aB
theorem J3:CM prog 116 2=some 2:=aB
theorem J4:CM prog 121 0=some 0:=aB
theorem J5:CM prog 121 1=some 3:=aB
theorem Ep:CM prog 121 2=some 9:=aB
theorem H3:CM prog 128 0=some 0:=aB
theorem C0:CM prog 128 1=some 5:=aB
theorem Nk:CM prog 128 2=some 6:=aB
theorem Eq:CM prog 158 0=some 0:=aB
theorem Er:CM prog 158 1=some 1:=aB
theorem VO:CM prog 161 1=some 1:=aB
theorem LP:CM prog 26 0=some 0:=aB
theorem Cu:CM prog 26 1=some 1:=aB
theorem A9:CM prog 26 2=some 2:=aB
theorem Df:CM prog 26 3=some 3:=aB
theorem D5:CM prog 26 4=some 4:=aB
theorem CT:CM prog 36 0=some 0:=aB
theorem CU:CM prog 36 1=some 1:=aB
theorem LQ:CM prog 38 0=some 0:=aB
theorem LR:CM prog 38 1=some 1:=aB
theorem JG:CM prog 38 2=some 2:=aB
theorem LS:CM prog 38 3=some 3:=aB
theorem FW:CM prog 41 0=some 0:=aB
theorem JH:CM prog 41 1=some 1:=aB
theorem FX:CM prog 41 2=some 2:=aB
theorem GO:CM prog 41 3=some 3:=aB
theorem FY:CM prog 41 4=some 5:=aB
theorem JI:CM prog 45 0=some 0:=aB
theorem LT:CM prog 45 1=some 1:=aB
theorem ER:CM prog 45 2=some 2:=aB
theorem JJ:CM prog 45 3=some 3:=aB
theorem Dg:CM prog 50 0=some 0:=aB
theorem JK:CM prog 50 1=some 1:=aB
theorem Cv:CM prog 50 2=some 2:=aB
theorem CF:CM prog 50 3=some 3:=aB
theorem Es:CM prog 50 4=some 4:=aB
theorem BC:CM prog 77 0=some 0:=aB
theorem D6:CM prog 80 0=some 0:=aB
theorem Px:CM prog 80 1=some 5:=aB
theorem JL:CM prog 90 0=some 0:=aB
theorem AAv:(prog.info? 32).isSome=true:=aB
theorem SU:(prog.info? 32).map (·.zero)=some (some (.slice none 0 0)):=aB
theorem P0:Mk prog 181=some .u64:=aB
theorem Xr:Mk prog 204=some .u64:=aB
theorem EG:Mk prog 3=some .i64:=aB
theorem Gm:Mk prog 5=some .u8:=aB
theorem SV:IQ prog 126=some (166,3):=aB
theorem NG:IQ prog 144=some (3,3):=aB
theorem VP:IQ prog 86=some (90,3):=aB
theorem SW:∀a:Key,WI prog 3 166 (Ke a)=true:=by intros;kernel_rfl
theorem VQ:∀a:Pb,WI prog 3 90 (G0 a)=true:=by intros;kernel_rfl
theorem NH:∀a:Int,WI prog 3 3 (EQ a)=true:=by intros;kernel_rfl
theorem NI:∀a b:Int,Mm prog 3 3 (EQ a) (EQ b)=some (a==b):=by intros;kernel_rfl
theorem SX:∀a b:Key,Mm prog 3 166 (Ke a) (Ke b)=some (a.1==b.1 && (a.2.1==b.2.1 && (a.2.2==b.2.2 && true))):=by intros;kernel_rfl
theorem VR:∀a b:Pb,Mm prog 3 90 (G0 a) (G0 b)=some ((a.1==b.1 && (a.2.1==b.2.1 && (a.2.2.1==b.2.2.1 && (a.2.2.2.1==b.2.2.2.1 && (a.2.2.2.2==b.2.2.2.2 && true))))) && true):=by intros;kernel_rfl
theorem Af:prog.follows .mixedOrders=true:=aB
theorem fx_mz126:(prog.info? 3).bind (·.zero)=some (.int .i64 0):=aB
theorem VS:(prog.info? 3).bind (·.zero)=some (.int .i64 0):=aB
theorem fx_mz86:(prog.info? 3).bind (·.zero)=some (.int .i64 0):=aB
theorem Dv:DX prog 105=some [(0,5)]:=aB
theorem VT:DX prog 116=some [(0,1),(1,1),(2,2)]:=aB
theorem Ii:DX prog 121=some [(0,3),(3,6),(9,6)]:=aB
theorem Gn:DX prog 128=some [(0,5),(5,1),(6,1)]:=aB
theorem fx_pl158:DX prog 158=some [(0,1),(1,1)]:=aB
theorem fx_pl166:DX prog 166=some [(0,1),(1,1),(2,1)]:=aB
theorem HC:DX prog 36=some [(0,1),(1,1)]:=aB
theorem Tl:DX prog 38=some [(0,1),(1,1),(2,1),(3,2)]:=aB
theorem MO:DX prog 45=some [(0,1),(1,1),(2,1),(3,2)]:=aB
theorem OP:DX prog 50=some [(0,1),(1,1),(2,1),(3,1),(4,1)]:=aB
theorem Tm:DX prog 77=some [(0,5)]:=aB
theorem OQ:DX prog 80=some [(0,5),(5,1)]:=aB
theorem fx_pl90:DX prog 90=some [(0,5)]:=aB
theorem Nm:s2bOf prog 9 233=some 5:=aB
theorem AAw:Dj prog 103=some (15,#[.int .i64 0,.int .i64 0,.int .i64 0,.int .i64 0,.int .i64 0,.int .i64 0,.int .i64 0,.int .i64 0,.int .i64 0,.bool false,.bool false,.bool false,.bool false,.bool false,.bool false],121):=aB
theorem AAx:Dj prog 150=some (1,#[.nilFunc],99):=aB
theorem GP:Dj prog 163=some (1,#[.int .i64 0],29):=aB
theorem Cb:Dj prog 32=some (1,#[.int .i64 0],3):=aB
theorem MP:Dj prog 42=some (5,#[.string ⟨#[]⟩,.int .i64 0,.int .i64 0,.int .i64 0,.int .i64 0],38):=aB
theorem J6:Dj prog 47=some (5,#[.int .i64 0,.int .i64 0,.int .i64 0,.int .i64 0,.int .i64 0],45):=aB
theorem VU:Dj prog 48=some (4,#[.int .i64 0,.int .i64 0,.int .i64 0,.int .i64 0],116):=aB
theorem MQ:Dj prog 75=some (1,#[.slice none 0 0],32):=aB
theorem fx_sel78:Dj prog 78=some (5,#[.int .i64 0,.int .i64 0,.int .i64 0,.int .i64 0,.int .i64 0],174):=aB
theorem VV:Dj prog 84=some (4,#[.int .i64 0,.int .i64 0,.int .i64 0,.int .i64 0],93):=aB
theorem Gp:IO prog 103=true:=aB
theorem fx_sl150:IO prog 150=true:=aB
theorem VW:IO prog 163=true:=aB
theorem DG:IO prog 22=true:=aB
theorem JM:IO prog 23=true:=aB
theorem VX:IO prog 233=true:=aB
theorem JN:IO prog 24=true:=aB
theorem Bd:IO prog 32=true:=aB
theorem FN:IO prog 42=true:=aB
theorem FO:IO prog 47=true:=aB
theorem MR:IO prog 48=true:=aB
theorem MS:IO prog 75=true:=aB
theorem Tn:IO prog 78=true:=aB
theorem KY:IO prog 84=true:=aB
theorem Dw:Lk prog 9=true:=aB
theorem Dh:Bz prog 103=some (false,1):=aB
theorem B2:Bz prog 105=some (true,5):=aB
theorem fx_ty109:Bz prog 109=some (false,1):=aB
theorem P1:Bz prog 112=some (true,3):=aB
theorem Ij:Bz prog 116=some (true,4):=aB
theorem fx_ty119:Bz prog 119=some (true,6):=aB
theorem Bm:Bz prog 121=some (true,15):=aB
theorem VY:Bz prog 126=some (false,1):=aB
theorem BD:Bz prog 128=some (true,7):=aB
theorem Ik:Bz prog 132=some (false,1):=aB
theorem fx_ty135:Bz prog 135=some (false,1):=aB
theorem MT:Bz prog 147=some (false,1):=aB
theorem fx_ty153:Bz prog 153=some (true,4):=aB
theorem EW:Bz prog 158=some (true,2):=aB
theorem P2:Bz prog 166=some (true,3):=aB
theorem fx_ty168:Bz prog 168=some (false,1):=aB
theorem Hj:Bz prog 169=some (false,1):=aB
theorem fx_ty172:Bz prog 172=some (true,4):=aB
theorem F1:Bz prog 174=some (true,5):=aB
theorem fx_ty185:Bz prog 185=some (false,1):=aB
theorem Eu:Bz prog 204=some (false,1):=aB
theorem B6:Bz prog 22=some (false,1):=aB
theorem F2:Bz prog 23=some (false,1):=aB
theorem GY:Bz prog 24=some (false,1):=aB
theorem CV:Bz prog 26=some (true,5):=aB
theorem Y1:Bz prog 29=some (false,1):=aB
theorem AH:Bz prog 3=some (false,1):=aB
theorem DH:Bz prog 32=some (false,1):=aB
theorem Bj:Bz prog 36=some (true,2):=aB
theorem HD:Bz prog 38=some (true,5):=aB
theorem II:Bz prog 4=some (false,1):=aB
theorem HE:Bz prog 41=some (true,6):=aB
theorem Eh:Bz prog 42=some (false,1):=aB
theorem OR:Bz prog 43=some (false,1):=aB
theorem H4:Bz prog 45=some (true,5):=aB
theorem DS:Bz prog 47=some (false,1):=aB
theorem H5:Bz prog 48=some (false,1):=aB
theorem fx_ty5:Bz prog 5=some (false,1):=aB
theorem BE:Bz prog 50=some (true,5):=aB
theorem MU:Bz prog 75=some (false,1):=aB
theorem C1:Bz prog 77=some (true,5):=aB
theorem MV:Bz prog 78=some (false,1):=aB
theorem Cm:Bz prog 80=some (true,6):=aB
theorem MW:Bz prog 84=some (false,1):=aB
theorem To:Bz prog 86=some (false,1):=aB
theorem Tp:Bz prog 87=some (false,1):=aB
theorem IJ:Bz prog 9=some (false,1):=aB
theorem F3:Bz prog 90=some (true,5):=aB
theorem CI:Bz prog 93=some (true,4):=aB
theorem fx_ty99:Bz prog 99=some (false,1):=aB
theorem AAy:(prog.underlying 181).isSome=true:=aB
theorem Fh:(prog.underlying 198).isSome=true:=aB
theorem Tq:(prog.underlying 3).isSome=true:=aB
theorem FP:(prog.underlying 5).isSome=true:=aB
theorem Hk:prog.underlying 147=some (.chan .both 32):=aB
theorem Xs:Bb prog 103=some #[.slice none 0 0]:=aB
theorem B3:Bb prog 105=some #[.int .i64 0,.int .i64 0,.slice none 0 0,.slice none 0 0,.slice none 0 0]:=aB
theorem Xu:Bb prog 112=some #[.slice none 0 0,.int .i64 0,.int .i64 0]:=aB
theorem JO:Bb prog 116=some #[.int .i64 0,.int .i64 0,.int .i64 0,.int .i64 0]:=aB
theorem Di:Bb prog 121=some #[.int .i64 0,.int .i64 0,.int .i64 0,.int .i64 0,.int .i64 0,.int .i64 0,.int .i64 0,.int .i64 0,.int .i64 0,.bool false,.bool false,.bool false,.bool false,.bool false,.bool false]:=aB
theorem BP:Bb prog 128=some #[.int .i64 0,.int .i64 0,.slice none 0 0,.slice none 0 0,.slice none 0 0,.slice none 0 0,.map none]:=aB
theorem P3:Bb prog 132=some #[.nilFunc]:=aB
theorem Xv:Bb prog 147=some #[.chan none]:=aB
theorem JP:Bb prog 158=some #[.int .i64 0,.int .i64 0]:=aB
theorem P4:Bb prog 166=some #[.int .i64 0,.int .i64 0,.int .i64 0]:=aB
theorem P5:Bb prog 169=some #[.nilFunc]:=aB
theorem LU:Bb prog 174=some #[.int .i64 0,.int .i64 0,.int .i64 0,.int .i64 0,.int .i64 0]:=aB
theorem Xw:Bb prog 204=some #[.int .u64 0]:=aB
theorem fx_zero29:Bb prog 29=some #[.int .i64 0]:=aB
theorem VZ:Bb prog 3=some #[.int .i64 0]:=aB
theorem AAz:Bb prog 32=some #[.slice none 0 0]:=aB
theorem CJ:Bb prog 36=some #[.int .i64 0,.int .i64 0]:=aB
theorem GQ:Bb prog 38=some #[.string ⟨#[]⟩,.int .i64 0,.int .i64 0,.int .i64 0,.int .i64 0]:=aB
theorem fx_zero4:Bb prog 4=some #[.bool false]:=aB
theorem KZ:Bb prog 41=some #[.string ⟨#[]⟩,.int .i64 0,.int .i64 0,.int .i64 0,.int .i64 0,.slice none 0 0]:=aB
theorem E3:Bb prog 45=some #[.int .i64 0,.int .i64 0,.int .i64 0,.int .i64 0,.int .i64 0]:=aB
theorem E4:Bb prog 50=some #[.int .i64 0,.int .i64 0,.slice none 0 0,.slice none 0 0,.slice none 0 0]:=aB
theorem AA0:Bb prog 75=some #[.slice none 0 0]:=aB
theorem Il:Bb prog 77=some #[.int .i64 0,.int .i64 0,.slice none 0 0,.slice none 0 0,.slice none 0 0]:=aB
theorem AA1:Bb prog 78=some #[.slice none 0 0]:=aB
theorem CW:Bb prog 80=some #[.int .i64 0,.int .i64 0,.slice none 0 0,.slice none 0 0,.slice none 0 0,.slice none 0 0]:=aB
theorem SY:Bb prog 84=some #[.slice none 0 0]:=aB
theorem AA2:Bb prog 86=some #[.map none]:=aB
theorem AA3:Bb prog 87=some #[.nilFunc]:=aB
theorem Ka:Bb prog 90=some #[.int .i64 0,.int .i64 0,.int .i64 0,.int .i64 0,.int .i64 0]:=aB
theorem Ef:Bb prog 93=some #[.int .i64 0,.int .i64 0,.int .i64 0,.int .i64 0]:=aB
theorem fx_zero99:Bb prog 99=some #[.nilFunc]:=aB
end Go.Ns
namespace Go.Ns
open Go.Conc Go.Proofs Go.Proofs.Tryz
attribute [local irreducible] BS DI Tr AW CC Bu
variable {W:Wk prog} {h:V} (d m:Int) (gs:List Good) (gsv:aU) (ms:List AI) (msv:aU) (cs:List AP) (csv:aU)
theorem BZ(n:Int)(lo:Int)(hi:Int):AW W 55 #[J n,J lo,J hi] h (λv h'=>v=(.bool (decide (lo<=n/\n<=hi)):aU)/\h=h'):=by
 refine Ct func55 Z (Sr (I (.bool false) Z (M (A6 (λσ' c h'=>c=[]/\h=h'/\σ' 6=.bool (Q1b lo n hi)) ?_ ?_))))
 ·refine Rg (Mz (J lo) Z (Mz (J n) Z (L Z (CX Z Z (Mz (Qp lo n) Z (Ar (p:=lo<=n) ?_ ?_))))))
  ·intro a;exact Gg 3 10 (AB Z a) Z (Mo (J n) Z (Gg 3 10 (AB Z a) Z (Mo (J hi) Z (Gg 3 10 (AB Z a) Z (CX Z Z (Pk true (Qp n hi) Z (AB Z a) Z (I (Qp n hi) Z (M (⟨Z,Z,Et (b:=(.bool (decide (n<=hi)):aU)) Z (congrArg Value.bool (by (simp [a];done):decide (n<=hi)=(Q1b lo n hi)))⟩)))))))))
  ·intro a;exact Gs 3 10 (AA Z a) Z (Gs 3 10 (AA Z a) Z (Gs 3 10 (AA Z a) Z (Pk false (.bool false) Z (AA Z a) Z (I (.bool false) Z (M (⟨Z,Z,Et (b:=(.bool false:aU)) Z (congrArg Value.bool (by (simp [a];done):false=(Q1b lo n hi)))⟩))))))
 ·rintro _ _ _ ⟨e,f,g⟩;subst e;subst f;exact Rt (⟨Zr,JS Z (v:=.bool (Q1b lo n hi)) g (⟨(by rfl),Z⟩)⟩)
theorem P6(xl:Int)(xh:Int)(lo:Int)(hi:Int):AW W 167 #[.agg #[J xl,J xh],J lo,J hi] h (λv h'=>v=(.bool (decide ((lo<=xl/\xl<=xh)/\xh<=hi)):aU)/\h.Le h'):=by
 refine Ct func167 Z (Sr (L Z (Bo #[J xl,J xh] Z Z λ_ g _ i e _=>I (.bool false) Z (M (A6 (λσ' f h'=>f=[]/\g=h'/\σ' 6=.bool (Qn lo xl xh hi)) ?_ ?_)))))
 ·refine Rg (Mz (J lo) Z (Fz CT Z (Lz (J xl) Z (Rd.one AH e Z) (L Z (CX Z Z (Mz (Qp lo xl) Z (Ar (p:=lo<=xl) ?_ ?_)))))))
  ·intro a;refine Gg 4 11 (AB Z a) Z (AE CT Z (Gg 4 11 (AB Z a) Z (Lo (J xl) Z (Rd.one AH e Z) (Gg 4 11 (AB Z a) Z (AE CU Z (Gg 4 11 (AB Z a) Z (Lo (J xh) Z (Rd.one AH e Z) (Gg 4 11 (AB Z a) Z (CX Z Z (Pk true (Qp xl xh) Z (AB Z a) Z (Mz (Qp xl xh) Z (Ar (p:=xl<=xh) ?_ ?_))))))))))))
   ·intro c;exact Gg 11 18 (AB Z c) Z (AE CU Z (Gg 11 18 (AB Z c) Z (Lo (J xh) Z (Rd.one AH e Z) (Gg 11 18 (AB Z c) Z (Mo (J hi) Z (Gg 11 18 (AB Z c) Z (CX Z Z (Pk true (Qp xh hi) Z (AB Z c) Z (I (Qp xh hi) Z (M (⟨Z,Z,Et (b:=(.bool (decide (xh<=hi)):aU)) Z (congrArg Value.bool (by (simp [a,c];done):decide (xh<=hi)=(Qn lo xl xh hi)))⟩)))))))))))
   ·intro c;exact Gs 11 18 (AA Z c) Z (Gs 11 18 (AA Z c) Z (Gs 11 18 (AA Z c) Z (Gs 11 18 (AA Z c) Z (Pk false (.bool false) Z (AA Z c) Z (I (.bool false) Z (M (⟨Z,Z,Et (b:=(.bool false:aU)) Z (congrArg Value.bool (by (simp [a,c];done):false=(Qn lo xl xh hi)))⟩)))))))
  ·intro a;exact Gs 4 11 (AA Z a) Z (Gs 4 11 (AA Z a) Z (Gs 4 11 (AA Z a) Z (Gs 4 11 (AA Z a) Z (Gs 4 11 (AA Z a) Z (Pk false (.bool false) Z (AA Z a) Z (Mz (.bool false) Z (Gs 11 18 Z Z (Gs 11 18 Z Z (Gs 11 18 Z Z (Gs 11 18 Z Z (Pz false (.bool false) Z (I (.bool false) Z (M (⟨Z,Z,Et (b:=(.bool false:aU)) Z (congrArg Value.bool (by (simp [a];done):false=(Qn lo xl xh hi)))⟩))))))))))))))
 ·rintro _ _ _ ⟨j,k,l⟩;subst j;subst k;exact Rt (⟨Zr,JS Z (v:=.bool (Qn lo xl xh hi)) l (⟨(by rfl),i⟩)⟩)
theorem Va(xl:Int)(xh:Int):AW W 166 #[.agg #[J xl,J xh]] h (λv h'=>v=(.bool (decide (Gy xl xh)):aU)/\h.Le h'):=by
 refine Ct func166 Z (Sr (L Z (Bo #[J xl,J xh] Z Z λ_ i _ j f _=>I (.bool false) Z (M (A6 (λσ' c h'=>c=[]/\V.Le i h'/\σ' 2=.bool (Q14 xl xh)) ?_ ?_)))))
 ·refine Rg (Lz _ Z (AF Bj (Bx f Z)) (L Z (Ai func167 Pn Z Z Z ((P6 xl xh 0 99 ).mono λ_ _ k=>?_))));obtain ⟨rfl,e⟩:=k;refine Mz (.bool (decide ((0<=xl/\xl<=xh)/\xh<=99))) Z (Ar (p:=(0<=xl/\xl<=xh)/\xh<=99) ?_ ?_)
  ·intro a;exact Gg 2 5 (AB Z a) Z (AE CU Z (have g:=e.keep f Z;Gg 2 5 (AB Z a) Z (Lo (J xh) Z (Rd.one AH g Z) (Gg 2 5 (AB Z a) Z (AE CT Z (Gg 2 5 (AB Z a) Z (Lo (J xl) Z (Rd.one AH g Z) (Gg 2 5 (AB Z a) Z (A1 Z Z Y (Gg 2 5 (AB Z a) Z (Am Z Z (Pk true (.bool (decide ((xh-xl)<3))) Z (AB Z a) Z (I (.bool (decide ((xh-xl)<3))) Z (M (⟨Z,e,Et (b:=(.bool (decide ((xh-xl)<3)):aU)) Z (congrArg Value.bool (by (simp [a];done):decide ((xh-xl)<3)=(Q14 xl xh)))⟩)))))))))))))))
  ·intro a;exact Gs 2 5 (AA Z a) Z (Gs 2 5 (AA Z a) Z (Gs 2 5 (AA Z a) Z (Gs 2 5 (AA Z a) Z (Gs 2 5 (AA Z a) Z (Gs 2 5 (AA Z a) Z (Pk false (.bool false) Z (AA Z a) Z (I (.bool false) Z (M (⟨Z,e,Et (b:=(.bool false:aU)) Z (congrArg Value.bool (by (simp [a];done):false=(Q14 xl xh)))⟩)))))))))
 ·rintro _ _ _ ⟨l,n,o⟩;subst l;exact Rt (⟨Zr,JS Z (v:=.bool (Q14 xl xh)) o (⟨(by rfl),(j.trans n)⟩)⟩)
theorem F4(b:Bool):AW W 52 #[.bool b] h (λv h'=>v=(J (if b then (0:Int) else 6):aU)/\h=h'):=by
 refine Ct func52 Z (Sr (I (J 0) Z (M (S2 (Mz (.bool b) Z (L Z (Cf Z (M (Bw Z (λa=>?_) (λa=>?_))))))))))
 ·have hc1_:b=false:=by simpa using a
  exact Sr (I (J 6) Z (M (Rt (⟨Zr,Ot (J 6) Z (⟨aF,Z⟩)⟩))))
 ·have hc1_:b=true:=by simpa using a
  exact Sk (Sr (I (J 0) Z (M (Rt (⟨Zr,Ot (J 0) Z (⟨aF,Z⟩)⟩)))))
theorem FZ(b:Bool):AW W 54 #[.bool b] h (λv h'=>v=(J (if b then (0:Int) else 1):aU)/\h=h'):=by
 refine Ct func54 Z (Sr (I (J 0) Z (M (S2 (Mz (.bool b) Z (L Z (Cf Z (M (Bw Z (λa=>?_) (λa=>?_))))))))))
 ·have hc1_:b=false:=by simpa using a
  exact Sr (I (J 1) Z (M (Rt (⟨Zr,Ot (J 1) Z (⟨aF,Z⟩)⟩))))
 ·have hc1_:b=true:=by simpa using a
  exact Sk (Sr (I (J 0) Z (M (Rt (⟨Zr,Ot (J 0) Z (⟨aF,Z⟩)⟩)))))
theorem Gq(n:Int)(hgs:AD h gsv 5 Bs gs)(hms:AD h msv 5 Be ms)(hcs:AD h csv 4 BK cs):AW W 53 #[.agg #[J d,J m,gsv,msv,csv],J n] h (λv h'=>v=(.bool (decide (0<=n/\n<=(gs.length:Int)-1)):aU)/\h.Le h'):=by
 have e:=hgs.len;have f:=hms.len;have g:=hcs.len;refine Ct func53 Z (Sr (L Z (Bo (Cp d m gsv msv csv) Z Z λ_ _ _ a b _=>I (.bool false) Z (M (Sr (Mz (J n) Z (Fz Aw Z (Fz Cv Z (Lz gsv Z (Rd.one Eh b Z) (L Z (AO FN (hgs.le a) Z (L Z (A1 Z Z Y (L Z (Ai func55 B7 Z Z Z ((BZ n 0 ((gs.length:Int)-1) ).mono λ_ _ c=>?_))))))))))))))));obtain ⟨rfl,rfl⟩:=c;exact I (.bool (decide (0<=n/\n<=((gs.length:Int)-1)))) Z (M (Rt (⟨Zr,Ot (.bool (decide (0<=n/\n<=((gs.length:Int)-1)))) Z (⟨(by rfl),a⟩)⟩)))
theorem Nn(n:Int)(hgs:AD h gsv 5 Bs gs)(hms:AD h msv 5 Be ms)(hcs:AD h csv 4 BK cs):AW W 59 #[.agg #[J d,J m,gsv,msv,csv],J n] h (λv h'=>v=(.bool (decide (0<=n/\n<=(ms.length:Int)-1)):aU)/\h.Le h'):=by
 have e:=hgs.len;have f:=hms.len;have g:=hcs.len;refine Ct func59 Z (Sr (L Z (Bo (Cp d m gsv msv csv) Z Z λ_ _ _ a b _=>I (.bool false) Z (M (Sr (Mz (J n) Z (Fz Aw Z (Fz CF Z (Lz msv Z (Rd.one DS b Z) (L Z (AO FO (hms.le a) Z (L Z (A1 Z Z Y (L Z (Ai func55 B7 Z Z Z ((BZ n 0 ((ms.length:Int)-1) ).mono λ_ _ c=>?_))))))))))))))));obtain ⟨rfl,rfl⟩:=c;exact I (.bool (decide (0<=n/\n<=((ms.length:Int)-1)))) Z (M (Rt (⟨Zr,Ot (.bool (decide (0<=n/\n<=((ms.length:Int)-1)))) Z (⟨(by rfl),a⟩)⟩)))
theorem NJ(p:AZ)(i:Int)(hi0:0<=i)(hi1:i<6):AW W 61 #[.agg (Aq p),J i] h (λv h'=>v=(J (Cn p ((i).toNat)):aU)/\h.Le h'):=by
 refine Ct func61 Z (Sr (L Z (Bo (Aq p) Z Z λ_ _ _ a b _=>I (J 0) Z (M (S2 (Mz (J i) Z (Fz Ep Z ?_)))))));have c:(0:Int)<=i:=Y
 have e:i<((6:Nat):Int):=Y
 refine L Z (BG HL Z Z c e (Lz (.bool (p.lies (i.toNat))) Z (Rd.one II b (K7 (i:=i.toNat) Y)) (M (Bw Z (λf=>?_) (λf=>?_)))))
 ·exact Sr (I (J 0) Z (M (Rt (⟨Zr,Ot (J 0) Z (⟨(by simp_all [Cn]),a⟩)⟩))))
 ·refine Sk (Sr (Mz (J i) Z (Fz J5 Z ?_)));have g:(0:Int)<=i:=Y
  have j:i<((6:Nat):Int):=Y
  exact L Z (BG M4 Z Z g j (Lz (J (p.many (i.toNat))) Z (Rd.one AH b (WL (i:=i.toNat) Y)) (I (J (p.many (i.toNat))) Z (M (Rt (⟨Zr,Ot (J (p.many (i.toNat))) Z (⟨(by simp_all [Cn]),a⟩)⟩))))))
theorem Xx(p:AZ):AW W 97 #[.agg (Aq p)] h (λv h'=>v=(J (B0 p 6:Int):aU)/\h.Le h'):=by
 refine Ct func97 Z (Sr (L Z (Bo (Aq p) Z Z λ_ l _ n q _=>I (J 0) Z (M (Sr (I (J 0) Z (M (S2 (Fz Ep Z (Lz (.agg #[.bool (p.lies 0),.bool (p.lies 1),.bool (p.lies 2),.bool (p.lies 3),.bool (p.lies 4),.bool (p.lies 5)]) Z (Eg (o:=9) (ws:=#[.bool (p.lies 0),.bool (p.lies 1),.bool (p.lies 2),.bool (p.lies 3),.bool (p.lies 4),.bool (p.lies 5)]) fx_ty119 (Bx q Z) (Nb Z) Z) (Mz (J 0) Z (M (Bk (Ag (λi σ' c h'=>∃(k:Nat),i=6-k/\(k<=6)/\c=[]/\V.Le l h'/\σ' 2=J 0/\σ' 7=.agg #[.bool (p.lies 0),.bool (p.lies 1),.bool (p.lies 2),.bool (p.lies 3),.bool (p.lies 4),.bool (p.lies 5)]/\σ' 3=J (B0 p k:Int)/\σ' 8=J k) ⟨0,Z,Y,Z,Lr,Z,Z,Z,Z⟩ (λi _ _ _ r=>?_)))))))))))))));obtain ⟨k,rfl,z,s,e,j,f,g,a⟩:=r;subst s;have t:=Oq p k;refine Sr (L Z (Am a Z (M (Sq (AR Z (λu=>?_) (λu=>?_))))))
 ·refine Sk (Sq (Bk (Sq (Rg ?_))));have w:(0:Int)<=(k:Int):=Y
  have x:(k:Int)<((6:Nat):Int):=Y
  refine L Z (Ml Z2 f a w x (UV Y) (I (.bool (p.lies k)) Z (M (Sr (Mz (.bool (p.lies k)) Z (M (Bw Z (λy=>?_) (λy=>?_))))))))
  ·exact Rg (Mv (J (B0 p k:Int)) Z g (Yd Z Y (I (J ((B0 p k:Int)+1)) Z (M (Rg (Ad _ _ Z a Z Y (Mz (J ((k:Int)+1)) Z (M (⟨_,Y,k+1,Z,Y,Z,e,j,f,(Et (b:=(J ((B0 p k:Int)+1):aU)) Z (by congr 1;simp_all [B0])),Z⟩)))))))))
  ·exact Sk (Rg (Ad _ _ Z a Z Y (Mz (J ((k:Int)+1)) Z (M (⟨_,Y,k+1,Z,Y,Z,e,j,f,(Et (b:=(J (B0 p k:Int):aU)) g (by congr 1;simp_all [B0])),Z⟩)))))
 ·exact Xt (Sr (Mv (J (B0 p k:Int)) Z g (I (J (B0 p k:Int)) Z (M (Rt (⟨Zr,Ot (J (B0 p k:Int)) Z (⟨(by obtain rfl:k=6:=Y;rfl),(n.trans e)⟩)⟩))))))
theorem RL(a:List Int)(av:aU)(b:List Int)(bv:aU)(ha:AD h av 1 eI a)(hb:AD h bv 1 eI b):AW W 76 #[av,bv] h (λv h'=>v=(.bool (decide (a=b)):aU)/\h.Le h'):=by
 have H:=ha.len;have K:=hb.len;refine Ct func76 Z (Sr (I (.bool false) Z (M (S2 (Mz av Z (L Z (AO Bd ha Z (Mz bv Z (L Z (AO Bd hb Z (L Z (Av Z Z (M (AR Z (λn=>?_) (λn=>?_)))))))))))))))
 ·exact Sr (I (.bool false) Z (M (Rt (⟨Zr,Ot (.bool false) Z (⟨(by (rw [decide_eq_false (ne_len Y)];done)),Lr⟩)⟩))))
 ·refine Sk (S2 (I (J 0) Z (M (Bk (Ag (λi σ' f h'=>∃(k:Nat),i=a.length-k/\(k<=a.length)/\(a.take k=b.take k)/\f=[]/\V.Le h h'/\σ' 0=av/\σ' 1=bv/\σ' 5=J k) ⟨0,Z,Y,(by rfl),Z,Lr,Z,Z,Z⟩ (λi _ _ _ o=>?_))))));obtain ⟨k,rfl,p,j,q,c,g,l,e⟩:=o;subst q;refine S2 (Mv (J k) Z e (Mv av Z g (L Z (AO Bd (ha.le c) Z (L Z (Am Z Z (M (AR Z (λr=>?_) (λr=>?_)))))))))
  ·refine Sk (Sq (Bk (Sq (BJ 8 false [1,6,10,16,21,26,30,36] Af aB (Rz Z (Mo av g vz) (Rz Z (Mo (J k) e vz) ?_))))));have s:(0:Int)<=(k:Int):=Y
   have t:(k:Int)<((a.length:Nat):Int):=Y
   refine tI Z Z AM ha Z Z s t λu w x=>have y:AN _ u w 1 (eI (a.getD k 0)):=AN.getD 0 x;Rl (Qo a k) Z (BR AH (y.le c) Z) (Rz Z (Mo bv l vz) (Rz Z (Mo (J k) e vz) ?_));have z:(0:Int)<=(k:Int):=Y
   have A:(k:Int)<((b.length:Nat):Int):=Y
   refine tI Z Z AM hb Z Z z A λB C D=>have E:AN _ B C 1 (eI (b.getD k 0)):=AN.getD 0 D;Rl (Qo b k) Z (BR AH (E.le c) Z) (tN (L Z (Av Z Z (M (AR Z (λF=>?_) (λF=>?_))))))
   ·exact Sr (I (.bool false) Z (M (Rt (⟨Zr,Ot (.bool false) Z (⟨(by (rw [decide_eq_false (ne_getD (k:=k) (d:=0) ‹_›)])),c⟩)⟩))))
   ·exact Sk (Rg (Mv (J k) Z e (Yd Z Y (I (J ((k:Int)+1)) Z (M (⟨_,Y,k+1,Z,Y,(by exact Or 0 j Y Y aF),Z,c,g,l,Z⟩))))))
  ·exact Xt (Sr (I (.bool true) Z (M (Rt (⟨Zr,Ot (.bool true) Z (⟨(by (rw [decide_eq_true (S6 j p ‹_› Y)];done)),c⟩)⟩)))))
theorem has_spec(a:List Int)(av:aU)(n:Int)(ha:AD h av 1 eI a):AW W 86 #[av,J n] h (λv h'=>v=(.bool (decide (n ∈ a)):aU)/\h.Le h'):=by
 have y:=ha.len;refine Ct func86 Z (Sr (I (.bool false) Z (M (S2 (I (J 0) Z (M (Bk (Ag (λg σ' c h'=>∃(k:Nat),g=a.length-k/\(k<=a.length)/\(¬n ∈ a.take k)/\c=[]/\V.Le h h'/\σ' 0=av/\σ' 1=J n/\σ' 5=J k) ⟨0,Z,Y,aD,Z,Lr,Z,Z,Z⟩ (λg _ _ _ l=>?_)))))))));obtain ⟨k,rfl,z,i,o,b,e,j,f⟩:=l;subst o;refine S2 (Mv (J k) Z f (Mv av Z e (L Z (AO Bd (ha.le b) Z (L Z (Am Z Z (M (AR Z (λp=>?_) (λp=>?_)))))))))
 ·refine Sk (Sq (Bk (Sr (Mv av Z e (Mv (J k) Z f ?_)))));have q:(0:Int)<=(k:Int):=Y
  have r:(k:Int)<((a.length:Nat):Int):=Y
  refine L Z (Ab AM ha Z Z q r λs t u=>have w:AN _ s t 1 (eI (a.getD k 0)):=AN.getD 0 u;Lz (Qo a k) Z (BR AH (w.le b) Z) (Mv (J n) Z j (L Z (BN Z Z (M (AR Z (λx=>?_) (λx=>?_)))))))
  ·exact Sr (I (.bool true) Z (M (Rt (⟨Zr,Ot (.bool true) Z (⟨(by (rw [decide_eq_true (has_hit (k:=k) ‹_› ‹_›)];done)),b⟩)⟩))))
  ·exact Sk (Rg (Mv (J k) Z f (Yd Z Y (I (J ((k:Int)+1)) Z (M (⟨_,Y,k+1,Z,Y,(by exact has_next ‹_› i ‹_›),Z,b,e,j,Z⟩))))))
 ·exact Xt (Sr (I (.bool false) Z (M (Rt (⟨Zr,Ot (.bool false) Z (⟨(by (rw [decide_eq_false (has_end (k:=k) ‹_› i)])),b⟩)⟩)))))
theorem GZ(n:Int)(lo:Int)(hi:Int):AW W 44 #[J n,J lo,J hi] h (λv h'=>v=(.bool (decide (lo<=n/\n<=hi)):aU)/\h=h'):=by
 refine Ct func44 Z (Sr (I (.bool false) Z (M (A6 (λσ' c h'=>c=[]/\h=h'/\σ' 6=.bool (Q1b lo n hi)) ?_ ?_))))
 ·refine Rg (Mz (J n) Z (Mz (J lo) Z (L Z (CD Z Z (Mz (Qp lo n) Z (Ar (p:=lo<=n) ?_ ?_))))))
  ·intro a;exact Gg 3 10 (AB Z a) Z (Mo (J n) Z (Gg 3 10 (AB Z a) Z (Mo (J hi) Z (Gg 3 10 (AB Z a) Z (CX Z Z (Pk true (Qp n hi) Z (AB Z a) Z (I (Qp n hi) Z (M (⟨Z,Z,Et (b:=(.bool (decide (n<=hi)):aU)) Z (congrArg Value.bool (by (simp [a];done):decide (n<=hi)=(Q1b lo n hi)))⟩)))))))))
  ·intro a;exact Gs 3 10 (AA Z a) Z (Gs 3 10 (AA Z a) Z (Gs 3 10 (AA Z a) Z (Pk false (.bool false) Z (AA Z a) Z (I (.bool false) Z (M (⟨Z,Z,Et (b:=(.bool false:aU)) Z (congrArg Value.bool (by (simp [a];done):false=(Q1b lo n hi)))⟩))))))
 ·rintro _ _ _ ⟨e,f,g⟩;subst e;subst f;exact Rt (⟨Zr,JS Z (v:=.bool (Q1b lo n hi)) g (⟨(by rfl),Z⟩)⟩)
theorem Np(xl:Int)(xh:Int)(lo:Int)(hi:Int):AW W 48 #[.agg #[J xl,J xh],J lo,J hi] h (λv h'=>v=(.bool (decide ((lo<=xl/\xl<=xh)/\xh<=hi)):aU)/\h.Le h'):=by
 refine Ct func48 Z (Sr (L Z (Bo #[J xl,J xh] Z Z λ_ g _ i e _=>I (.bool false) Z (M (A6 (λσ' f h'=>f=[]/\g=h'/\σ' 6=.bool (Qn lo xl xh hi)) ?_ ?_)))))
 ·refine Rg (Fz CT Z (Lz (J xl) Z (Rd.one AH e Z) (Mz (J lo) Z (L Z (CD Z Z (Mz (Qp lo xl) Z (Ar (p:=lo<=xl) ?_ ?_)))))))
  ·intro a;refine Gg 4 11 (AB Z a) Z (AE CU Z (Gg 4 11 (AB Z a) Z (Lo (J xh) Z (Rd.one AH e Z) (Gg 4 11 (AB Z a) Z (AE CT Z (Gg 4 11 (AB Z a) Z (Lo (J xl) Z (Rd.one AH e Z) (Gg 4 11 (AB Z a) Z (CD Z Z (Pk true (Qp xl xh) Z (AB Z a) Z (Mz (Qp xl xh) Z (Ar (p:=xl<=xh) ?_ ?_))))))))))))
   ·intro c;exact Gg 11 18 (AB Z c) Z (AE CU Z (Gg 11 18 (AB Z c) Z (Lo (J xh) Z (Rd.one AH e Z) (Gg 11 18 (AB Z c) Z (Mo (J hi) Z (Gg 11 18 (AB Z c) Z (CX Z Z (Pk true (Qp xh hi) Z (AB Z c) Z (I (Qp xh hi) Z (M (⟨Z,Z,Et (b:=(.bool (decide (xh<=hi)):aU)) Z (congrArg Value.bool (by (simp [a,c];done):decide (xh<=hi)=(Qn lo xl xh hi)))⟩)))))))))))
   ·intro c;exact Gs 11 18 (AA Z c) Z (Gs 11 18 (AA Z c) Z (Gs 11 18 (AA Z c) Z (Gs 11 18 (AA Z c) Z (Pk false (.bool false) Z (AA Z c) Z (I (.bool false) Z (M (⟨Z,Z,Et (b:=(.bool false:aU)) Z (congrArg Value.bool (by (simp [a,c];done):false=(Qn lo xl xh hi)))⟩)))))))
  ·intro a;exact Gs 4 11 (AA Z a) Z (Gs 4 11 (AA Z a) Z (Gs 4 11 (AA Z a) Z (Gs 4 11 (AA Z a) Z (Gs 4 11 (AA Z a) Z (Pk false (.bool false) Z (AA Z a) Z (Mz (.bool false) Z (Gs 11 18 Z Z (Gs 11 18 Z Z (Gs 11 18 Z Z (Gs 11 18 Z Z (Pz false (.bool false) Z (I (.bool false) Z (M (⟨Z,Z,Et (b:=(.bool false:aU)) Z (congrArg Value.bool (by (simp [a];done):false=(Qn lo xl xh hi)))⟩))))))))))))))
 ·rintro _ _ _ ⟨j,k,l⟩;subst j;subst k;exact Rt (⟨Zr,JS Z (v:=.bool (Qn lo xl xh hi)) l (⟨(by rfl),i⟩)⟩)
theorem Vb(c:Int):AW W 102 #[.int .u8 c] h (λv h'=>v=(.bool (decide (FF c)):aU)/\h=h'):=by
 refine Ct func102 Z (Sr (I (.bool false) Z (M (A6 (λσ' e h'=>e=[]/\h=h'/\σ' 2=.bool (Q1o c)) ?_ ?_))))
 ·refine Rg (Mz (.int .u8 c) Z (L Z (CD Z Z (Mz (.bool (decide (97<=c))) Z (Ar (p:=97<=c) ?_ ?_)))))
  ·intro a;exact Gg 2 5 (AB Z a) Z (Mo (.int .u8 c) Z (Gg 2 5 (AB Z a) Z (CX Z Z (Pk true (.bool (decide (c<=122))) Z (AB Z a) Z (I (.bool (decide (c<=122))) Z (M (⟨Z,Z,Et (b:=(.bool (decide (c<=122)):aU)) Z (congrArg Value.bool (by (simp [a];done):decide (c<=122)=(Q1o c)))⟩)))))))
  ·intro a;exact Gs 2 5 (AA Z a) Z (Gs 2 5 (AA Z a) Z (Pk false (.bool false) Z (AA Z a) Z (I (.bool false) Z (M (⟨Z,Z,Et (b:=(.bool false:aU)) Z (congrArg Value.bool (by (simp [a];done):false=(Q1o c)))⟩)))))
 ·rintro _ _ _ ⟨f,g,i⟩;subst f;subst g;exact Rt (⟨Zr,JS Z (v:=.bool (Q1o c)) i (⟨(by rfl),Z⟩)⟩)
theorem Xy(c:Int):AW W 103 #[.int .u8 c] h (λv h'=>v=(.bool (decide (FL c)):aU)/\h=h'):=by
 refine Ct func103 Z (Sr (I (.bool false) Z (M (A6 (λσ' e h'=>e=[]/\h=h'/\σ' 2=.bool (Q1r c)) ?_ ?_))))
 ·refine Rg (Mz (.int .u8 c) Z (L Z (CD Z Z (Mz (.bool (decide (48<=c))) Z (Ar (p:=48<=c) ?_ ?_)))))
  ·intro a;exact Gg 2 5 (AB Z a) Z (Mo (.int .u8 c) Z (Gg 2 5 (AB Z a) Z (CX Z Z (Pk true (.bool (decide (c<=57))) Z (AB Z a) Z (I (.bool (decide (c<=57))) Z (M (⟨Z,Z,Et (b:=(.bool (decide (c<=57)):aU)) Z (congrArg Value.bool (by (simp [a];done):decide (c<=57)=(Q1r c)))⟩)))))))
  ·intro a;exact Gs 2 5 (AA Z a) Z (Gs 2 5 (AA Z a) Z (Pk false (.bool false) Z (AA Z a) Z (I (.bool false) Z (M (⟨Z,Z,Et (b:=(.bool false:aU)) Z (congrArg Value.bool (by (simp [a];done):false=(Q1r c)))⟩)))))
 ·rintro _ _ _ ⟨f,g,i⟩;subst f;subst g;exact Rt (⟨Zr,JS Z (v:=.bool (Q1r c)) i (⟨(by rfl),Z⟩)⟩)
theorem E5(a:Int)(b:Int):AW W 26 #[J a,J b] h (λv h'=>v=(.agg #[J a,J b]:aU)/\h.Le h'):=by
 exact Ct func26 Z (Sr (L Z (AS CJ λ_ _ c e f _=>M (Sr (Mz (J a) Z (Mz (J b) Z (L Z (Ap (cells:=#[J a,J b]) HC CJ aB (L Z (So (.agg #[J a,J b]) #[J a,J b] Bj Z f Z aD Z λ_ g i=>M (Rt (⟨Zr,HP Z (v:=.agg #[J a,J b]) Z (AF Bj (Bx g Z)) (⟨Z,(e.upd (Ln Lr c) i)⟩)⟩))))))))))))
theorem H6(n:Int)(hgs:AD h gsv 5 Bs gs)(hms:AD h msv 5 Be ms)(hcs:AD h csv 4 BK cs):AW W 62 #[.agg #[J d,J m,gsv,msv,csv],J n] h (λv h'=>v=(.bool (decide ((0<=n/\n<=(ms.length:Int)-1)/\(ms.getD (n).toNat AI.z).kind=0)):aU)/\h.Le h'):=by
 have x:=hgs.len;have y:=hms.len;have A:=hcs.len;refine Ct func62 Z (Sr (L Z (Bo (Cp d m gsv msv csv) Z Z λ_ i _ c g _=>I (.bool false) Z (M (A6 (λσ' f h'=>f=[]/\V.Le i h'/\σ' 4=.bool (decide ((0<=n/\n<=(ms.length:Int)-1)/\(((ms.getD (n.toNat) AI.z).kind)=0)))) ?_ ?_)))))
 ·refine Rg (Lz _ Z (AF B2 (Bx g Z)) (Mz (J n) Z (L Z (AT func59 SJ Z Z ((Nn d m gs gsv ms msv cs csv n (hgs.le c) (hms.le c) (hcs.le c) ).mono λ_ _ j=>?_)))));obtain ⟨rfl,e⟩:=j;refine Mz (.bool (decide (0<=n/\n<=(ms.length:Int)-1))) Z (Ar (p:=0<=n/\n<=(ms.length:Int)-1) ?_ ?_)
  ·intro a;refine Gg 3 8 (AB Z a) Z (AE Aw Z (Gg 3 8 (AB Z a) Z (AE CF Z (Gg 3 8 (AB Z a) Z (Lo msv Z (Rd.one DS (e.keep g Z) Z) (Gg 3 8 (AB Z a) Z (Mo (J n) Z ?_)))))));have k:(0:Int)<=n:=Y
   have l:n<((ms.length:Nat):Int):=Y
   exact Gg 3 8 (AB Z a) Z (Ab F0 hms Z Z k l λo q r=>have s:AN _ o q 5 (Be (ms.getD (n.toNat) AI.z)):=AN.getD AI.z r;Gg 3 8 (AB Z a) Z (AE JI Z (Gg 3 8 (AB Z a) Z (Lo (J ((ms.getD (n.toNat) AI.z).kind)) Z (BR OR (s.le (c.trans e)) Z) (Gg 3 8 (AB Z a) Z (BN Z Z (Pk true (.bool (decide (((ms.getD (n.toNat) AI.z).kind)=0))) Z (AB Z a) Z (I (.bool (decide (((ms.getD (n.toNat) AI.z).kind)=0))) Z (M (⟨Z,e,Et (b:=(.bool (decide (((ms.getD (n.toNat) AI.z).kind)=0)):aU)) Z (congrArg Value.bool (by (simp [a];done):decide (((ms.getD (n.toNat) AI.z).kind)=0)=(decide ((0<=n/\n<=(ms.length:Int)-1)/\(((ms.getD (n.toNat) AI.z).kind)=0)))))⟩))))))))))
  ·intro a;exact Gs 3 8 (AA Z a) Z (Gs 3 8 (AA Z a) Z (Gs 3 8 (AA Z a) Z (Gs 3 8 (AA Z a) Z (Gs 3 8 (AA Z a) Z (Gs 3 8 (AA Z a) Z (Gs 3 8 (AA Z a) Z (Gs 3 8 (AA Z a) Z (Pk false (.bool false) Z (AA Z a) Z (I (.bool false) Z (M (⟨Z,e,Et (b:=(.bool false:aU)) Z (congrArg Value.bool (by (simp [a];done):false=(decide ((0<=n/\n<=(ms.length:Int)-1)/\(((ms.getD (n.toNat) AI.z).kind)=0)))))⟩)))))))))))
 ·rintro _ _ _ ⟨t,u,w⟩;subst t;exact Rt (⟨Zr,JS Z (v:=.bool (decide ((0<=n/\n<=(ms.length:Int)-1)/\(((ms.getD (n.toNat) AI.z).kind)=0)))) w (⟨(by rfl),(c.trans u)⟩)⟩)
theorem AA4(hgs:AD h gsv 5 Bs gs)(hms:AD h msv 5 Be ms)(hcs:AD h csv 4 BK cs):AW W 159 #[.agg #[J d,J m,gsv,msv,csv]] h (λv h'=>v=(J (Gc d m):aU)/\h.Le h'):=by
 have q:=hgs.len;have r:=hms.len;have s:=hcs.len;refine Ct func159 Z (Sr (L Z (Bo (Cp d m gsv msv csv) Z Z λ_ g _ e f _=>I (J 0) Z (M (Sq (A6 (λσ' c h'=>c=[]/\g=h'/\σ' 2=J 0/\σ' 14=.bool (Q1j d m)) ?_ ?_))))))
 ·refine Rg (Fz Aw Z (Fz Dg Z (Lz (J d) Z (Rd.one AH f Z) (L Z (Ai func55 B7 Z Z Z ((BZ d 1 99 ).mono λ_ _ i=>?_))))));obtain ⟨rfl,rfl⟩:=i;refine L Z (A3 Z (Mz (.bool (decide (¬(1<=d/\d<=99)))) Z (Ar (p:=¬(1<=d/\d<=99)) ?_ ?_)))
  ·intro a;exact Gs 5 8 (AB Z a) Z (Gs 5 8 (AB Z a) Z (Gs 5 8 (AB Z a) Z (Gs 5 8 (AB Z a) Z (Gs 5 8 (AB Z a) Z (Pk true (.bool true) Z (AB Z a) Z (M (⟨Z,Z,Z,Et (b:=(.bool true:aU)) Z (congrArg Value.bool (by (simp [a];done):true=(Q1j d m)))⟩)))))))
  ·intro a;refine Gg 5 8 (AA Z a) Z (AE Aw Z (Gg 5 8 (AA Z a) Z (AE JK Z (Gg 5 8 (AA Z a) Z (Lo (J m) Z (Rd.one AH f Z) (Gg 5 8 (AA Z a) Z (Ai func55 B7 Z Z Z ((BZ m 0 2 ).mono λ_ _ j=>?_))))))));obtain ⟨rfl,rfl⟩:=j;exact Gg 5 8 (AA Z a) Z (A3 Z (Pk false (.bool (decide (¬(0<=m/\m<=2)))) Z (AA Z a) Z (M (⟨Z,Z,Z,Et (b:=(.bool (decide (¬(0<=m/\m<=2))):aU)) Z (congrArg Value.bool (by (simp [a];done):decide (¬(0<=m/\m<=2))=(Q1j d m)))⟩))))
 ·rintro _ _ _ ⟨k,l,t,n⟩;subst k;subst l;refine AR n (λo=>?_) (λo=>?_)
  ·exact Sr (I (J 1) Z (M (Rt (⟨Zr,Ot (J 1) Z (⟨(by simp_all [Gc]),e⟩)⟩))))
  ·exact Sk (Sr (I (J 0) Z (M (Rt (⟨Zr,Ot (J 0) Z (⟨(by simp_all [Gc]),e⟩)⟩)))))
theorem RM(xs:List Int)(xsv:aU)(fv:aU)(p:Int->Bool)(hxs:AD h xsv 1 eI xs)(hf:∀x ∈ xs,∀h1,h.Le h1->CC W fv #[J x] h1 λv h2=>v=.bool (p x)/\h1.Le h2):AW W 92 #[xsv,fv] h (λv h'=>v=(J (idxOf p xs):aU)/\h.Le h'):=by
 have B:=hxs.len;refine Ct func92 Z (Sr (I (J 0) Z (M (S2 (Mz xsv Z (L Z (AO Bd hxs Z (Mz (J 0) Z (M (Bk (Ag (λf σ' b h'=>∃(k:Nat),f=xs.length-k/\(k<=xs.length)/\((xs.take k).any p=false)/\b=[]/\V.Le h h'/\σ' 0=xsv/\σ' 1=fv/\σ' 7=J (xs.length:Int)/\σ' 8=J k) ⟨0,Z,Y,aD,Z,Lr,Z,Z,Z,Z⟩ (λf _ _ _ n=>?_))))))))))));obtain ⟨k,rfl,C,c,o,a,g,i,j,e⟩:=n;subst o;refine Sr (L Z (Am e j (M (Sq (AR Z (λq=>?_) (λq=>?_))))))
 ·refine Sk (Sq (Bk (Sr (Mv (J k) Z e (I (J k) Z (M (Sr (Mv fv Z i (Mv xsv Z g (Mz (J k) Z ?_))))))))));have r:(0:Int)<=(k:Int):=Y
  have s:(k:Int)<((xs.length:Nat):Int):=Y
  refine L Z (Ab AM hxs Z Z r s λt u w=>have y:AN _ t u 1 (eI (xs.getD k 0)):=AN.getD 0 w;Lz (Qo xs k) Z (BR AH (y.le a) Z) (L Z (FT Z (vs:=#[J (xs.getD k 0)]) (by simp only [List.map_toArray,List.map_cons,List.map_nil,AL] <;> rfl) ((hf (xs.getD k 0) (CG Y) _ a).mono λ_ _ z=>?_))));obtain ⟨rfl,l⟩:=z;refine M (Bw Z (λA=>?_) (λA=>?_))
  ·exact Sr (Mz (J k) Z (I (J k) Z (M (Rt (⟨Zr,Ot (J k) Z (⟨(by (rw [Fb (k:=k) Y c ‹_›];done)),(a.trans l)⟩)⟩)))))
  ·exact Sk (Rg (Ad _ _ Z e Z Y (Mz (J ((k:Int)+1)) Z (M (⟨_,Y,k+1,Z,Y,(by exact En (d:=0) Y c ‹_›),Z,(a.trans l),g,i,j,Z⟩)))))
 ·exact Xt (Sr (I (J (-1)) Z (M (Rt (⟨Zr,Ot (J (-1)) Z (⟨(by (rw [Em (k:=k) Y c])),a⟩)⟩)))))
theorem GR(xs:List Int)(xsv:aU)(fv:aU)(p:Int->Bool)(hxs:AD h xsv 1 eI xs)(hf:∀x ∈ xs,∀h1,h.Le h1->CC W fv #[J x] h1 λv h2=>v=.bool (p x)/\h1.Le h2):AW W 67 #[xsv,fv] h (λv h'=>v=(.bool (xs.any p):aU)/\h.Le h'):=by
 have f:=hxs.len;refine Ct func67 Z (Sr (I (.bool false) Z (M (Sr (Mz xsv Z (Mz fv Z (L Z (AT func92 AAp Z Z ((RM xs xsv fv p hxs (λx a h1 b=>hf x a h1 (V.Le.trans Lr b))).mono λ_ _ c=>?_)))))))));obtain ⟨rfl,e⟩:=c;exact L Z (CD Z Z (I (.bool (decide (0<=(idxOf p xs)))) Z (M (Rt (⟨Zr,Ot (.bool (decide (0<=(idxOf p xs)))) Z (⟨(by rw [show decide (0<=idxOf p xs)=xs.any p from by rw [Bool.eq_iff_iff];simp [EY]]),e⟩)⟩)))))
theorem N3(xs:List AP)(xsv:aU)(fv:aU)(p:AP->Bool)(hxs:AD h xsv 4 BK xs)(hf:∀x ∈ xs,∀h1,h.Le h1->CC W fv #[.agg #[J x.good,J x.day,J x.low,J x.high]] h1 λv h2=>v=.bool (p x)/\h1.Le h2):AW W 127 #[xsv,fv] h (λv h'=>v=(J (idxOf p xs):aU)/\h.Le h'):=by
 have C:=hxs.len;refine Ct func127 Z (Sr (I (J 0) Z (M (S2 (Mz xsv Z (L Z (AO MR hxs Z (Mz (J 0) Z (M (Bk (Ag (λf σ' b h'=>∃(k:Nat),f=xs.length-k/\(k<=xs.length)/\((xs.take k).any p=false)/\b=[]/\V.Le h h'/\σ' 0=xsv/\σ' 1=fv/\σ' 7=J (xs.length:Int)/\σ' 8=J k) ⟨0,Z,Y,aD,Z,Lr,Z,Z,Z,Z⟩ (λf _ _ _ n=>?_))))))))))));obtain ⟨k,rfl,D,c,o,a,g,i,j,e⟩:=n;subst o;refine Sr (L Z (Am e j (M (Sq (AR Z (λq=>?_) (λq=>?_))))))
 ·refine Sk (Sq (Bk (Sr (Mv (J k) Z e (I (J k) Z (M (Sr (Mv fv Z i (Mv xsv Z g (Mz (J k) Z ?_))))))))));have r:(0:Int)<=(k:Int):=Y
  have s:(k:Int)<((xs.length:Nat):Int):=Y
  refine L Z (Ab Pv hxs Z Z r s λt u w=>have y:AN _ t u 4 (BK (xs.getD k AP.z)):=AN.getD AP.z w;Lz _ Z (AF Ij (y.le a)) (L Z (FT Z (vs:=#[.agg (Qq xs k)]) (by simp only [List.map_toArray,List.map_cons,List.map_nil,AL] <;> rfl) ((hf (xs.getD k AP.z) (CG Y) _ a).mono λ_ _ A=>?_))));obtain ⟨rfl,l⟩:=A;refine M (Bw Z (λB=>?_) (λB=>?_))
  ·exact Sr (Mz (J k) Z (I (J k) Z (M (Rt (⟨Zr,Ot (J k) Z (⟨(by (rw [Fb (k:=k) Y c ‹_›];done)),(a.trans l)⟩)⟩)))))
  ·exact Sk (Rg (Ad _ _ Z e Z Y (Mz (J ((k:Int)+1)) Z (M (⟨_,Y,k+1,Z,Y,(by exact En (d:=AP.z) Y c ‹_›),Z,(a.trans l),g,i,j,Z⟩)))))
 ·exact Xt (Sr (I (J (-1)) Z (M (Rt (⟨Zr,Ot (J (-1)) Z (⟨(by (rw [Em (k:=k) Y c])),a⟩)⟩)))))
theorem LV(xs:List AP)(xsv:aU)(fv:aU)(p:AP->Bool)(hxs:AD h xsv 4 BK xs)(hf:∀x ∈ xs,∀h1,h.Le h1->CC W fv #[.agg #[J x.good,J x.day,J x.low,J x.high]] h1 λv h2=>v=.bool (p x)/\h1.Le h2):AW W 107 #[xsv,fv] h (λv h'=>v=(.bool (xs.any p):aU)/\h.Le h'):=by
 have f:=hxs.len;refine Ct func107 Z (Sr (I (.bool false) Z (M (Sr (Mz xsv Z (Mz fv Z (L Z (AT func127 XR Z Z ((N3 xs xsv fv p hxs (λx a h1 b=>hf x a h1 (V.Le.trans Lr b))).mono λ_ _ c=>?_)))))))));obtain ⟨rfl,e⟩:=c;exact L Z (CD Z Z (I (.bool (decide (0<=(idxOf p xs)))) Z (M (Rt (⟨Zr,Ot (.bool (decide (0<=(idxOf p xs)))) Z (⟨(by rw [show decide (0<=idxOf p xs)=xs.any p from by rw [Bool.eq_iff_iff];simp [EY]]),e⟩)⟩)))))
theorem P7(xs:List Good)(xsv:aU)(fv:aU)(p:Good->Bool)(hxs:AD h xsv 5 Bs xs)(hf:∀x ∈ xs,∀h1,h.Le h1->CC W fv #[.agg #[.string x.name,J x.cost,J x.pack,J x.low,J x.high]] h1 λv h2=>v=.bool (p x)/\h1.Le h2):AW W 168 #[xsv,fv] h (λv h'=>v=(J (idxOf p xs):aU)/\h.Le h'):=by
 have C:=hxs.len;refine Ct func168 Z (Sr (I (J 0) Z (M (S2 (Mz xsv Z (L Z (AO FN hxs Z (Mz (J 0) Z (M (Bk (Ag (λf σ' b h'=>∃(k:Nat),f=xs.length-k/\(k<=xs.length)/\((xs.take k).any p=false)/\b=[]/\V.Le h h'/\σ' 0=xsv/\σ' 1=fv/\σ' 7=J (xs.length:Int)/\σ' 8=J k) ⟨0,Z,Y,aD,Z,Lr,Z,Z,Z,Z⟩ (λf _ _ _ n=>?_))))))))))));obtain ⟨k,rfl,D,c,o,a,g,i,j,e⟩:=n;subst o;refine Sr (L Z (Am e j (M (Sq (AR Z (λq=>?_) (λq=>?_))))))
 ·refine Sk (Sq (Bk (Sr (Mv (J k) Z e (I (J k) Z (M (Sr (Mv fv Z i (Mv xsv Z g (Mz (J k) Z ?_))))))))));have r:(0:Int)<=(k:Int):=Y
  have s:(k:Int)<((xs.length:Nat):Int):=Y
  refine L Z (Ab Hh hxs Z Z r s λt u w=>have y:AN _ t u 5 (Bs (xs.getD k Good.z)):=AN.getD Good.z w;Lz _ Z (AF HD (y.le a)) (L Z (FT Z (vs:=#[.agg (Qk xs k)]) (by simp only [List.map_toArray,List.map_cons,List.map_nil,AL] <;> rfl) ((hf (xs.getD k Good.z) (CG Y) _ a).mono λ_ _ A=>?_))));obtain ⟨rfl,l⟩:=A;refine M (Bw Z (λB=>?_) (λB=>?_))
  ·exact Sr (Mz (J k) Z (I (J k) Z (M (Rt (⟨Zr,Ot (J k) Z (⟨(by (rw [Fb (k:=k) Y c ‹_›];done)),(a.trans l)⟩)⟩)))))
  ·exact Sk (Rg (Ad _ _ Z e Z Y (Mz (J ((k:Int)+1)) Z (M (⟨_,Y,k+1,Z,Y,(by exact En (d:=Good.z) Y c ‹_›),Z,(a.trans l),g,i,j,Z⟩)))))
 ·exact Xt (Sr (I (J (-1)) Z (M (Rt (⟨Zr,Ot (J (-1)) Z (⟨(by (rw [Em (k:=k) Y c])),a⟩)⟩)))))
theorem MX(xs:List Good)(xsv:aU)(fv:aU)(p:Good->Bool)(hxs:AD h xsv 5 Bs xs)(hf:∀x ∈ xs,∀h1,h.Le h1->CC W fv #[.agg #[.string x.name,J x.cost,J x.pack,J x.low,J x.high]] h1 λv h2=>v=.bool (p x)/\h1.Le h2):AW W 164 #[xsv,fv] h (λv h'=>v=(.bool (xs.any p):aU)/\h.Le h'):=by
 have f:=hxs.len;refine Ct func164 Z (Sr (I (.bool false) Z (M (Sr (Mz xsv Z (Mz fv Z (L Z (AT func168 Xg Z Z ((P7 xs xsv fv p hxs (λx a h1 b=>hf x a h1 (V.Le.trans Lr b))).mono λ_ _ c=>?_)))))))));obtain ⟨rfl,e⟩:=c;exact L Z (CD Z Z (I (.bool (decide (0<=(idxOf p xs)))) Z (M (Rt (⟨Zr,Ot (.bool (decide (0<=(idxOf p xs)))) Z (⟨(by rw [show decide (0<=idxOf p xs)=xs.any p from by rw [Bool.eq_iff_iff];simp [EY]]),e⟩)⟩)))))
theorem RN(n:Int):AW W 104 #[J n] h (λv h'=>v=(.bool (decide (¬(0<=n/\n<=99))):aU)/\h=h'):=by
 refine Ct func104 Z (Sr (I (.bool false) Z (M (Sr (Mz (J n) Z (L Z (Ai func55 B7 Z Z Z ((BZ n 0 99 ).mono λ_ _ a=>?_))))))));obtain ⟨rfl,rfl⟩:=a;exact L Z (A3 Z (I (Q1d n) Z (M (Rt (⟨Zr,Ot (Q1d n) Z (⟨Z,Z⟩)⟩)))))
theorem MY(l:List Int)(lv:aU)(m:Int)(hl:AD h lv 1 eI l):AW W 88 #[lv,J m] h (λv h'=>v=(J (A7 l m):aU)/\h.Le h'):=by
 have k:=hl.len;refine Ct func88 Z (Sr (I (J 0) Z (M (Sq (Bk (Sr (Mz lv Z (L Z (AO Bd hl Z (Mz (J m) Z (L Z (Av Z Z (I (.bool (decide (¬(l.length:Int)=m))) Z (M (AR Z (λf=>?_) (λf=>?_))))))))))))))))
 ·exact Sr (I (J 2) Z (M (Rt (⟨Zr,Ot (J 2) Z (⟨(by simp_all [A7]),Lr⟩)⟩))))
 ·refine Sr (Mz lv Z ?_);have g:∀x ∈ l,∀a,V.Le h a->CC W (.func (.func 104) #[] #[]) #[J x] a λv b=>v=.bool ((λx=>decide (¬(0<=x/\x<=99))) x)/\a.Le b:=by
   intro x n a _;exact BQ func104 XB Z ((RN x ).mono λv b c=>⟨c.1,by rw [<-c.2];exact V.Le.refl _⟩)
  refine L Z (AT func67 NB Z Z ((GR l lv (.func (.func 104) #[] #[]) (λx=>decide (¬(0<=x/\x<=99))) hl g).mono λ_ _ i=>?_));obtain ⟨rfl,e⟩:=i;refine I (.bool (l.any (λx=>decide (¬(0<=x/\x<=99))))) Z (M (Bw Z (λj=>?_) (λj=>?_)))
  ·exact Sr (I (J 1) Z (M (Rt (⟨Zr,Ot (J 1) Z (⟨(by simp_all [A7]),e⟩)⟩))))
  ·exact Sk (Sr (I (J 0) Z (M (Rt (⟨Zr,Ot (J 0) Z (⟨(by simp_all [A7]),e⟩)⟩)))))
theorem Xz(hgs:AD h gsv 5 Bs gs)(hms:AD h msv 5 Be ms)(hcs:AD h csv 4 BK cs):AW W 161 #[.agg #[J d,J m,gsv,msv,csv]] h (λv h'=>v=(J (DT d gs ms):aU)/\h.Le h'):=by
 have av:=hgs.len;have aw:=hms.len;have ax:=hcs.len;refine Ct func161 Z (Sr (L Z (Bo (Cp d m gsv msv csv) Z Z λy P _ i r _=>I (J 0) Z (M (S2 (Fz Aw Z (Fz CF Z (Lz msv Z (Rd.one DS r Z) (have A:=hms.le i;L Z (AO FO A Z (L Z (CR Z Z (M (AR Z (λQ=>?_) (λQ=>?_)))))))))))))))
 ·exact Sr (I (J 2) Z (M (Rt (⟨Zr,Ot (J 2) Z (⟨(by (symm;congr 1;rw [DT,aT ‹_›];done)),i⟩)⟩))))
 ·refine Sk (Sr (I (J 0) Z (M (S2 (Fz Aw Z (Fz CF Z (Lz msv Z (Rd.one DS r Z) (L Z (AO FO A Z (Mz (J 0) Z (M (Bk (Ag (λB σ' s h'=>∃(k:Nat),B=ms.length-k/\(k<=ms.length)/\(∀j,j<k->GI d gs ms j=0)/\s=[]/\V.Le P h'/\σ' 1=Pt y/\σ' 13=msv/\σ' 14=J (ms.length:Int)/\σ' 3=J (Fq ms k)/\σ' 15=J k) ⟨0,Z,Y,aK,Z,Lr,Z,Z,Z,Z,Z⟩ (λB _ _ _ R=>?_))))))))))))));obtain ⟨k,rfl,hk,a,S,f,t,C,D,T,u⟩:=R;subst S;refine Sr (L Z (Am u D (M (Sq (AR Z (λU=>?_) (λU=>?_))))))
  ·refine Sk (Sq (Bk (Sq (Rg ?_))));have X:(0:Int)<=(k:Int):=Y
   have a5:(k:Int)<((ms.length:Nat):Int):=Y
   refine L Z (Ab F0 hms C u X a5 λbk am a6=>have a7:AN _ bk am 5 (Be (ms.getD k AI.z)):=AN.getD AI.z a6;have g:=i.trans f;Lz _ Z (AF H4 (a7.le g)) (have E:=f.keep r Z;L Z (AS E3 λbl _ l n a8 _=>have a9:y≠bl:=CL E l;L Z (So (.agg (Qd ms k)) (Qd ms k) H4 Z a8 Z aD Z λ_ w p=>M (Sq (Bk (Sr (Fz JI Z (Lz (J ((ms.getD k AI.z).kind)) Z (Rd.one OR w Z) (L Z (Ai func55 B7 Z Z Z ((BZ ((ms.getD k AI.z).kind) 0 4 ).mono λ_ _ ba=>?_))))))))))));obtain ⟨rfl,rfl⟩:=ba;refine L Z (A3 Z (I (.bool (decide (¬(0<=((ms.getD k AI.z).kind)/\((ms.getD k AI.z).kind)<=4)))) Z (M (AR Z (λF=>?_) (λF=>?_)))))
   ·exact Sr (I (J 1) Z (M (Rt (⟨Zr,Ot (J 1) Z (⟨(by (symm;congr 1;rw [DT,aS ‹_›];exact CN (k:=k) a Y (by unfold GI;(simp only [*,not_true_eq_false,not_false_eq_true,if_true,if_false,true_or,or_true,reduceCtorEq,Bool.false_eq_true];done)) aC)),((g.trans n).upd (Ln g l) p)⟩)⟩))))
   ·have hc48_:=Dn F;refine Sr (have H:=(p _ a9).trans (n.keep E Z);Ld _ Z t (AF B2 (Bx H Z)) (Fz LT Z (Lz (J ((ms.getD k AI.z).good)) Z (Rd.one AH w Z) (have c:=(g.trans n).upd (Ln g l) p;L Z (AT func53 Ie Z Z ((Gq d m gs gsv ms msv cs csv ((ms.getD k AI.z).good) (hgs.le c) (hms.le c) (hcs.le c) ).mono λ_ _ bb=>?_))))));obtain ⟨rfl,e⟩:=bb;refine L Z (A3 Z (I (.bool (decide (¬(0<=((ms.getD k AI.z).good)/\((ms.getD k AI.z).good)<=(gs.length:Int)-1)))) Z (M (AR Z (λK=>?_) (λK=>?_)))))
    ·exact Sr (I (J 6) Z (M (Rt (⟨Zr,Ot (J 6) Z (⟨(by (symm;congr 1;rw [DT,aS ‹_›];exact CN (k:=k) a Y (by unfold GI;(clear a;simp_all;done)) aC)),(c.trans e)⟩)⟩))))
    ·have hc59_:=Dn K;refine Sr (Fz ER Z (have q:=e.keep w Z;Lz (J ((ms.getD k AI.z).day)) Z (Rd.one AH q Z) (Fa Aw Z t (Fz Dg Z (Lz (J d) Z (Rd.one AH (e.keep H Z) Z) (L Z (Ai func55 B7 Z Z Z ((BZ ((ms.getD k AI.z).day) 1 d ).mono λ_ _ bc=>?_))))))));obtain ⟨rfl,rfl⟩:=bc;refine L Z (A3 Z (I (.bool (decide (¬(1<=((ms.getD k AI.z).day)/\((ms.getD k AI.z).day)<=d)))) Z (M (AR Z (λN=>?_) (λN=>?_)))))
     ·exact Sr (I (J 1) Z (M (Rt (⟨Zr,Ot (J 1) Z (⟨(by (symm;congr 1;rw [DT,aS ‹_›];exact CN (k:=k) a Y (by unfold GI;(clear a;simp_all;done)) aC)),(c.trans e)⟩)⟩))))
     ·have hc67_:=Dn N;refine Sr (Fz ER Z (Lz (J ((ms.getD k AI.z).day)) Z (Rd.one AH q Z) (Mv (J (Fq ms k)) Z T (L Z (Am Z Z (I (.bool (decide (((ms.getD k AI.z).day)<(Fq ms k)))) Z (M (AR Z (λbd=>?_) (λbd=>?_)))))))))
      ·exact Sr (I (J 7) Z (M (Rt (⟨Zr,Ot (J 7) Z (⟨(by (symm;congr 1;rw [DT,aS ‹_›];exact CN (k:=k) a Y (by unfold GI;(clear a;simp_all;done)) aC)),(c.trans e)⟩)⟩))))
      ·refine Sr (Fz JJ Z (Lz (.agg #[J ((ms.getD k AI.z).low),J ((ms.getD k AI.z).high)]) Z (Eg (o:=3) (ws:=#[J ((ms.getD k AI.z).low),J ((ms.getD k AI.z).high)]) Bj (Bx q Z) (Nb Z) Z) (L Z (Ae func166 Pm Z ((Va ((ms.getD k AI.z).low) ((ms.getD k AI.z).high) ).mono λ_ _ be=>?_)))));obtain ⟨rfl,x⟩:=be;refine L Z (A3 Z (I (.bool (decide (¬(Gy ((ms.getD k AI.z).low) ((ms.getD k AI.z).high))))) Z (M (AR Z (λO=>?_) (λO=>?_)))))
       ·exact Sr (I (J 1) Z (M (Rt (⟨Zr,Ot (J 1) Z (⟨(by (symm;congr 1;rw [DT,aS ‹_›];exact CN (k:=k) a Y (by unfold GI;(clear a;simp_all;done)) aC)),((c.trans e).trans x)⟩)⟩))))
       ·have hc75_:=Dn O;exact Sk (Rg (Fz ER Z (Lz (J ((ms.getD k AI.z).day)) Z (Rd.one AH (x.keep q Z) Z) (I (J ((ms.getD k AI.z).day)) Z (M (Rg (Ad _ _ Z u Z Y (Mz (J ((k:Int)+1)) Z (M (have bf:=(((f.trans n).upd (Ln f l) p).trans e).trans x;⟨_,Y,k+1,Z,Y,(by exact EZ a (by unfold GI;(clear a;simp_all;done))),Z,bf,t,C,D,(Et (b:=(J ((ms.getD k AI.z).day):aU)) Z (by simp [Fq])),Z⟩))))))))))
  ·exact Xt (Sr (I (J 0) Z (M (Rt (⟨Zr,Ot (J 0) Z (⟨(by (symm;congr 1;rw [DT,aS ‹_›];exact Ds (k:=k) a Y)),(i.trans f)⟩)⟩)))))
theorem Vc(hgs:AD h gsv 5 Bs gs)(hms:AD h msv 5 Be ms)(hcs:AD h csv 4 BK cs):AW W 162 #[.agg #[J d,J m,gsv,msv,csv]] h (λv h'=>v=(J (D2 d gs cs):aU)/\h.Le h'):=by
 have aw:=hgs.len;have ax:=hms.len;have ay:=hcs.len;refine Ct func162 Z (Sr (L Z (Bo (Cp d m gsv msv csv) Z Z λr O _ l s _=>I (J 0) Z (M (S2 (Fz Aw Z (Fz Es Z (Lz csv Z (Rd.one H5 s Z) (have B:=hcs.le l;L Z (AO MR B Z (L Z (CR Z Z (M (AR Z (λP=>?_) (λP=>?_)))))))))))))))
 ·exact Sr (I (J 2) Z (M (Rt (⟨Zr,Ot (J 2) Z (⟨(by (symm;congr 1;rw [D2,aT ‹_›];done)),l⟩)⟩))))
 ·refine Sk (S2 (Fz Aw Z (Fz Es Z (Lz csv Z (Rd.one H5 s Z) (L Z (AO MR B Z (Mz (J 0) Z (M (Bk (Ag (λC σ' c h'=>∃(k:Nat),C=cs.length-k/\(k<=cs.length)/\(∀j,j<k->Hu d gs cs j=0)/\c=[]/\V.Le O h'/\σ' 1=Pt r/\σ' 12=csv/\σ' 13=J (cs.length:Int)/\σ' 14=J k) ⟨0,Z,Y,aK,Z,Lr,Z,Z,Z,Z⟩ (λC _ _ _ Q=>?_)))))))))));obtain ⟨k,rfl,hk,e,R,f,n,t,u,q⟩:=Q;subst R;refine Sr (L Z (Am q u (M (Sq (AR Z (λS=>?_) (λS=>?_))))))
  ·refine Sk (Sq (Bk (Sq (Rg ?_))));have T:(0:Int)<=(k:Int):=Y
   have U:(k:Int)<((cs.length:Nat):Int):=Y
   refine L Z (Ab Pv hcs t q T U λX al a7=>have a8:AN _ X al 4 (BK (cs.getD k AP.z)):=AN.getD AP.z a7;have w:=l.trans f;Lz _ Z (AF Ij (a8.le w)) (have D:=f.keep s Z;L Z (AS JO λbo _ x y a9 _=>have ba:r≠bo:=CL D x;L Z (So (.agg (Qq cs k)) (Qq cs k) Ij Z a9 Z aD Z λ_ E A=>M (Bk (Sr (have F:=(A _ ba).trans (y.keep D Z);Ld _ Z n (AF B2 (Bx F Z)) (Fz Ni Z (Lz (J ((cs.getD k AP.z).good)) Z (Rd.one AH E Z) (have g:=(w.trans y).upd (Ln w x) A;L Z (AT func53 Ie Z Z ((Gq d m gs gsv ms msv cs csv ((cs.getD k AP.z).good) (hgs.le g) (hms.le g) (hcs.le g) ).mono λ_ bp bb=>?_))))))))))));obtain ⟨rfl,i⟩:=bb;refine L Z (A3 Z (I (.bool (decide (¬(0<=((cs.getD k AP.z).good)/\((cs.getD k AP.z).good)<=(gs.length:Int)-1)))) Z (M (AR Z (λH=>?_) (λH=>?_)))))
   ·exact Sr (I (J 6) Z (M (Rt (⟨Zr,Ot (J 6) Z (⟨(by (symm;congr 1;rw [D2,aS ‹_›];exact CN (k:=k) e Y (by unfold Hu;(simp only [*,not_true_eq_false,not_false_eq_true,if_true,if_false,true_or,or_true,reduceCtorEq,Bool.false_eq_true];done)) aC)),(g.trans i)⟩)⟩))))
   ·have hc52_:=Dn H;refine A6 (λσ' c h'=>c=[]/\V.Le bp h'/\σ' 1=Pt r/\σ' 12=csv/\σ' 13=J (cs.length:Int)/\σ' 14=J k/\σ' 24=.bool (decide ((¬(0<=((cs.getD k AP.z).day)/\((cs.getD k AP.z).day)<=d))\/(¬((0<=((cs.getD k AP.z).low)/\((cs.getD k AP.z).low)<=((cs.getD k AP.z).high))/\((cs.getD k AP.z).high)<=999))))) ?_ ?_
    ·refine Rg (Fz Nj Z (have K:=i.keep E Z;Lz (J ((cs.getD k AP.z).day)) Z (Rd.one AH K Z) (Fa Aw Z n (Fz Dg Z (Lz (J d) Z (Rd.one AH (i.keep F Z) Z) (L Z (Ai func55 B7 Z Z Z ((BZ ((cs.getD k AP.z).day) 0 d ).mono λ_ _ bc=>?_))))))));obtain ⟨rfl,rfl⟩:=bc;refine L Z (A3 Z (Mz (.bool (decide (¬(0<=((cs.getD k AP.z).day)/\((cs.getD k AP.z).day)<=d)))) Z (Ar (p:=¬(0<=((cs.getD k AP.z).day)/\((cs.getD k AP.z).day)<=d)) ?_ ?_)))
     ·intro a;exact Gs 7 32 (AB Z a) Z (Gs 7 32 (AB Z a) Z (Gs 7 32 (AB Z a) Z (Gs 7 32 (AB Z a) Z (Pk true (.bool true) Z (AB Z a) Z (I (.bool true) Z (M (⟨Z,Lr,n,t,u,q,Et (b:=(.bool true:aU)) Z (congrArg Value.bool (by grind:true=(decide ((¬(0<=((cs.getD k AP.z).day)/\((cs.getD k AP.z).day)<=d))\/(¬((0<=((cs.getD k AP.z).low)/\((cs.getD k AP.z).low)<=((cs.getD k AP.z).high))/\((cs.getD k AP.z).high)<=999))))))⟩)))))))
     ·intro a;refine Gg 7 32 (AA Z a) Z (AE J3 Z (Gg 7 32 (AA Z a) Z (Lo (.agg #[J ((cs.getD k AP.z).low),J ((cs.getD k AP.z).high)]) Z (Eg (o:=2) (ws:=#[J ((cs.getD k AP.z).low),J ((cs.getD k AP.z).high)]) Bj (Bx K Z) (Nb Z) Z) (Gg 7 32 (AA Z a) Z (Ai func167 Pn Z Z Z ((P6 ((cs.getD k AP.z).low) ((cs.getD k AP.z).high) 0 999 ).mono λ_ _ bd=>?_))))));obtain ⟨rfl,ar⟩:=bd;exact Gg 7 32 (AA Z a) Z (A3 Z (Pk false (.bool (decide (¬((0<=((cs.getD k AP.z).low)/\((cs.getD k AP.z).low)<=((cs.getD k AP.z).high))/\((cs.getD k AP.z).high)<=999)))) Z (AA Z a) Z (I (.bool (decide (¬((0<=((cs.getD k AP.z).low)/\((cs.getD k AP.z).low)<=((cs.getD k AP.z).high))/\((cs.getD k AP.z).high)<=999)))) Z (M (⟨Z,ar,n,t,u,q,Et (b:=(.bool (decide (¬((0<=((cs.getD k AP.z).low)/\((cs.getD k AP.z).low)<=((cs.getD k AP.z).high))/\((cs.getD k AP.z).high)<=999))):aU)) Z (congrArg Value.bool (by grind:decide (¬((0<=((cs.getD k AP.z).low)/\((cs.getD k AP.z).low)<=((cs.getD k AP.z).high))/\((cs.getD k AP.z).high)<=999))=(decide ((¬(0<=((cs.getD k AP.z).day)/\((cs.getD k AP.z).day)<=d))\/(¬((0<=((cs.getD k AP.z).low)/\((cs.getD k AP.z).low)<=((cs.getD k AP.z).high))/\((cs.getD k AP.z).high)<=999))))))⟩)))))
    ·rintro _ _ _ ⟨be,N,bf,bg,bh,bi,bj⟩;subst be;refine AR bj (λbk=>?_) (λbk=>?_)
     ·exact Sr (I (J 1) Z (M (Rt (⟨Zr,Ot (J 1) Z (⟨(by (symm;congr 1;rw [D2,aS ‹_›];exact CN (k:=k) e Y (by unfold Hu;(clear e;simp_all;done)) aC)),((g.trans i).trans N)⟩)⟩))))
     ·exact Sk (Rg (Ad _ _ Z bi Z Y (Mz (J ((k:Int)+1)) Z (M (have bl:=(((f.trans y).upd (Ln f x) A).trans i).trans N;⟨_,Y,k+1,Z,Y,(by exact EZ e (by unfold Hu;(clear e;simp_all;done))),Z,bl,bf,bg,bh,Z⟩)))))
  ·exact Xt (Sr (I (J 0) Z (M (Rt (⟨Zr,Ot (J 0) Z (⟨(by (symm;congr 1;rw [D2,aS ‹_›];exact Ds (k:=k) e Y)),(l.trans f)⟩)⟩)))))
theorem Vd(s:aW)(hsz:s.size<=1000):AW W 163 #[.string s] h (λv h'=>v=(.bool (D1 s):aU)/\h.Le h'):=by
 have x:=CZ s;refine Ct func163 Z (Sr (I (.bool false) Z (M (S2 (Mz (.string s) Z (L Z (UK Nm Z Y λq y t u=>L Z (AO VX u Z (Mz (J 0) Z (M (Bk (Ag (λw σ' e h'=>∃(k:Nat),w=(bytesOf s).length-k/\(k<=(bytesOf s).length)/\(∀j,j<k->GG s j=0)/\e=[]/\V.Le y h'/\σ' 0=.string s/\σ' 6=q/\σ' 7=J ((bytesOf s).length:Int)/\σ' 8=J k) ⟨0,Z,Y,aK,Z,Lr,Z,Z,Z,Z⟩ (λw _ _ z A=>?_)))))))))))));obtain ⟨k,rfl,hk,o,B,g,i,l,n,f⟩:=A;subst B;have C:=ID s k;refine Sr (L Z (Am f n (M (Sq (AR Z (λD=>?_) (λD=>?_))))))
 ·refine Sk (Sq (Bk (Sr (Mv (J k) Z f ?_))));have E:(0:Int)<=(k:Int):=Y
  have F:(k:Int)<(((bytesOf s).length:Nat):Int):=Y
  refine L Z (Ab ST u l f E F λH K N=>have O:AN _ H K 1 (eB ((bytesOf s).getD k 0)):=AN.getD 0 N;Lz (.int .u8 ((bytesOf s).getD k 0)) Z (BR fx_ty5 (O.le g) Z) (I (J k) Z (I (.int .u8 ((bytesOf s).getD k 0)) Z (M (A6 (λσ' e h'=>e=[]/\z=h'/\σ' 0=.string s/\σ' 6=q/\σ' 7=J ((bytesOf s).length:Int)/\σ' 8=J k/\σ' 26=.bool (decide ((¬(97<=((bytesOf s).getD k 0)/\((bytesOf s).getD k 0)<=122))/\(((k:Int)=0)\/(¬(48<=((bytesOf s).getD k 0)/\((bytesOf s).getD k 0)<=57)))))) ?_ ?_)))))
  ·refine Rg (Mz (.int .u8 ((bytesOf s).getD k 0)) Z (L Z (Bi (r:=(bytesOf s).getD k 0) FP EG Z (by rw [IntWalk.i64_in _ Y]) (L Z (Ai func55 B7 Z Z Z ((BZ ((bytesOf s).getD k 0) 97 122 ).mono λ_ _ P=>?_))))));obtain ⟨rfl,rfl⟩:=P;refine L Z (A3 Z (Mz (.bool (decide (¬(97<=((bytesOf s).getD k 0)/\((bytesOf s).getD k 0)<=122)))) Z (Ar (p:=¬(97<=((bytesOf s).getD k 0)/\((bytesOf s).getD k 0)<=122)) ?_ ?_)))
   ·intro a;refine Gg 4 17 (AB Z a) Z (Mo (J k) Z (Gg 4 17 (AB Z a) Z (BN Z Z (Gg 4 17 (AB Z a) Z (Mo (.bool (decide ((k:Int)=0))) Z (Ar (p:=(k:Int)=0) ?_ ?_))))))
    ·intro c;exact Gs 7 20 (AB Z c) Z (Gs 7 20 (AB Z c) Z (Gs 7 20 (AB Z c) Z (Gs 7 20 (AB Z c) Z (Gg 4 17 (AB Z a) Z (Ax (v:=.bool true) (AB Z c) Z (Pk true (.bool true) Z (AB Z a) Z (M (⟨Z,Z,i,l,n,f,Et (b:=(.bool true:aU)) Z (congrArg Value.bool (by grind:true=(decide ((¬(97<=((bytesOf s).getD k 0)/\((bytesOf s).getD k 0)<=122))/\(((k:Int)=0)\/(¬(48<=((bytesOf s).getD k 0)/\((bytesOf s).getD k 0)<=57)))))))⟩))))))))
    ·intro c;refine Gg 7 20 (AA Z c) Z (Mo (.int .u8 ((bytesOf s).getD k 0)) Z (Gg 7 20 (AA Z c) Z (Bi (r:=(bytesOf s).getD k 0) FP EG Z (by rw [IntWalk.i64_in _ Y]) (Gg 7 20 (AA Z c) Z (Ai func55 B7 Z Z Z ((BZ ((bytesOf s).getD k 0) 48 57 ).mono λ_ _ Q=>?_))))));obtain ⟨rfl,rfl⟩:=Q;exact Gg 7 20 (AA Z c) Z (A3 Z (Gg 4 17 (AB Z a) Z (Ax (v:=.bool (decide (¬(48<=((bytesOf s).getD k 0)/\((bytesOf s).getD k 0)<=57)))) (AA Z c) Z (Pk true (.bool (decide (¬(48<=((bytesOf s).getD k 0)/\((bytesOf s).getD k 0)<=57)))) Z (AB Z a) Z (M (⟨Z,Z,i,l,n,f,Et (b:=(.bool (decide (¬(48<=((bytesOf s).getD k 0)/\((bytesOf s).getD k 0)<=57))):aU)) Z (congrArg Value.bool (by grind:decide (¬(48<=((bytesOf s).getD k 0)/\((bytesOf s).getD k 0)<=57))=(decide ((¬(97<=((bytesOf s).getD k 0)/\((bytesOf s).getD k 0)<=122))/\(((k:Int)=0)\/(¬(48<=((bytesOf s).getD k 0)/\((bytesOf s).getD k 0)<=57)))))))⟩))))))
   ·intro a;exact Gs 4 17 (AA Z a) Z (Gs 4 17 (AA Z a) Z (Gs 4 17 (AA Z a) Z (Ay (j:=7) (d:=20) Z Z Z Z Z Z (Ay (j:=7) (d:=20) Z Z Z Z Z Z (Ay (j:=7) (d:=20) Z Z Z Z Z Z (Ay (j:=7) (d:=20) Z Z Z Z Z Z (Gs 4 17 (AA Z a) Z (Pk false (.bool false) Z (AA Z a) Z (M (⟨Z,Z,i,l,n,f,Et (b:=(.bool false:aU)) Z (congrArg Value.bool (by grind:false=(decide ((¬(97<=((bytesOf s).getD k 0)/\((bytesOf s).getD k 0)<=122))/\(((k:Int)=0)\/(¬(48<=((bytesOf s).getD k 0)/\((bytesOf s).getD k 0)<=57)))))))⟩))))))))))
  ·rintro _ _ _ ⟨R,S,T,U,X,ax,ay⟩;subst R;subst S;refine AR ay (λaz=>?_) (λaz=>?_)
   ·exact Sr (I (.bool false) Z (M (Rt (⟨Zr,Ot (.bool false) Z (⟨(by (symm;congr 1;exact K9 o Y (by unfold GG;simp only [FF,FL, *,not_true_eq_false,not_false_eq_true,if_true,if_false,or_self,or_true,true_or,and_self,and_true,true_and];simp_all;done))),(t.trans g)⟩)⟩))))
   ·exact Sk (Rg (Ad _ _ Z ax Z Y (Mz (J ((k:Int)+1)) Z (M (⟨_,Y,k+1,Z,Y,(by exact EZ o (by unfold GG;simp only [FF,FL];simp_all;done)),Z,g,T,U,X,Z⟩)))))
 ·refine Xt (Sr (Mv (.string s) Z i (L Z (KC Dw Z (L Z (Ai func55 B7 Z Z Z ((BZ (s.size:Int) 1 10 ).mono λ_ _ a0=>?_)))))));obtain ⟨rfl,rfl⟩:=a0;exact I (.bool (decide (1<=(s.size:Int)/\(s.size:Int)<=10))) Z (M (Rt (⟨Zr,Ot (.bool (decide (1<=(s.size:Int)/\(s.size:Int)<=10))) Z (⟨(by (symm;congr 1;exact LA o Y)),(t.trans g)⟩)⟩)))
theorem Ve(o:Good)(x:Good)(rx:Nat)(hrx:AN h rx 0 5 #[.string x.name,J x.cost,J x.pack,J x.low,J x.high]):AW W 165 #[.agg #[.string o.name,J o.cost,J o.pack,J o.low,J o.high],Pt rx] h (λv h'=>v=(.bool ((o.name).toList==(x.name).toList):aU)/\h.Le h'):=by
 exact Ct func165 Z (Sr (L Z (Bo #[.string o.name,J o.cost,J o.pack,J o.low,J o.high] Z Z λ_ _ _ a b _=>I (.bool false) Z (M (Sr (Fz LQ Z (Lz (.string o.name) Z (Rd.one IJ b Z) (Fz LQ Z (Lz (.string x.name) Z (BO (o:=0) IJ (hrx.le a) Z) (L Z (Sv Z Z (I (.bool ((o.name).toList==(x.name).toList)) Z (M (Rt (⟨Zr,Ot (.bool ((o.name).toList==(x.name).toList)) Z (⟨Z,a⟩)⟩)))))))))))))))
theorem X2(hgs:AD h gsv 5 Bs gs)(hms:AD h msv 5 Be ms)(hcs:AD h csv 4 BK cs)(hnm:∀k,(gs.getD k Good.z).name.size<=1000):AW W 160 #[.agg #[J d,J m,gsv,msv,csv]] h (λv h'=>v=(J (EA gs):aU)/\h.Le h'):=by
 have a2:=hgs.len;have a3:=hms.len;have a4:=hcs.len;refine Ct func160 Z (Sr (L Z (Bo (Cp d m gsv msv csv) Z Z λD h5 _ q E _=>I (J 0) Z (M (S2 (Fz Aw Z (Fz Cv Z (Lz gsv Z (Rd.one Eh E Z) (have O:=hgs.le q;L Z (AO FN O Z (L Z (Ai func55 B7 Z Z Z ((BZ (gs.length:Int) 1 3 ).mono λ_ _ a6=>?_)))))))))))));obtain ⟨rfl,rfl⟩:=a6;refine L Z (A3 Z (M (AR Z (λP=>?_) (λP=>?_))))
 ·exact Sr (I (J 2) Z (M (Rt (⟨Zr,Ot (J 2) Z (⟨(by (symm;congr 1;rw [EA,aT ‹_›];done)),q⟩)⟩))))
 ·have hc16_:=Dn P;refine Sk (S2 (Fz Aw Z (Fz Cv Z (Lz gsv Z (Rd.one Eh E Z) (L Z (AO FN O Z (Mz (J 0) Z (M (Bk (Ag (λQ σ' e h'=>∃(k:Nat),Q=gs.length-k/\(k<=gs.length)/\(∀j,j<k->I2 gs j=0)/\e=[]/\V.Le h5 h'/\σ' 1=Pt D/\σ' 13=gsv/\σ' 14=J (gs.length:Int)/\σ' 15=J k) ⟨0,Z,Y,aK,Z,Lr,Z,Z,Z,Z⟩ (λQ _ _ _ a7=>?_)))))))))));obtain ⟨k,rfl,hk,i,bx,l,r,s,t,f⟩:=a7;subst bx;have hnk:=hnm k;refine Sr (L Z (Am f t (M (Sq (AR Z (λa8=>?_) (λa8=>?_))))))
  ·refine Sk (Sq (Bk (Sr (Mv (J k) Z f ?_))));have a9:(0:Int)<=(k:Int):=Y
   have ba:(k:Int)<((gs.length:Nat):Int):=Y
   refine L Z (Ab Hh hgs s f a9 ba λbz au bb=>have bc:AN _ bz au 5 (Bs (gs.getD k Good.z)):=AN.getD Good.z bb;have n:=q.trans l;Lz _ Z (AF HD (bc.le n)) (have R:=l.keep E Z;L Z (AS GQ λu _ w y bd _=>have be:D≠u:=CL R w;I (J k) Z (L Z (So (.agg (Qk gs k)) (Qk gs k) HD Z bd Z aD Z λ_ F A=>M (Bk (Sr (Fz LQ Z (Lz (.string ((gs.getD k Good.z).name)) Z (Rd.one IJ F Z) (L Z (Ae func163 Xd Z ((Vd ((gs.getD k Good.z).name) Y).mono λ_ S bf=>?_))))))))))));obtain ⟨rfl,g⟩:=bf;refine L Z (Cf Z (I (.bool (!(D1 ((gs.getD k Good.z).name)))) Z (M (Bw Z (λH=>?_) (λH=>?_)))))
   ·have hc51_:(D1 ((gs.getD k Good.z).name))=false:=by simpa using H
    exact Sr (I (J 4) Z (M (Rt (⟨Zr,Ot (J 4) Z (⟨(by (symm;congr 1;rw [EA,aS ‹_›];exact CN (k:=k) i Y (by unfold I2;(simp only [*,not_true_eq_false,not_false_eq_true,if_true,if_false,true_or,or_true,reduceCtorEq,Bool.false_eq_true];done)) aC)),(((n.trans y).upd (Ln n w) A).trans g)⟩)⟩))))
   ·have hc51_:(D1 ((gs.getD k Good.z).name))=true:=by simpa using H
    refine Sr (Fa Aw Z r (Fz Cv Z (Lz gsv Z (Rd.one Eh (g.keep ((A _ be).trans (y.keep R Z)) Z) Z) (Mz (J k) Z (have K:=((n.trans y).upd (Ln n w) A).trans g;L Z (ok_slice (0) k Hh (hgs.le K) Z Z (⟨_,Z⟩) Y Y λT bg=>?_))))));have bh:AD S T 5 Bs (gs.take k):=by simpa using bg
    refine L Z (Ix Z ?_);have bi:∀x ∈ (gs.take k),∀B,V.Le S B->CC W (.func (.func 165) #[] #[Pt u]) #[.agg #[.string x.name,J x.cost,J x.pack,J x.low,J x.high]] B λv U=>v=.bool ((λx=>(x.name).toList==((gs.getD k Good.z).name).toList) x)/\B.Le U:=by
     intro x hx B l1;exact BQ func165 Xf Z ((Ve x (gs.getD k Good.z) u (Bx (l1.keep (g.keep F Z) Z) Z) ).mono λv U X=>⟨X.1,X.2⟩)
    refine L Z (AT func164 Xe Z Z ((MX (gs.take k) T (.func (.func 165) #[] #[Pt u]) (λx=>(x.name).toList==((gs.getD k Good.z).name).toList) bh bi).mono λ_ b0 bj=>?_));obtain ⟨rfl,C⟩:=bj;refine I (.bool ((gs.take k).any (λx=>(x.name).toList==((gs.getD k Good.z).name).toList))) Z (M (Bw Z (λbk=>?_) (λbk=>?_)))
    ·exact Sr (I (J 5) Z (M (Rt (⟨Zr,Ot (J 5) Z (⟨(by (symm;congr 1;rw [EA,aS ‹_›];exact CN (k:=k) i Y (by unfold I2;(simp only [*,not_true_eq_false,not_false_eq_true,if_true,if_false,true_or,or_true,reduceCtorEq,Bool.false_eq_true];done)) aC)),(K.trans C)⟩)⟩))))
    ·refine A6 (λσ' e h'=>e=[]/\V.Le b0 h'/\σ' 1=Pt D/\σ' 13=gsv/\σ' 14=J (gs.length:Int)/\σ' 15=J k/\σ' 33=.bool (Q9 gs k)) ?_ ?_
     ·refine Rg (Fz LR Z (have N:=C.keep (g.keep F Z) Z;Lz (J (Q1u gs k)) Z (Rd.one AH N Z) (L Z (Ai func55 B7 Z Z Z ((BZ (Q1u gs k) 0 999 ).mono λ_ _ bl=>?_)))));obtain ⟨rfl,rfl⟩:=bl;refine L Z (A3 Z (Mz (.bool (decide (¬(0<=(Q1u gs k)/\(Q1u gs k)<=999)))) Z (Ar (p:=¬(0<=(Q1u gs k)/\(Q1u gs k)<=999)) ?_ ?_)))
      ·intro a;exact Gs 4 38 (AB Z a) Z (Gs 4 38 (AB Z a) Z (Gs 4 38 (AB Z a) Z (Gs 4 38 (AB Z a) Z (Pk true (.bool true) Z (AB Z a) Z (Mz (.bool true) Z (Gs 10 44 Z Z (Gs 10 44 Z Z (Gs 10 44 Z Z (Gs 10 44 Z Z (Pz true (.bool true) Z (I (.bool true) Z (M (⟨Z,Lr,r,s,t,f,Et (b:=(.bool true:aU)) Z (congrArg Value.bool (by grind:true=(Q9 gs k)))⟩)))))))))))))
      ·intro a;refine Gg 4 38 (AA Z a) Z (AE JG Z (Gg 4 38 (AA Z a) Z (Lo (J (Q1e gs k)) Z (Rd.one AH N Z) (Gg 4 38 (AA Z a) Z (Ai func55 B7 Z Z Z ((BZ (Q1e gs k) 1 20 ).mono λ_ _ bm=>?_))))));obtain ⟨rfl,rfl⟩:=bm;refine Gg 4 38 (AA Z a) Z (A3 Z (Pk false (.bool (decide (¬(1<=(Q1e gs k)/\(Q1e gs k)<=20)))) Z (AA Z a) Z (Mz (.bool (decide (¬(1<=(Q1e gs k)/\(Q1e gs k)<=20)))) Z (Ar (p:=¬(1<=(Q1e gs k)/\(Q1e gs k)<=20)) ?_ ?_))))
       ·intro c;exact Gs 10 44 (AB Z c) Z (Gs 10 44 (AB Z c) Z (Gs 10 44 (AB Z c) Z (Gs 10 44 (AB Z c) Z (Pk true (.bool true) Z (AB Z c) Z (I (.bool true) Z (M (⟨Z,Lr,r,s,t,f,Et (b:=(.bool true:aU)) Z (congrArg Value.bool (by grind:true=(Q9 gs k)))⟩)))))))
       ·intro c;refine Gg 10 44 (AA Z c) Z (AE LS Z (Gg 10 44 (AA Z c) Z (Lo (.agg #[J ((gs.getD k Good.z).low),J ((gs.getD k Good.z).high)]) Z (Eg (o:=3) (ws:=#[J ((gs.getD k Good.z).low),J ((gs.getD k Good.z).high)]) Bj (Bx N Z) (Nb Z) Z) (Gg 10 44 (AA Z c) Z (Ae func166 Pm Z ((Va ((gs.getD k Good.z).low) ((gs.getD k Good.z).high) ).mono λ_ _ bn=>?_))))));obtain ⟨rfl,ax⟩:=bn;exact Gg 10 44 (AA Z c) Z (A3 Z (Pk false (.bool (decide (¬(Q10 gs k)))) Z (AA Z c) Z (I (.bool (decide (¬(Q10 gs k)))) Z (M (⟨Z,ax,r,s,t,f,Et (b:=(.bool (decide (¬(Q10 gs k))):aU)) Z (congrArg Value.bool (by grind:decide (¬(Q10 gs k))=(Q9 gs k)))⟩)))))
     ·rintro _ _ _ ⟨bo,aj,bp,bq,br,bs,bt⟩;subst bo;refine AR bt (λbu=>?_) (λbu=>?_)
      ·exact Sr (I (J 1) Z (M (Rt (⟨Zr,Ot (J 1) Z (⟨(by (symm;congr 1;rw [EA,aS ‹_›];exact CN (k:=k) i Y (by unfold I2;(simp only [*,not_true_eq_false,not_false_eq_true,if_true,if_false,true_or,or_true,reduceCtorEq,Bool.false_eq_true];done)) aC)),((K.trans C).trans aj)⟩)⟩))))
      ·exact Sk (Rg (Ad _ _ Z bs Z Y (Mz (J ((k:Int)+1)) Z (M (have bv:=((((l.trans y).upd (Ln l w) A).trans g).trans C).trans aj;⟨_,Y,k+1,Z,Y,(by exact EZ i (by unfold I2;(simp only [*,not_true_eq_false,not_false_eq_true,if_true,if_false,or_self,reduceCtorEq,Bool.false_eq_true];done))),Z,bv,bp,bq,br,Z⟩)))))
  ·exact Xt (Sr (I (J 0) Z (M (Rt (⟨Zr,Ot (J 0) Z (⟨(by (symm;congr 1;rw [EA,aS ‹_›];exact Ds (k:=k) i Y)),(q.trans l)⟩)⟩)))))
def Ts:Array aU:=#[.func (.func 159) #[] #[],.func (.func 160) #[] #[],.func (.func 161) #[] #[],.func (.func 162) #[] #[]]
def Tt:Array aU:=#[.string ⟨#[99,97,109,101]⟩,.func (.func 169) #[] #[],.string ⟨#[115,111,108,100]⟩,.func (.func 170) #[] #[],.string ⟨#[108,111,115,116]⟩,.func (.func 170) #[] #[],.string ⟨#[103,105,118,101,110]⟩,.func (.func 170) #[] #[],.string ⟨#[98,97,99,107]⟩,.func (.func 169) #[] #[]]
def Dx(h:V):Prop:=AN h 0 0 4 Ts/\AN h 1 0 10 Tt
variable {W:Wk prog} {h:V} (d m:Int) (gs:List Good) (gsv:aU) (ms:List AI) (msv:aU) (cs:List AP) (csv:aU)
theorem Dx.le{h h':V}(g:Dx h)(l:h.Le h'):Dx h':=⟨g.1.le l,g.2.le l⟩
def OS(k:Nat):aU:=Ts.getD k undef
def X3(k:Nat):aU:=Tt.getD (k*2+1) undef
theorem X4{k:Nat}(h:k<4):(if false=true then some (Value.agg ((#[.func (.func 159) #[] #[],.func (.func 160) #[] #[],.func (.func 161) #[] #[],.func (.func 162) #[] #[]]:Array aU).extract (k*1) (k*1+1))) else (#[.func (.func 159) #[] #[],.func (.func 160) #[] #[],.func (.func 161) #[] #[],.func (.func 162) #[] #[]]:Array aU)[k*1]?)=some (OS k):=by
 match k,h with
 | 0,_=>rfl
 | 1,_=>rfl
 | 2,_=>rfl
 | 3,_=>rfl
theorem AA5{k:Nat}(h:k<5):Tt[0+k*2+1]? =some (X3 k):=by
 match k,h with
 | 0,_=>rfl
 | 1,_=>rfl
 | 2,_=>rfl
 | 3,_=>rfl
 | 4,_=>rfl
theorem Tu(d m:Int)(gs:List Good)(gsv:aU)(ms:List AI)(msv:aU)(cs:List AP)(csv:aU)(hgs:AD h gsv 5 Bs gs)(hms:AD h msv 5 Be ms)(hcs:AD h csv 4 BK cs)(hnm:∀k,(gs.getD k Good.z).name.size<=1000){k:Nat}(hk:k<4) :
  CC W (OS k) #[.agg #[J d,J m,gsv,msv,csv]] h λv h'=>v=J (E1 d m gs ms cs k)/\h.Le h':=by
 match k,hk with
 | 0,_=>exact BQ (first:=#[]) (cap:=#[]) func159 XZ rfl (AA4 (W:=W) (h:=h) d m gs gsv ms msv cs csv hgs hms hcs)
 | 1,_=>exact BQ (first:=#[]) (cap:=#[]) func160 Xa rfl (X2 (W:=W) (h:=h) d m gs gsv ms msv cs csv hgs hms hcs hnm)
 | 2,_=>exact BQ (first:=#[]) (cap:=#[]) func161 Xb rfl (Xz (W:=W) (h:=h) d m gs gsv ms msv cs csv hgs hms hcs)
 | 3,_=>exact BQ (first:=#[]) (cap:=#[]) func162 Xc rfl (Vc (W:=W) (h:=h) d m gs gsv ms msv cs csv hgs hms hcs)
theorem SZ(n:Int):AW W 169 #[J n] h (λv h'=>v=(J n:aU)/\h=h'):=by
 exact Ct func169 Z (Sr (I (J 0) Z (M (Sr (Mz (J n) Z (I (J n) Z (M (Rt (⟨Zr,Ot (J n) Z (⟨Z,Z⟩)⟩)))))))))
theorem NK(n:Int)(hn:0<=n/\n<=99):AW W 170 #[J n] h (λv h'=>v=(J (-n):aU)/\h=h'):=by
 exact Ct func170 Z (Sr (I (J 0) Z (M (Sr (Mz (J n) Z (L Z (ok_neg Z Y (I (J (-n)) Z (M (Rt (⟨Zr,Ot (J (-n)) Z (⟨Z,Z⟩)⟩)))))))))))
theorem EH(hgs:AD h gsv 5 Bs gs)(hms:AD h msv 5 Be ms)(hcs:AD h csv 4 BK cs)(hG:Dx h)(hnm:∀k,(gs.getD k Good.z).name.size<=1000):AW W 39 #[.agg #[J d,J m,gsv,msv,csv]] h (λv h'=>v=(J (Ah d m gs ms cs):aU)/\h.Le h'):=by
 have B:=hgs.len;have C:=hms.len;have D:=hcs.len;refine Ct func39 Z (Sr (L Z (Bo (Cp d m gsv msv csv) Z Z λp q _ c r _=>I (J 0) Z (M (S2 (Lz _ Z (AF fx_ty153 (hG.le c).1) (Mz (J 0) Z (M (Bk (Ag (λi σ' e h'=>∃(k:Nat),i=4-k/\(k<=4)/\(∀j,j<k->E1 d m gs ms cs j=0)/\e=[]/\V.Le q h'/\σ' 1=Pt p/\σ' 6=.agg #[.func (.func 159) #[] #[],.func (.func 160) #[] #[],.func (.func 161) #[] #[],.func (.func 162) #[] #[]]/\σ' 7=J k) ⟨0,Z,Y,aK,Z,Lr,Z,Z,Z⟩ (λi _ _ _ s=>?_)))))))))));obtain ⟨k,rfl,E,f,t,a,l,n,g⟩:=s;subst t;refine Sr (L Z (Am g Z (M (Sq (AR Z (λu=>?_) (λu=>?_))))))
 ·refine Sk (Sq (Bk (Sq (Rg ?_))));have w:(0:Int)<=(k:Int):=Y
  have x:(k:Int)<((4:Nat):Int):=Y
  refine L Z (Ml Z3 n g w x (X4 Y) (I (OS k) Z (M (Sr (Mz (OS k) Z (Ld _ Z l (AF BE (Bx (a.keep r Z) Z)) (L Z (Ap (cells:=(Cp d m gsv msv csv)) Dv B3 aB (have b:=c.trans a;L Z (Dr Z Z ((Tu d m gs gsv ms msv cs csv (hgs.le b) (hms.le b) (hcs.le b) hnm (k:=k) Y).mono λ_ _ y=>?_)))))))))));obtain ⟨rfl,o⟩:=y;refine I (J (E1 d m gs ms cs k)) Z (M (Sr (Mz (J (E1 d m gs ms cs k)) Z (L Z (Av Z Z (M (AR Z (λA=>?_) (λA=>?_))))))))
  ·exact Sr (Mz (J (E1 d m gs ms cs k)) Z (I (J (E1 d m gs ms cs k)) Z (M (Rt (⟨Zr,Ot (J (E1 d m gs ms cs k)) Z (⟨(by (symm;congr 1;exact CN (k:=k) f Y Z ‹_›)),(b.trans o)⟩)⟩)))))
  ·exact Sk (Rg (Ad _ _ Z g Z Y (Mz (J ((k:Int)+1)) Z (M (⟨_,Y,k+1,Z,Y,(by exact EZ f (Dn ‹_›)),Z,(a.trans o),l,n,Z⟩)))))
 ·exact Xt (Sr (I (J 0) Z (M (Rt (⟨Zr,Ot (J 0) Z (⟨(by (symm;congr 1;exact Ds (k:=k) f Y)),(c.trans a)⟩)⟩)))))
theorem Vf(n:Int)(hn:0<=n/\n<=99){k:Nat}(hk:k<5):CC W (X3 k) #[J n] h λv h'=>v=J (signed k n)/\h.Le h':=by
 match k,hk with
 | 0,_=>exact BQ (first:=#[]) (cap:=#[]) func169 Po rfl ((SZ (W:=W) (h:=h) n).mono λv h' a=>⟨a.1,by rw [<-a.2];exact V.Le.refl _⟩)
 | 1,_=>exact BQ (first:=#[]) (cap:=#[]) func170 LO rfl ((NK (W:=W) (h:=h) n hn).mono λv h' a=>⟨a.1,by rw [<-a.2];exact V.Le.refl _⟩)
 | 2,_=>exact BQ (first:=#[]) (cap:=#[]) func170 LO rfl ((NK (W:=W) (h:=h) n hn).mono λv h' a=>⟨a.1,by rw [<-a.2];exact V.Le.refl _⟩)
 | 3,_=>exact BQ (first:=#[]) (cap:=#[]) func170 LO rfl ((NK (W:=W) (h:=h) n hn).mono λv h' a=>⟨a.1,by rw [<-a.2];exact V.Le.refl _⟩)
 | 4,_=>exact BQ (first:=#[]) (cap:=#[]) func169 Po rfl ((SZ (W:=W) (h:=h) n).mono λv h' a=>⟨a.1,by rw [<-a.2];exact V.Le.refl _⟩)
theorem JQ(p:AZ)(g:Int)(dy:Int)(hgs:AD h gsv 5 Bs gs)(hms:AD h msv 5 Be ms)(hcs:AD h csv 4 BK cs)(hG:Dx h)(hg0:0<=g)(hg1:g<3)(hp:Bp p)(hml:ms.length<=6)(hkind:∀k,0<=(ms.getD k AI.z).kind/\(ms.getD k AI.z).kind<=4):AW W 50 #[.agg #[J d,J m,gsv,msv,csv],.agg (Aq p),J g,J dy] h (λv h'=>v=(.tuple #[J ((AX ms p g dy).1),J ((AX ms p g dy).2)]:aU)/\h.Le h'):=by
 have hpf:=hp.1 g.toNat;have ez:=hgs.len;have e0:=hms.len;have e1:=hcs.len;refine Ct func50 Z (Sr (L Z (Bo (Cp d m gsv msv csv) Z Z λw _ _ e2 hu _=>L Z (Bo (Aq p) Z Z λhl hv _ a2 bs _=>I (J 0) Z (I (J 0) Z (M (Sr (Mz (J g) Z (Fz J4 Z ?_)))))))));have e3:(0:Int)<=g:=Y
 have e4:g<((3:Nat):Int):=Y
 refine L Z (BG M3 Z Z e3 e4 (Lz (J (p.first (g.toNat))) Z (Rd.one AH bs (S5 (i:=g.toNat) Y)) (I (J (p.first (g.toNat))) Z (M (Sr (Mz (J (p.first (g.toNat))) Z (I (J (p.first (g.toNat))) Z (M (S2 (Fz Aw Z (Fz CF Z (have bt:=a2.keep hu Z;Lz msv Z (Rd.one DS bt Z) (have a7:=e2.trans a2;L Z (AO FO (hms.le a7) Z (Mz (J 0) Z (M (Bk (Ag (λnn σ' ds' h'=>∃(k:Nat)(n:Int)(a:Int),nn=ms.length-k/\(k<=ms.length)/\(-99*((k:Int)+1)<=n/\n<=99*((k:Int)+1))/\(DM ms p g dy (ms.length-k) k n a=DM ms p g dy ms.length 0 (p.first g.toNat) (p.first g.toNat))/\ds'=[]/\V.Le hv h'/\σ' 2=J g/\σ' 3=J dy/\σ' 4=Pt w/\σ' 5=Pt hl/\σ' 19=msv/\σ' 20=J (ms.length:Int)/\σ' 8=J n/\σ' 9=J a/\σ' 21=J k) ⟨0,p.first g.toNat,p.first g.toNat,Z,Y,Y,(by rfl),Z,Lr,Z,Z,Z,Z,Z,Z,Z,Z,Z⟩ (λnn _ _ _ e5=>?_)))))))))))))))))));obtain ⟨k,n,a,rfl,hk,hn,j,hw,r,O,P,x,Q,R,S,K,N,y⟩:=e5;subst hw;have hkd:=hkind k;have hre:=G6 hp k;have hsg:=Lu (k:=(ms.getD k AI.z).kind.toNat) hre;refine Sr (L Z (Am y S (M (Sq (AR Z (λe6=>?_) (λe6=>?_))))))
 ·refine Sk (Sq (Bk (Sr (Mv (J k) Z y ?_))));have e7:(0:Int)<=(k:Int):=Y
  have e8:(k:Int)<((ms.length:Nat):Int):=Y
  refine L Z (Ab F0 hms R y e7 e8 λhx bu e9=>have fa:AN _ hx bu 5 (Be (ms.getD k AI.z)):=AN.getD AI.z e9;have A:=a7.trans r;Lz _ Z (AF H4 (fa.le A)) (have au:=r.keep bt Z;have bv:=r.keep bs Z;L Z (AS E3 λey _ u s fb _=>have a0:w≠ey:=CL au u;have fc:hl≠ey:=CL bv u;I (J k) Z (L Z (So (.agg (Qd ms k)) (Qd ms k) H4 Z fb Z aD Z λ_ av t=>M (S2 (Fz ER Z (Lz (J ((ms.getD k AI.z).day)) Z (Rd.one AH av Z) (Mv (J dy) Z P (L Z (CR Z Z (M (AR Z (λfd=>?_) (λfd=>?_))))))))))))))
  ·exact Xt (Sr (Mv (J n) Z K (Mv (J a) Z N (I (J n) Z (I (J a) Z (M (Rt (have fe:=(A.trans s).upd (Ln A u) t;⟨Zr,Ou (J n) (J a) Z (⟨(by (rw [AX,<-j,QV (ms:=ms) (k:=k) (dy:=dy) Y ‹_›])),fe⟩)⟩))))))))
  ·refine Sk (S2 (Fz LT Z (Lz (J ((ms.getD k AI.z).good)) Z (Rd.one AH av Z) (Mv (J g) Z O (L Z (BN Z Z (M (AR Z (λff=>?_) (λff=>?_)))))))))
   ·refine BJ 10 false [0,5,11,15,20,26,31,36,42,47] Af aB (Py Z (λ_=>Mo (J n) K vz) (Py Z (λ_=>AE JI Z vz) (Rl (J ((ms.getD k AI.z).kind)) Z (Rd.one OR av Z) ?_)));have fg:(0:Int)<=(ms.getD k AI.z).kind:=Y
    have fh:(ms.getD k AI.z).kind<((5:Nat):Int):=Y
    refine Py Z (λ_=>BG Z5 Z Z fg fh vz) (Py Z (λ_=>AE VO Z vz) (have bd:=(A.trans s).upd (Ln A u) t;Rl (X3 (((ms.getD k AI.z).kind).toNat)) Z (rd_at0 fx_ty135 (hG.le bd).2 (AA5 Y)) (Rz Z (Lo (.agg (Aq p)) Q (AF Bm (Bx ((t _ fc).trans (s.keep bv Z)) Z)) vz) (Rm (J k) Z (tE Z Z (AT func61 M9 Z Z ((NJ p (k:Int) Y Y).mono λ_ _ fi=>?_)))))));obtain ⟨rfl,B⟩:=fi;refine eT B (tE Z Z (Dr Z Z ((Vf (Cn p k) Y (k:=(((ms.getD k AI.z).kind).toNat)) Y).mono λ_ _ fj=>?_)));obtain ⟨rfl,C⟩:=fj;refine eT C (tN (Yd Z Y (I (J (n+(signed (((ms.getD k AI.z).kind).toNat) (Cn p k)))) Z (M (Sq (Oi 18 [[],[0],[],[2],[2,3],[2,3,4],[0,1,2,3,4,5],[0,1,2,3,4,5,6],[0,1,2,3,4,5,6,7],[0,1,2,3,4,5,6,7,8],[0,1,2,3,4,5,6,7,8,9],[0,1,2,3,4,5,6,7],[0,1,2,3,4,5,6,7,11],[0,1,2,3,4,5,6,7,8,9,10,11,12],[0,1,2,3,4,5,6,7,8,9,10,11,12,13],[0,1,2,3,4,5,6,7,8,9,10,11,12,13,14],[0,1,2,3,4,5,6,7],[0,1,2,3,4,5,6,7,16]] [(lF (J k)),(lF (J ((k:Int)+1))),(lF (Pt w)),(lF (.pointer (some ⟨w,3,none⟩))),(lF msv),(lF (J (ms.length:Int))),(lF (.bool (decide (((k:Int)+1)=(ms.length:Int))))),(lF (.bool (decide (((k:Int)+1)=(ms.length:Int))))),(lF (Pt w)),(lF (.pointer (some ⟨w,3,none⟩))),(lF msv),(lF (J k)),(lF (J ((k:Int)+1))),(λv h=>∃(D:Nat)(E:Nat),v=(.pointer (some ⟨D,E,none⟩):aU)/\AN h D E 5 (Qb ms k)),(λv h=>∃(D:Nat)(E:Nat),v=(.pointer (some ⟨D,E+2,none⟩):aU)/\AN h D E 5 (Qb ms k)),(lF (J ((ms.getD (k+1) AI.z).day))),(lF (.pointer (some ⟨ey,2,none⟩))),(lF (J ((ms.getD k AI.z).day)))] Af aB (K8 (K4 (K1 ⟨(λ_ _ _ l ⟨D,E,e,f0⟩=>⟨D,E,e,f0.le l⟩),(λ_ _ _ l ⟨D,E,e,f0⟩=>⟨D,E,e,f0.le l⟩),K2 (K1 trivial)⟩))) ⟨?_,?_,?_,?_,?_,?_,?_,?_,?_,?_,?_,?_,?_,?_,?_,?_,?_,?_,?_⟩))))))
    ·intro _ _ _ fk _ _;exact (Mo (J k) (Et (fk 10 Z) Z) (fL Z))
    ·intro _ _ _ _ fl _;obtain ⟨hy,_⟩:=fl;exact (C9 (hy trivial) Z Y (fL Z))
    ·intro _ _ _ fm _ _;exact (AE Aw (Et (fm 4 Z) x) (fL Z))
    ·intro _ _ _ _ bw _;obtain ⟨fn,_⟩:=bw;exact (AE CF (fn trivial) (fL Z))
    ·intro _ _ be _ bx _;obtain ⟨_,fo,_⟩:=bx;have bz:=(be.keep (C.keep (B.keep ((t _ a0).trans (s.keep au Z)) Z) Z) Z);exact (Lo msv (fo trivial) (Rd.one DS bz Z) (fL Z))
    ·intro _ _ bf _ b0 _;obtain ⟨_,_,fp,_⟩:=b0;exact (AO FO (hms.le (((bd.trans B).trans C).trans bf)) (fp trivial) (fL Z))
    ·intro _ _ _ _ b1 _;obtain ⟨_,fq,_,_,_,fr,_⟩:=b1;exact (BN (fq trivial) (fr trivial) (fL Z))
    ·intro _ _ _ _ b2 _;obtain ⟨_,_,_,_,_,_,fs,_⟩:=b2;exact (Mo (.bool (decide (((k:Int)+1)=(ms.length:Int)))) (fs trivial) (fL Z))
    ·intro _ _ _ b3 b4 b5;obtain ⟨_,_,_,_,_,_,_,ft,_⟩:=b4;have hm:=DC (ft trivial) b5;exact (AE Aw (Et (b3 4 Z) x) (fL Z))
    ·intro _ _ _ _ b6 b7;obtain ⟨_,_,_,_,_,_,_,fu,fv,_⟩:=b6;have b8:=fu trivial;have b9:=DC b8 b7;exact (AE CF (fv (AA b8 b9)) (fL Z))
    ·intro _ _ bg _ ca cb;obtain ⟨_,_,_,_,_,_,_,fw,_,fx,_⟩:=ca;have cc:=fw trivial;have cd:=DC cc cb;have ce:=(bg.keep (C.keep (B.keep ((t _ a0).trans (s.keep au Z)) Z) Z) Z);exact (Lo msv (fx (AA cc cd)) (Rd.one DS ce Z) (fL Z))
    ·intro _ _ _ cf cg ch;obtain ⟨_,_,_,_,_,_,_,fy,_⟩:=cg;have ho:=DC (fy trivial) ch;exact (Mo (J k) (Et (cf 10 Z) Z) (fL Z))
    ·intro _ _ _ _ ci cj;obtain ⟨_,_,_,_,_,_,_,fz,f1,_⟩:=ci;have ck:=fz trivial;have cl:=DC ck cj;exact (C9 (f1 (AA ck cl)) Z Y (fL Z))
    ·intro _ _ bh _ cm cn;obtain ⟨_,_,_,_,_,_,_,f2,_,_,f3,_,f4,_⟩:=cm;have bi:=f2 trivial;have a5:=DC bi cn;have co:(0:Int)<=(k:Int)+1:=Y
     have cp:(k:Int)+1<((ms.length:Nat):Int):=Y
     exact (Ab F0 hms (f3 (AA bi a5)) (f4 (AA bi a5)) co cp λcq aw cr=>have ct:AN _ cq aw 5 (Be (ms.getD (k+1) AI.z)):=AN.getD AI.z cr;fL ⟨cq,aw,Z,(ct.le (((bd.trans B).trans C).trans bh))⟩)
    ·intro _ _ _ _ cu cv;obtain ⟨_,_,_,_,_,_,_,f5,_,_,_,_,_,f6,_⟩:=cu;have cw:=f5 trivial;have cx:=DC cw cv;obtain ⟨f7,bj,f8,f9⟩:=f6 (AA cw cx);exact (AE ER f8 (fL ⟨f7,bj,Z,f9⟩))
    ·intro _ _ _ _ cy cz;obtain ⟨_,_,_,_,_,_,_,ga,_,_,_,_,_,_,gb,_⟩:=cy;have c0:=ga trivial;have c1:=DC c0 cz;obtain ⟨_,_,gc,gd⟩:=gb (AA c0 c1);exact (Lo (J ((ms.getD (k+1) AI.z).day)) gc (BO (o:=2) AH gd Z) (fL Z))
    ·intro _ _ _ c2 c3 c4;obtain ⟨_,_,_,_,_,_,_,ge,_⟩:=c3;have hq:=DC (ge trivial) c4;exact (AE ER (Et (c2 11 Z) Z) (fL Z))
    ·intro _ _ bk _ c5 c6;obtain ⟨_,_,_,_,_,_,_,gf,gg,_⟩:=c5;have c7:=gf trivial;have c8:=DC c7 c6;exact (Lo (J ((ms.getD k AI.z).day)) (gg (AA c7 c8)) (Rd.one AH (bk.keep (C.keep (B.keep av Z) Z) Z) Z) (fL Z))
    ·intro _ _ ao c c9;obtain ⟨_,_,_,_,_,_,_,gi,_,_,_,_,_,_,_,gj,_,gk,_⟩:=c9;have X:=gi trivial;refine Ar (p:=((k:Int)+1)=(ms.length:Int)) ?_ ?_
     ·intro T;exact Gs 7 52 (AB X T) Z (Pk true (.bool true) Z (AB X T) Z (M (C6 Z (Rg (Mv (J a) Z (Et (c 9 Z) N) (Mv (J (n+(signed (((ms.getD k AI.z).kind).toNat) (Cn p k)))) Z (Et (c 8 Z) Z) (L Z (Mj Z Z (I (J (min a (n+(signed (((ms.getD k AI.z).kind).toNat) (Cn p k))))) Z (M (Rg (Ad _ _ Z (Et (c 21 Z) y) Z Y (Mz (J ((k:Int)+1)) Z (M (have da:=((((r.trans s).upd (Ln r u) t).trans B).trans C).trans ao;⟨_,Y,k+1,n+(signed (((ms.getD k AI.z).kind).toNat) (Cn p k)),min a (n+(signed (((ms.getD k AI.z).kind).toNat) (Cn p k))),Z,Y,Y,(by rw [<-j,Ea (ms:=ms) (k:=k) (dy:=dy) Y ‹_›];unfold Hv GV;repeat (first | rw [aT ‹_›] | rw [aT (.inl ‹_›)])),Z,da,(Et (c 2 Z) O),(Et (c 3 Z) P),(Et (c 4 Z) x),(Et (c 5 Z) Q),(Et (c 19 Z) R),(Et (c 20 Z) S),(Et (c 8 Z) Z),Z,Z⟩)))))))))))))))
     ·intro T;refine Gg 7 52 (AA X T) Z (CR (gj (AA X T)) (gk (AA X T)) (Pk false (.bool (decide (((ms.getD k AI.z).day)<((ms.getD (k+1) AI.z).day)))) Z (AA X T) Z (M (AR Z (λdb=>?_) (λdb=>?_)))))
      ·exact Rg (Mv (J a) Z (Et (c 9 Z) N) (Mv (J (n+(signed (((ms.getD k AI.z).kind).toNat) (Cn p k)))) Z (Et (c 8 Z) Z) (L Z (Mj Z Z (I (J (min a (n+(signed (((ms.getD k AI.z).kind).toNat) (Cn p k))))) Z (M (Rg (Ad _ _ Z (Et (c 21 Z) y) Z Y (Mz (J ((k:Int)+1)) Z (M (have dc:=((((r.trans s).upd (Ln r u) t).trans B).trans C).trans ao;⟨_,Y,k+1,n+(signed (((ms.getD k AI.z).kind).toNat) (Cn p k)),min a (n+(signed (((ms.getD k AI.z).kind).toNat) (Cn p k))),Z,Y,Y,(by rw [<-j,Ea (ms:=ms) (k:=k) (dy:=dy) Y ‹_›];unfold Hv GV;repeat (first | rw [aT ‹_›] | rw [aT (.inr ‹_›)])),Z,dc,(Et (c 2 Z) O),(Et (c 3 Z) P),(Et (c 4 Z) x),(Et (c 5 Z) Q),(Et (c 19 Z) R),(Et (c 20 Z) S),(Et (c 8 Z) Z),Z,Z⟩)))))))))))
      ·exact Sk (Rg (Ad _ _ Z (Et (c 21 Z) y) Z Y (Mz (J ((k:Int)+1)) Z (M (have dd:=((((r.trans s).upd (Ln r u) t).trans B).trans C).trans ao;⟨_,Y,k+1,n+(signed (((ms.getD k AI.z).kind).toNat) (Cn p k)),a,rfl,Y,Y,(by rw [<-j,Ea (ms:=ms) (k:=k) (dy:=dy) Y ‹_›];unfold Hv GV;repeat (first | rw [aT ‹_›] | rw [aS (by rintro (q | q) <;> contradiction)])),rfl,dd,(Et (c 2 rfl) O),(Et (c 3 rfl) P),(Et (c 4 rfl) x),(Et (c 5 rfl) Q),(Et (c 19 rfl) R),(Et (c 20 rfl) S),(Et (c 8 rfl) rfl),(Et (c 9 rfl) N),(Et (b:=(J ((k:Int)+1):aU)) rfl (by rfl))⟩)))))
   ·refine Sk (Sq (Oi 18 [[],[0],[],[2],[2,3],[2,3,4],[0,1,2,3,4,5],[0,1,2,3,4,5,6],[0,1,2,3,4,5,6,7],[0,1,2,3,4,5,6,7,8],[0,1,2,3,4,5,6,7,8,9],[0,1,2,3,4,5,6,7],[0,1,2,3,4,5,6,7,11],[0,1,2,3,4,5,6,7,8,9,10,11,12],[0,1,2,3,4,5,6,7,8,9,10,11,12,13],[0,1,2,3,4,5,6,7,8,9,10,11,12,13,14],[0,1,2,3,4,5,6,7],[0,1,2,3,4,5,6,7,16]] [(lF (J k)),(lF (J ((k:Int)+1))),(lF (Pt w)),(lF (.pointer (some ⟨w,3,none⟩))),(lF msv),(lF (J (ms.length:Int))),(lF (.bool (decide (((k:Int)+1)=(ms.length:Int))))),(lF (.bool (decide (((k:Int)+1)=(ms.length:Int))))),(lF (Pt w)),(lF (.pointer (some ⟨w,3,none⟩))),(lF msv),(lF (J k)),(lF (J ((k:Int)+1))),(λv h=>∃(F:Nat)(H:Nat),v=(.pointer (some ⟨F,H,none⟩):aU)/\AN h F H 5 (Qb ms k)),(λv h=>∃(F:Nat)(H:Nat),v=(.pointer (some ⟨F,H+2,none⟩):aU)/\AN h F H 5 (Qb ms k)),(lF (J ((ms.getD (k+1) AI.z).day))),(lF (.pointer (some ⟨ey,2,none⟩))),(lF (J ((ms.getD k AI.z).day)))] Af aB (K8 (K4 (K1 ⟨(λ_ _ _ l ⟨F,H,e,f0⟩=>⟨F,H,e,f0.le l⟩),(λ_ _ _ l ⟨F,H,e,f0⟩=>⟨F,H,e,f0.le l⟩),K2 (K1 trivial)⟩))) ⟨?_,?_,?_,?_,?_,?_,?_,?_,?_,?_,?_,?_,?_,?_,?_,?_,?_,?_,?_⟩))
    ·intro _ _ _ de _ _;exact (Mo (J k) (Et (de 10 Z) Z) (fL Z))
    ·intro _ _ _ _ df _;obtain ⟨gl,_⟩:=df;exact (C9 (gl trivial) Z Y (fL Z))
    ·intro _ _ _ dg _ _;exact (AE Aw (Et (dg 4 Z) x) (fL Z))
    ·intro _ _ _ _ dh _;obtain ⟨gm,_⟩:=dh;exact (AE CF (gm trivial) (fL Z))
    ·intro _ _ bl _ di _;obtain ⟨_,gn,_⟩:=di;exact (Lo msv (gn trivial) (Rd.one DS (bl.keep ((t _ a0).trans (s.keep au Z)) Z) Z) (fL Z))
    ·intro _ _ bm _ dj _;obtain ⟨_,_,gp,_⟩:=dj;have dk:=hms.le (((A.trans s).upd (Ln A u) t).trans bm);exact (AO FO dk (gp trivial) (fL Z))
    ·intro _ _ _ _ dl _;obtain ⟨_,gq,_,_,_,gr,_⟩:=dl;exact (BN (gq trivial) (gr trivial) (fL Z))
    ·intro _ _ _ _ dm _;obtain ⟨_,_,_,_,_,_,gt,_⟩:=dm;exact (Mo (.bool (decide (((k:Int)+1)=(ms.length:Int)))) (gt trivial) (fL Z))
    ·intro _ _ _ dn dp dq;obtain ⟨_,_,_,_,_,_,_,gu,_⟩:=dp;have hr:=DC (gu trivial) dq;exact (AE Aw (Et (dn 4 Z) x) (fL Z))
    ·intro _ _ _ _ dr ds;obtain ⟨_,_,_,_,_,_,_,gv,gw,_⟩:=dr;have dt:=gv trivial;have du:=DC dt ds;exact (AE CF (gw (AA dt du)) (fL Z))
    ·intro _ _ bn _ dv dw;obtain ⟨_,_,_,_,_,_,_,gx,_,gy,_⟩:=dv;have dx:=gx trivial;have dz:=DC dx dw;exact (Lo msv (gy (AA dx dz)) (Rd.one DS (bn.keep ((t _ a0).trans (s.keep au Z)) Z) Z) (fL Z))
    ·intro _ _ _ d0 d1 d2;obtain ⟨_,_,_,_,_,_,_,gz,_⟩:=d1;have hs:=DC (gz trivial) d2;exact (Mo (J k) (Et (d0 10 Z) Z) (fL Z))
    ·intro _ _ _ _ d3 d4;obtain ⟨_,_,_,_,_,_,_,g0,g1,_⟩:=d3;have d5:=g0 trivial;have d6:=DC d5 d4;exact (C9 (g1 (AA d5 d6)) Z Y (fL Z))
    ·intro _ _ bo _ d7 d8;obtain ⟨_,_,_,_,_,_,_,g2,_,_,g3,_,g4,_⟩:=d7;have bp:=g2 trivial;have a6:=DC bp d8;have d9:(0:Int)<=(k:Int)+1:=Y
     have ea:(k:Int)+1<((ms.length:Nat):Int):=Y
     exact (Ab F0 hms (g3 (AA bp a6)) (g4 (AA bp a6)) d9 ea λeb ax ec=>have ed:AN _ eb ax 5 (Be (ms.getD (k+1) AI.z)):=AN.getD AI.z ec;have ee:=ed.le (((A.trans s).upd (Ln A u) t).trans bo);fL ⟨eb,ax,Z,ee⟩)
    ·intro _ _ _ _ ef eg;obtain ⟨_,_,_,_,_,_,_,g5,_,_,_,_,_,g6,_⟩:=ef;have eh:=g5 trivial;have ei:=DC eh eg;obtain ⟨g7,bq,g8,g9⟩:=g6 (AA eh ei);exact (AE ER g8 (fL ⟨g7,bq,Z,g9⟩))
    ·intro _ _ _ _ ej ek;obtain ⟨_,_,_,_,_,_,_,ha,_,_,_,_,_,_,hb,_⟩:=ej;have el:=ha trivial;have em:=DC el ek;obtain ⟨_,_,hc,hd⟩:=hb (AA el em);exact (Lo (J ((ms.getD (k+1) AI.z).day)) hc (BO (o:=2) AH hd Z) (fL Z))
    ·intro _ _ _ en eo ep;obtain ⟨_,_,_,_,_,_,_,he,_⟩:=eo;have ht:=DC (he trivial) ep;exact (AE ER (Et (en 11 Z) Z) (fL Z))
    ·intro _ _ br _ eq er;obtain ⟨_,_,_,_,_,_,_,hf,hg,_⟩:=eq;have es:=hf trivial;have et:=DC es er;exact (Lo (J ((ms.getD k AI.z).day)) (hg (AA es et)) (Rd.one AH (br.keep av Z) Z) (fL Z))
    ·intro _ _ ap f eu;obtain ⟨_,_,_,_,_,_,_,hh,_,_,_,_,_,_,_,hi,_,hj,_⟩:=eu;have ar:=hh trivial;refine Ar (p:=((k:Int)+1)=(ms.length:Int)) ?_ ?_
     ·intro U;exact Gs 7 52 (AB ar U) Z (Pk true (.bool true) Z (AB ar U) Z (M (C6 Z (Rg (Mv (J a) Z (Et (f 9 Z) N) (Mv (J n) Z (Et (f 8 Z) K) (L Z (Mj Z Z (I (J (min a n)) Z (M (Rg (Ad _ _ Z (Et (f 21 Z) y) Z Y (Mz (J ((k:Int)+1)) Z (M (have ev:=((r.trans s).upd (Ln r u) t).trans ap;⟨_,Y,k+1,n,min a n,Z,Y,Y,(by rw [<-j,Ea (ms:=ms) (k:=k) (dy:=dy) Y ‹_›];unfold Hv GV;repeat (first | rw [aS ‹_›] | rw [aT (.inl ‹_›)])),Z,ev,(Et (f 2 Z) O),(Et (f 3 Z) P),(Et (f 4 Z) x),(Et (f 5 Z) Q),(Et (f 19 Z) R),(Et (f 20 Z) S),(Et (f 8 Z) K),Z,Z⟩)))))))))))))))
     ·intro U;refine Gg 7 52 (AA ar U) Z (CR (hi (AA ar U)) (hj (AA ar U)) (Pk false (.bool (decide (((ms.getD k AI.z).day)<((ms.getD (k+1) AI.z).day)))) Z (AA ar U) Z (M (AR Z (λew=>?_) (λew=>?_)))))
      ·exact Rg (Mv (J a) Z (Et (f 9 Z) N) (Mv (J n) Z (Et (f 8 Z) K) (L Z (Mj Z Z (I (J (min a n)) Z (M (Rg (Ad _ _ Z (Et (f 21 Z) y) Z Y (Mz (J ((k:Int)+1)) Z (M (have ex:=((r.trans s).upd (Ln r u) t).trans ap;⟨_,Y,k+1,n,min a n,Z,Y,Y,(by rw [<-j,Ea (ms:=ms) (k:=k) (dy:=dy) Y ‹_›];unfold Hv GV;repeat (first | rw [aS ‹_›] | rw [aT (.inr ‹_›)])),Z,ex,(Et (f 2 Z) O),(Et (f 3 Z) P),(Et (f 4 Z) x),(Et (f 5 Z) Q),(Et (f 19 Z) R),(Et (f 20 Z) S),(Et (f 8 Z) K),Z,Z⟩)))))))))))
      ·exact Sk (Rg (Ad _ _ Z (Et (f 21 Z) y) Z Y (Mz (J ((k:Int)+1)) Z (M (⟨_,Y,k+1,n,a,rfl,Y,Y,(by rw [<-j,Ea (ms:=ms) (k:=k) (dy:=dy) Y ‹_›];unfold Hv GV;repeat (first | rw [aS ‹_›] | rw [aS (by rintro (q | q) <;> contradiction)])),rfl,(((r.trans s).upd (Ln r u) t).trans ap),(Et (f 2 rfl) O),(Et (f 3 rfl) P),(Et (f 4 rfl) x),(Et (f 5 rfl) Q),(Et (f 19 rfl) R),(Et (f 20 rfl) S),(Et (f 8 rfl) K),(Et (f 9 rfl) N),(Et (b:=(J ((k:Int)+1):aU)) rfl (by rfl))⟩)))))
 ·exact Xt (Sr (Mv (J n) Z K (Mv (J a) Z N (I (J n) Z (I (J a) Z (M (Rt (⟨Zr,Ou (J n) (J a) Z (⟨(by (rw [AX,<-j,S7 (ms:=ms) (k:=k) ‹_›];done)),(a7.trans r)⟩)⟩))))))))
theorem Tv(c:AP)(d:Int)(m:Int)(gs:List Good)(gsv:aU)(ms:List AI)(msv:aU)(cs:List AP)(csv:aU)(r:Nat)(p:AZ)(rp:Nat)(hgs:AD h gsv 5 Bs gs)(hms:AD h msv 5 Be ms)(hcs:AD h csv 4 BK cs)(hr:AN h r 0 5 #[J d,J m,gsv,msv,csv])(hrp:AN h rp 0 15 (Aq p))(hG:Dx h)(hc0:0<=c.good)(hc1:c.good<3)(hp:Bp p)(hml:ms.length<=6)(hkind:∀k,0<=(ms.getD k AI.z).kind/\(ms.getD k AI.z).kind<=4):AW W 108 #[.agg #[J c.good,J c.day,J c.low,J c.high],Pt r,Pt rp] h (λv h'=>v=(.bool (decide (¬(c.low<=(AX ms p c.good c.day).1/\(AX ms p c.good c.day).1<=c.high))):aU)/\h.Le h'):=by
 have j:=hgs.len;have l:=hms.len;have n:=hcs.len;refine Ct func108 Z (Sr (L Z (Bo #[J c.good,J c.day,J c.low,J c.high] Z Z λ_ _ _ a b _=>I (.bool false) Z (M (Sr (Lz _ Z (AF B2 (hr.le a)) (Lz (.agg (Aq p)) Z (AF Bm (hrp.le a)) (Fz Ni Z (Lz (J c.good) Z (Rd.one AH b Z) (Fz Nj Z (Lz (J c.day) Z (Rd.one AH b Z) (L Z (CB func50 KU Z Z Z Z ((JQ d m gs gsv ms msv cs csv p c.good c.day (hgs.le a) (hms.le a) (hcs.le a) (hG.le a) Y Y Y Y Y).mono λ_ _ g=>?_))))))))))))));obtain ⟨rfl,e⟩:=g;refine Mz (.tuple #[J (Q12 ms p c),J ((AX ms p c.good c.day).2)]) Z (L Z (Ex (J (Q12 ms p c)) Z (L Z (Ex (J ((AX ms p c.good c.day).2)) Z (I (J (Q12 ms p c)) Z (I (J ((AX ms p c.good c.day).2)) Z (M (Sr (Mz (J (Q12 ms p c)) Z (Fz J3 Z (Fz CT Z (have f:=e.keep b Z;Lz (J c.low) Z (Rd.one AH f Z) (Fz J3 Z (Fz CU Z (Lz (J c.high) Z (Rd.one AH f Z) (L Z (Ai func55 B7 Z Z Z ((BZ (Q12 ms p c) c.low c.high ).mono λ_ _ i=>?_))))))))))))))))));obtain ⟨rfl,rfl⟩:=i;exact L Z (A3 Z (I (.bool (decide (¬(c.low<=(Q12 ms p c)/\(Q12 ms p c)<=c.high)))) Z (M (Rt (⟨Zr,Ot (.bool (decide (¬(c.low<=(Q12 ms p c)/\(Q12 ms p c)<=c.high)))) Z (⟨(by rfl),(a.trans e)⟩)⟩)))))
theorem Vg(p:AZ)(hgs:AD h gsv 5 Bs gs)(hms:AD h msv 5 Be ms)(hcs:AD h csv 4 BK cs)(hG:Dx h)(hp:Bp p)(hml:ms.length<=6)(hkind:∀k,0<=(ms.getD k AI.z).kind/\(ms.getD k AI.z).kind<=4)(hgl:gs.length<=3)(hcg:∀x ∈ cs,0<=x.good/\x.good<3):AW W 96 #[.agg #[J d,J m,gsv,msv,csv],.agg (Aq p)] h (λv h'=>v=(.bool (BI d gs.length ms cs p):aU)/\h.Le h'):=by
 have ao:=hgs.len;have ap:=hms.len;have aq:=hcs.len;refine Ct func96 Z (Sr (L Z (Bo (Cp d m gsv msv csv) Z Z λe _ _ H K _=>L Z (Bo (Aq p) Z Z λf N _ u w _=>I (.bool false) Z (M (S2 (Fz Aw Z (Fz Cv Z (have l:=u.keep K Z;Lz gsv Z (Rd.one Eh l Z) (have n:=H.trans u;L Z (AO FN (hgs.le n) Z (Mz (J 0) Z (M (Bk (Ag (λy σ' o h'=>∃(k:Nat),y=gs.length-k/\(k<=gs.length)/\(∀j,j<k->¬(AX ms p (j:Int) d).2<0)/\o=[]/\V.Le N h'/\σ' 2=Pt e/\σ' 3=Pt f/\σ' 11=J (gs.length:Int)/\σ' 12=J k) ⟨0,Z,Y,aK,Z,Lr,Z,Z,Z,Z⟩ (λy _ _ O P=>?_))))))))))))))));obtain ⟨k,rfl,hk,A,Q,a,b,q,B,r⟩:=P;subst Q;refine Sr (L Z (Am r B (M (Sq (AR Z (λR=>?_) (λR=>?_))))))
 ·refine Sk (Sq (Bk (Sr (Mv (J k) Z r (I (J k) Z (M (Sr (have C:=a.keep l Z;Ld _ Z b (AF B2 (Bx C Z)) (Ld (.agg (Aq p)) Z q (AF Bm (Bx (a.keep w Z) Z)) (Mz (J k) Z (Fa Aw Z b (Fz Dg Z (Lz (J d) Z (Rd.one AH C Z) (have c:=n.trans a;L Z (CB func50 KU Z Z Z Z ((JQ d m gs gsv ms msv cs csv p (k:Int) d (hgs.le c) (hms.le c) (hcs.le c) (hG.le c) Y Y Y Y Y).mono λ_ _ S=>?_))))))))))))))));obtain ⟨rfl,D⟩:=S;refine Mz (.tuple #[J ((AX ms p (k:Int) d).1),J ((AX ms p (k:Int) d).2)]) Z (L Z (Ex (J ((AX ms p (k:Int) d).1)) Z (L Z (Ex (J ((AX ms p (k:Int) d).2)) Z (I (J ((AX ms p (k:Int) d).1)) Z (I (J ((AX ms p (k:Int) d).2)) Z (M (Sr (Mz (J ((AX ms p (k:Int) d).2)) Z (L Z (Am Z Z (M (AR Z (λT=>?_) (λT=>?_))))))))))))))
  ·exact Sr (I (.bool false) Z (M (Rt (⟨Zr,Ot (.bool false) Z (⟨(by (symm;congr 1;exact Ox (k:=k) Y ‹_›)),(c.trans D)⟩)⟩))))
  ·exact Sk (Rg (Ad _ _ Z r Z Y (Mz (J ((k:Int)+1)) Z (M (⟨_,Y,k+1,Z,Y,(by exact E2 A ‹_›),Z,(a.trans D),b,q,B,Z⟩)))))
 ·refine Xt (Sr (Fa Aw Z b (Fz Es Z (have E:=a.keep l Z;Lz csv Z (Rd.one H5 E Z) (L Z (EM b q ?_))))));have s:=n.trans a;have U:∀x ∈ cs,∀g,V.Le O g->CC W (.func (.func 108) #[] #[Pt e,Pt f]) #[.agg #[J x.good,J x.day,J x.low,J x.high]] g λv F=>v=.bool ((λx=>decide (¬(x.low<=(AX ms p x.good x.day).1/\(AX ms p x.good x.day).1<=x.high))) x)/\g.Le F:=by
   intro x X g t;have hcx:=hcg x X;have i:=s.trans t;exact BQ func108 XD Z ((Tv x d m gs gsv ms msv cs csv e p f (hgs.le i) (hms.le i) (hcs.le i) (Bx (t.keep E Z) Z) (Bx (t.keep (a.keep w Z) Z) Z) (hG.le i) Y Y Y Y Y).mono λv F hp=>⟨hp.1,hp.2⟩)
  refine L Z (AT func107 XC Z Z ((LV cs csv (.func (.func 108) #[] #[Pt e,Pt f]) (λx=>decide (¬(x.low<=(AX ms p x.good x.day).1/\(AX ms p x.good x.day).1<=x.high))) (hcs.le s) U).mono λ_ _ a1=>?_));obtain ⟨rfl,am⟩:=a1;exact L Z (Cf Z (I (.bool (!(cs.any (λx=>decide (¬(x.low<=(AX ms p x.good x.day).1/\(AX ms p x.good x.day).1<=x.high)))))) Z (M (Rt (⟨Zr,Ot (.bool (!(cs.any (λx=>decide (¬(x.low<=(AX ms p x.good x.day).1/\(AX ms p x.good x.day).1<=x.high)))))) Z (⟨(by (symm;congr 1;exact UW (k:=k) Y A)),(s.trans am)⟩)⟩)))))
theorem Vh(f:List Int)(fv:aU)(y:List Int)(yv:aU)(l:List Int)(lv:aU)(hgs:AD h gsv 5 Bs gs)(hms:AD h msv 5 Be ms)(hcs:AD h csv 4 BK cs)(hf:AD h fv 1 eI f)(hy:AD h yv 1 eI y)(hl:AD h lv 1 eI l)(hG:Dx h)(hnm:∀k,(gs.getD k Good.z).name.size<=1000):AW W 49 #[.agg #[J d,J m,gsv,msv,csv],fv,yv,lv] h (λv h'=>v=(.tuple #[.agg (Aq (Bc d m gs ms cs f y l)),J (BB d m gs ms cs f y l)]:aU)/\h.Le h'):=by
 have br:=hgs.len;have bs:=hms.len;have bt:=hcs.len;have bu:=hf.len;have bv:=hy.len;have bw:=hl.len;refine Ct func49 Z (Sr (L Z (Bo (Cp d m gsv msv csv) Z Z λr7 _ _ b bx _=>L Z (AS Di λN cm q x bz _=>have A:cm N=some (true,.cells Qw 121 (0,0)):=bz;I (J 0) Z (M (S2 (have O:=x.keep bx Z;Lz _ Z (AF BE (Bx O Z)) (have r:=b.trans x;L Z (Ae func39 HM Z ((EH d m gs gsv ms msv cs csv (hgs.le r) (hms.le r) (hcs.le r) (hG.le r) Y).mono λ_ _ b0=>?_))))))))));obtain ⟨rfl,c⟩:=b0;refine I (VJ d m gs ms cs) Z (M (Sr (Mz (VJ d m gs ms cs) Z (L Z (Av Z Z (M (AR Z (λP=>?_) (λP=>?_))))))))
 ·exact Sr (L Z (Ap (cells:=Q2) Ii Di aB (Mz (VJ d m gs ms cs) Z (L Z (So (.agg Q2) Qw Bm Z (c.keep A Z) Z (Nb Z) Z λ_ b1 b2=>I (VJ d m gs ms cs) Z (M (Rt (⟨Zr,D0 Z (v:=.agg Qw) (v':=J (Ah d m gs ms cs)) Z (AF Bm (Bx b1 Z)) Z (⟨(by exact HW (TA ‹_›) ‹_›),((r.trans c).upd (Ln b q) b2)⟩)⟩))))))))
 ·have a:=Jj (Dn P);have hgl:=a.glen;have hml:=a.mlen;have hcl:=a.clen;have hdy:=a.days;have hmo:=a.most;have hkind:=a.kind;refine Sk (S2 (Mz fv Z (Fz Cv Z (have Q:=c.keep O Z;Lz gsv Z (Rd.one Eh Q Z) (have B:=r.trans c;L Z (AO FN (hgs.le B) Z (L Z (AT func88 SP Z Z ((MY f fv (gs.length:Int) (hf.le B) ).mono λ_ _ b3=>?_)))))))));obtain ⟨rfl,n⟩:=b3;refine I (J (A7 f (gs.length:Int))) Z (M (Sr (Mz (J (A7 f (gs.length:Int))) Z (L Z (Av Z Z (M (AR Z (λR=>?_) (λR=>?_))))))))
  ·exact Sr (L Z (Ap (cells:=Q2) Ii Di aB (Mz (J (A7 f (gs.length:Int))) Z (L Z (So (.agg Q2) Qw Bm Z (n.keep (c.keep A Z) Z) Z (Nb Z) Z λ_ b4 b5=>I (J (A7 f (gs.length:Int))) Z (M (Rt (⟨Zr,D0 Z (v:=.agg Qw) (v':=J (A7 f (gs.length:Int))) Z (AF Bm (Bx b4 Z)) Z (⟨(by exact HW (TB ‹_› ‹_›) ‹_›),((B.trans n).upd (Ln b q) b5)⟩)⟩))))))))
  ·obtain ⟨_,hnb51_⟩:=Ge (Dn R);refine Sk (S2 (Mz yv Z (Fz CF Z (have S:=n.keep Q Z;Lz msv Z (Rd.one DS S Z) (have s:=B.trans n;L Z (AO FO (hms.le s) Z (L Z (AT func88 SP Z Z ((MY y yv (ms.length:Int) (hy.le s) ).mono λ_ cn b6=>?_)))))))));obtain ⟨rfl,g⟩:=b6;refine I (J (A7 y (ms.length:Int))) Z (M (Sr (Mz (J (A7 y (ms.length:Int))) Z (L Z (Av Z Z (M (AR Z (λT=>?_) (λT=>?_))))))))
   ·exact Sr (L Z (Ap (cells:=Q2) Ii Di aB (Mz (J (A7 y (ms.length:Int))) Z (L Z (So (.agg Q2) Qw Bm Z (g.keep (n.keep (c.keep A Z) Z) Z) Z (Nb Z) Z λ_ b7 b8=>I (J (A7 y (ms.length:Int))) Z (M (Rt (⟨Zr,D0 Z (v:=.agg Qw) (v':=J (A7 y (ms.length:Int))) Z (AF Bm (Bx b7 Z)) Z (⟨(by exact HW (TC ‹_› ‹_› ‹_›) ‹_›),((s.trans g).upd (Ln b q) b8)⟩)⟩))))))))
   ·obtain ⟨_,hnb66_⟩:=Ge (Dn T);refine Sk (Sr (have D:=(g.keep (n.keep (c.keep A Z) Z) Z);L Z (AS Di λE co w U ca _=>have cb:co E=some (true,.cells Qw 121 (0,0)):=ca;M (Sr (Fz J4 Z (L Z (Jf M3 Z (Mz fv Z (have X:=(s.trans g).trans U;L Z (Oj (enc:=eI) (ys:=f) (c':=Aq (AZ.zero.setFirsts f)) AM Z Z cb (Nb Z) (hf.le X) Y aJ aJ (Nz Y) λ_ cc a3=>M (Sr (Fz J5 Z (L Z (Jf M4 Z (Mz yv Z (have a4:=X.upd (Ln ((((b.trans x).trans c).trans n).trans g) w) a3;L Z (Oj (enc:=eI) (ys:=y) (c':=Aq (Qm f y)) AM Z Z cc (Nb Z) (hy.le a4) Y aJ aJ (Oy Y) λ_ cd a5=>M (Sr (I (J (-1)) Z (M (S2 (Mz lv Z (have ce:=a4.upd (Ln ((((b.trans x).trans c).trans n).trans g) w) a5;L Z (AO Bd (hl.le ce) Z (Mz (J 0) Z (M (Bk (have cf:=(U.upd (Ln Lr w) a3).upd (Ln Lr w) a5;Ag (λnn σ' F h'=>∃(k:Nat),nn=l.length-k/\(k<=l.length)/\(∀j,j<k->Ly ms l j=0)/\F=[]/\V.Le cn h'/\σ' 4=Pt r7/\σ' 8=Pt N/\σ' 13=Pt E/\σ' 49=lv/\σ' 50=J (l.length:Int)/\σ' 14=J (KF l k)/\σ' 51=J k/\h' E=some (true,.cells (Aq (E9 (Qm f y) l k)) 121 (0,0))) ⟨0,Z,Y,aK,Z,cf,Z,Z,Z,Z,Z,Z,Z,(by have e:(Aq (E9 (Qm f y) l 0):Array aU)=Aq (Qm f y):=(by rfl);rw [e];exact cd)⟩ (λnn _ _ _ cg=>?_)))))))))))))))))))))))))))));obtain ⟨k,rfl,hk,C,cp,o,cl,p,H,a6,a7,ci,K,a8⟩:=cg;subst cp;refine Sr (L Z (Am K a7 (M (Sq (AR Z (λa9=>?_) (λa9=>?_))))))
    ·refine Sk (Sq (Bk (Sq (Rg ?_))));have ba:(0:Int)<=(k:Int):=Y
     have bb:(k:Int)<((l.length:Nat):Int):=Y
     refine L Z (Ab AM hl a6 K ba bb λcj av bc=>have bd:AN _ cj av 1 (eI (l.getD k 0)):=AN.getD 0 bc;have t:=(s.trans g).trans o;Lz (Qo l k) Z (BR AH (bd.le t) Z) (I (Qo l k) Z (M (Sq (Bk (Sr (Ld _ Z cl (AF BE (Bx (o.keep (g.keep S Z) Z) Z)) (L Z (Ap (cells:=(Cp d m gsv msv csv)) Dv B3 aB (Mz (Qo l k) Z (L Z (AT func62 KW Z Z ((H6 d m gs gsv ms msv cs csv (l.getD k 0) (hgs.le t) (hms.le t) (hcs.le t) ).mono λ_ _ be=>?_)))))))))))));obtain ⟨rfl,u⟩:=be;refine L Z (A3 Z (I (.bool (decide (¬((0<=(l.getD k 0)/\(l.getD k 0)<=(ms.length:Int)-1)/\(ms.getD ((l.getD k 0)).toNat AI.z).kind=0)))) Z (M (AR Z (λao=>?_) (λao=>?_)))))
     ·exact Sr (L Z (Ap (cells:=Q2) Ii Di aB (L Z (Ac (v:=.agg Q2) (c':=Aq AZ.zero) Bm p Z (u.keep (o.keep D Z) Z) Z Z (Nb Z) Z λ_ bf bg=>I (J 6) Z (M (Rt (⟨Zr,D0 Z (v:=.agg Qw) (v':=J 6) p (AF Bm (Bx bf Z)) Z (⟨(by exact HW (I3 ‹_› ‹_› ‹_› (CN (k:=k) C Y (lieAt_6 ‹_›) aC)) aC),((t.trans u).upd (Ln b q) bg)⟩)⟩)))))))
     ·have hc122_:=Dn ao;refine Sr (Mz (Qo l k) Z (Mv (J (KF l k)) Z ci (L Z (CX Z Z (I (.bool (decide ((l.getD k 0)<=(KF l k)))) Z (M (AR Z (λbh=>?_) (λbh=>?_))))))))
      ·exact Sr (L Z (Ap (cells:=Q2) Ii Di aB (L Z (Ac (v:=.agg Q2) (c':=Aq AZ.zero) Bm p Z (u.keep (o.keep D Z) Z) Z Z (Nb Z) Z λ_ bi bj=>I (J 7) Z (M (Rt (⟨Zr,D0 Z (v:=.agg Qw) (v':=J 7) p (AF Bm (Bx bi Z)) Z (⟨(by exact HW (I3 ‹_› ‹_› ‹_› (CN (k:=k) C Y (lieAt_7 ‹_› ‹_›) aC)) aC),((t.trans u).upd (Ln b q) bj)⟩)⟩)))))))
      ·refine Sk (Rg (Mz (Qo l k) Z (Mz (Qo l k) Z (Fa Ep Z H ?_))));have bk:(0:Int)<=l.getD k 0:=Y
       have bl:l.getD k 0<((6:Nat):Int):=Y
       exact L Z (BG HL Z Z bk bl (L Z (So (.bool true) (Aq ((E9 (Qm f y) l k).setLie (Qu l k) true)) II Z (u.keep a8 Z) Z (by show _<=15;omega) (I0 (i:=(l.getD k 0).toNat) Y) λ_ bm bn=>I (Qo l k) Z (M (Rg (Ad _ _ Z K Z Y (Mz (J ((k:Int)+1)) Z (M (⟨_,Y,k+1,Z,Y,(by exact EZ C (lieAt_0 ‹_› ‹_›)),Z,((o.trans u).upd (Ln Lr w) bn),cl,p,H,a6,a7,Z,Z,(by have e:(Aq (E9 (Qm f y) l (k+1)):Array aU)=Aq ((E9 (Qm f y) l k).setLie (Qu l k) true):=(by rw [Ub Y]);rw [e];exact bm)⟩)))))))))
    ·exact Xt (Sr (Ld (.agg (Aq (E9 (Qm f y) l k))) Z H (AF Bm (Bx a8 Z)) (L Z (Ac (v:=.agg (Aq (E9 (Qm f y) l k))) (c':=Aq (E9 (Qm f y) l k)) Bm p Z (o.keep D Z) (I4 _) (I5 _) (KG _) (KH _ _) λ_ bo bp=>I (J 0) Z (M (Rt (have bq:=((s.trans g).trans o).upd (Ln b q) bp;⟨Zr,D0 Z (v:=.agg (Aq (E9 (Qm f y) l k))) (v':=J 0) p (AF Bm (Bx bo Z)) Z (⟨(by exact Uc (I3 ‹_› ‹_› ‹_› (Ds (k:=k) C Y)) ‹_› hk),bq⟩)⟩)))))))
theorem AA6(f:List Int)(fv:aU)(y:List Int)(yv:aU)(l:List Int)(lv:aU)(hgs:AD h gsv 5 Bs gs)(hms:AD h msv 5 Be ms)(hcs:AD h csv 4 BK cs)(hf:AD h fv 1 eI f)(hy:AD h yv 1 eI y)(hl:AD h lv 1 eI l)(hG:Dx h)(hnm:∀k,(gs.getD k Good.z).name.size<=1000):AW W 16 #[.agg #[J d,J m,gsv,msv,csv],fv,yv,lv] h (λv h'=>∃(w1:aU)(w2:aU),v=(.tuple #[w1,w2,J (BB d m gs ms cs f y l)]:aU)/\AD h' w1 1 eI (HX d m gs ms cs f y l)/\AD h' w2 1 eI (I6 d m gs ms cs f y l)/\h.Le h'):=by
 have ba:=hgs.len;have bb:=hms.len;have bc:=hcs.len;have bd:=hf.len;have be:=hy.len;have bf:=hl.len;refine Ct func16 Z (Sr (L Z (Bo (Cp d m gsv msv csv) Z Z λQ _ _ a R _=>I Q8 Z (I Q8 Z (I (J 0) Z (M (Sr (Lz _ Z (AF BE (Bx R Z)) (Mz fv Z (Mz yv Z (Mz lv Z (L Z (CB func49 AAT Z Z Z Z ((Vh d m gs gsv ms msv cs csv f fv y yv l lv (hgs.le a) (hms.le a) (hcs.le a) (hf.le a) (hy.le a) (hl.le a) (hG.le a) Y).mono λ_ _ bg=>?_))))))))))))));obtain ⟨rfl,o⟩:=bg;refine Mz (.tuple #[.agg (Aq (Bc d m gs ms cs f y l)),J (BB d m gs ms cs f y l)]) Z (L Z (Ex (.agg (Aq (Bc d m gs ms cs f y l))) Z (L Z (Ex (J (BB d m gs ms cs f y l)) Z (have S:=o.keep R Z;L Z (AS Di λu b4 w x bi _=>have bj:b4 u=some (true,.cells Qw 121 (0,0)):=bi;have bk:Q≠u:=CL S w;L Z (Ac (v:=.agg (Aq (Bc d m gs ms cs f y l))) (c':=Aq (Bc d m gs ms cs f y l)) Bm Z Z bj (I4 _) (I5 _) (KG _) (KH _ _) λp bl A=>I (J (BB d m gs ms cs f y l)) Z (M (S2 (Mz (J (BB d m gs ms cs f y l)) Z (L Z (Av Z Z (M (AR Z (λT=>?_) (λT=>?_)))))))))))))))
 ·exact Sr (Mz (J (BB d m gs ms cs f y l)) Z (I Q8 Z (I Q8 Z (I (J (BB d m gs ms cs f y l)) Z (M (Rt (have bm:=((a.trans o).trans x).upd (Ln (a.trans o) w) A;⟨Zr,Ll Z (v:=.slice none 0 0) (v':=.slice none 0 0) (v2:=J (BB d m gs ms cs f y l)) Z Z Z (⟨.slice none 0 0,.slice none 0 0,(by rfl),(by have e:HX d m gs ms cs f y l=[]:=(by exact TE ‹_›);rw [e];exact AD.nil _ _ _),(by have e:I6 d m gs ms cs f y l=[]:=(by exact Ud ‹_›);rw [e];exact AD.nil _ _ _),bm⟩)⟩)))))))
 ·obtain ⟨g,hpo⟩:=ZH (Dn T);have hgl:=g.glen;have hml:=g.mlen;have hdy:=g.days;have hkind:=g.kind;refine Sk (S2 (Fz Cv Z (have U:=(A _ bk).trans (x.keep S Z);Lz gsv Z (Rd.one Eh U Z) (have B:=((a.trans o).trans x).upd (Ln (a.trans o) w) A;L Z (AO FN (hgs.le B) Z (Mz (J 0) Z (M (Bk (Ag (λX σ' C h'=>∃(k:Nat)(j:aU)(c:aU),X=gs.length-k/\(k<=gs.length)/\C=[]/\V.Le p h'/\σ' 4=Pt Q/\σ' 10=J 0/\σ' 11=Pt u/\σ' 29=J (gs.length:Int)/\σ' 30=J k/\σ' 8=j/\σ' 9=c/\AV p h' j 3 1 eI ((List.range k).map (λ(i:Nat)=>(AX ms (Bc d m gs ms cs f y l) (i:Int) d).1))/\AV p h' c 3 1 eI ((List.range k).map (λ(i:Nat)=>(AX ms (Bc d m gs ms cs f y l) (i:Int) d).2))/\Apart c j) ⟨0,.slice none 0 0,.slice none 0 0,Z,Y,Z,Lr,Z,Z,Z,Z,Z,Z,Z,(by have e:(List.range 0).map (λ(i:Nat)=>(AX ms (Bc d m gs ms cs f y l) (i:Int) d).1)=[]:=(by rfl);rw [e];exact AV.nil _ _ _ _ _),(by have e:(List.range 0).map (λ(i:Nat)=>(AX ms (Bc d m gs ms cs f y l) (i:Int) d).2)=[]:=(by rfl);rw [e];exact AV.nil _ _ _ _ _),Apart.nil⟩ (λX _ _ _ bn=>?_))))))))));obtain ⟨k,j,c,rfl,hk,b5,r,D,b6,bw,bx,E,bz,b0,b1,b2,b3⟩:=bn;subst b5;refine Sr (L Z (Am E bx (M (Sq (AR Z (λbq=>?_) (λbq=>?_))))))
  ·refine Sk (Sq (Bk (Sr (Mv (J k) Z E (I (J k) Z (M (Sr (have az:=r.keep U Z;Ld _ Z D (AF BE (Bx az Z)) (L Z (Ap (cells:=(Cp d m gsv msv csv)) Dv B3 aB (Ld (.agg (Aq (Bc d m gs ms cs f y l))) Z bw (AF Bm (Bx (r.keep bl Z) Z)) (Mz (J k) Z (Fa Dg Z D (Lz (J d) Z (Rd.one AH az Z) (have s:=B.trans r;L Z (CB func50 KU Z Z Z Z ((JQ d m gs gsv ms msv cs csv (Bc d m gs ms cs f y l) (k:Int) d (hgs.le s) (hms.le s) (hcs.le s) (hG.le s) Y Y Y Y Y).mono λ_ _ br=>?_)))))))))))))))));obtain ⟨rfl,F⟩:=br;exact Mz (.tuple #[J ((AX ms (Bc d m gs ms cs f y l) (k:Int) d).1),J ((AX ms (Bc d m gs ms cs f y l) (k:Int) d).2)]) Z (L Z (Ex (J ((AX ms (Bc d m gs ms cs f y l) (k:Int) d).1)) Z (L Z (Ex (J ((AX ms (Bc d m gs ms cs f y l) (k:Int) d).2)) Z (I (J ((AX ms (Bc d m gs ms cs f y l) (k:Int) d).1)) Z (I (J ((AX ms (Bc d m gs ms cs f y l) (k:Int) d).2)) Z (M (Rg (Mv j Z bz (Mz (J ((AX ms (Bc d m gs ms cs f y l) (k:Int) d).1)) Z (L Z (Aa (cells:=#[J ((AX ms (Bc d m gs ms cs f y l) (k:Int) d).1)]) Cb aC aC aB λ_ _ bs H bt _=>have bu:=AV.built (enc:=eI) (xs:=[(AX ms (Bc d m gs ms cs f y l) (k:Int) d).1]) (n:=1) bs bt Z Z aI Z;have a0:=(b1.le F).le H;have a1:=(r.trans F).trans H;have a2:=(b2.le F).le H;L Z (CS (h0:=p) Du Z Z a0 (bu.sl) (λ_ q=>Ln a1 q) aH aJ λt _ bv K=>have ai:Apart t c:=Apart.grown K a2 (Apart.symm b3);Mv c Z b0 (Mz (J ((AX ms (Bc d m gs ms cs f y l) (k:Int) d).2)) Z (L Z (Aa (cells:=#[J ((AX ms (Bc d m gs ms cs f y l) (k:Int) d).2)]) Cb aC aC aB λ_ _ a3 N a4 _=>have a5:=AV.built (enc:=eI) (xs:=[(AX ms (Bc d m gs ms cs f y l) (k:Int) d).2]) (n:=1) a3 a4 Z Z aI Z;have aj:=((AV.grown K a2 (Apart.symm b3)).le N);have ak:=(V.Le.grown K a1 λb e=>Ln Lr (a0.fresh b e)).trans N;have al:=bv.le N;L Z (CS (h0:=p) Du Z Z aj (a5.sl) (λ_ q=>Ln ak q) aH aJ λO _ a6 P=>have a7:Apart O t:=Apart.grown P al (Apart.symm ai);I t Z (I O Z (M (Rg (Ad _ _ Z E Z Y (Mz (J ((k:Int)+1)) Z (M (have a8:=V.Le.grown P ak λb e=>Ln Lr (aj.fresh b e);⟨_,Y,k+1,t,O,Z,Y,Z,a8,D,b6,bw,bx,Z,Z,Z,(by have e:(List.range (k+1)).map (λ(i:Nat)=>(AX ms (Bc d m gs ms cs f y l) (i:Int) d).1)=((List.range k).map (λ(i:Nat)=>(AX ms (Bc d m gs ms cs f y l) (i:Int) d).1))++[(AX ms (Bc d m gs ms cs f y l) (k:Int) d).1]:=(by exact Fr _ _);rw [e];exact (AV.grown P al (Apart.symm ai))),(by have e:(List.range (k+1)).map (λ(i:Nat)=>(AX ms (Bc d m gs ms cs f y l) (i:Int) d).2)=((List.range k).map (λ(i:Nat)=>(AX ms (Bc d m gs ms cs f y l) (i:Int) d).2))++[(AX ms (Bc d m gs ms cs f y l) (k:Int) d).2]:=(by exact Fr _ _);rw [e];exact a6),a7⟩))))))))))))))))))))))))
  ·exact Xt (Sr (Mv j Z bz (Mv c Z b0 (I j Z (I c Z (I (J 0) Z (M (Rt (⟨Zr,Ll Z (v:=j) (v':=c) (v2:=J 0) Z Z Z (⟨j,c,(by (rw [Dn (aG:¬¬BB d m gs ms cs f y l=0)])),(by have e:HX d m gs ms cs f y l=(List.range k).map (λ(i:Nat)=>(AX ms (Bc d m gs ms cs f y l) (i:Int) d).1):=(by exact QY ‹_› hk ‹_›);rw [e];exact b1.sl),(by have e:I6 d m gs ms cs f y l=(List.range k).map (λ(i:Nat)=>(AX ms (Bc d m gs ms cs f y l) (i:Int) d).2):=(by exact TF ‹_› hk ‹_›);rw [e];exact b2.sl),(B.trans r)⟩)⟩)))))))))
end Go.Ns
