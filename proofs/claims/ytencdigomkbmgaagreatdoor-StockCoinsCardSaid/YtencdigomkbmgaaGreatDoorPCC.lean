/- Rules and walks, part 3 of 6. No conditions. -/
import Derived.Carry
import Derived.Conc.LeavingOf
import Derived.LaidMore
import Derived.OpenShut
import Derived.ProofKit
import Derived.Test.YtencdigomkbmgaaGreatDoorPCA
import Derived.Test.YtencdigomkbmgaaGreatDoorPCB
import Derived.Test.YtencdigomkbmgaaGreatDoorProg
set_option linter.unusedVariables false
set_option linter.unusedSimpArgs false
set_option linter.unnecessarySimpa false
set_option linter.unusedSectionVars false
set_option linter.constructorNameAsVariable false
namespace Go.Ns
open Go.Conc
section
variable {P:Program} {aQ:Type}
structure Pp(P:Program)(aQ:Type) where
 W:Wk P
 Rep:Nat->aQ->aV->L->Prop
 main:Bool
 fn:FuncId
 rd:Option Nat
 N:Nat
def Pp.wk(F:Pp P aQ):Option (Er aQ)->Wk P
 | none=>F.W
 | some s=>⟨F.main,EU P F.main (Hi P F.Rep F.W.K s F.main),Ks _ _⟩
abbrev Pp.env(F:Pp P aQ)(i:Option (Er aQ)):Fb P:=⟨F.wk i,F.fn,F.rd,F.N⟩
abbrev Tw(aQ:Type):=Option (Er aQ)->Exit->(Nat->aV)->List Deferred->L->Prop
def Kp(F:Pp P aQ)(c:Code)(i:Option (Er aQ))(O:Nat->aV)(ds:List Deferred)(h:L)(Q:Tw aQ):Prop:=
 ∀(b:Frame)(k:List Item)(cs:List Frame)(aO:Option (Er aQ)->Lv)(t:Array aV),b.fn=F.fn->b.roundOf=F.rd->(∀i,Kq (F.wk i) b cs (aO i))->BP t F.N O->
  (∀i e σ' ds' h',Q i e σ' ds' h'->∀t',BP t' F.N σ'->Cv (F.wk i) (aO i) b k cs e t' ds' h')->(F.wk i).K (G (CR b t ds (.code c ::k)) cs) h
def LM(F:Pp P aQ)(ops:Array Oper)(l:List Oper)(i:Option (Er aQ))(O:Nat->aV)(ds:List Deferred)(h:L)(Q:Tw aQ):Prop:=
 ∀(n:Nat)(b:Frame)(k:List Item)(cs:List Frame)(aO:Option (Er aQ)->Lv)(t:Array aV),(∀j,l[j]? =ops[n+j]?)->b.fn=F.fn->b.roundOf=F.rd->(∀i,Kq (F.wk i) b cs (aO i))->BP t F.N O->
  (∀i e σ' ds' h',Q i e σ' ds' h'->∀t',BP t' F.N σ'->Cv (F.wk i) (aO i) b k cs e t' ds' h')->(F.wk i).K (G (CR b t ds (.inRegion ops (List.range' n l.length) ::k)) cs) h
variable {F:Pp P aQ} {i:Option (Er aQ)} {O:Nat->aV} {ds:List Deferred} {h:L} {Q:Tw aQ}
theorem H2{c:Code}(x:Tr (F.env i) c O ds h (Q i)):Kp F c i O ds h Q:=λb k a d t e f g j l=>x b k a (d i) t e f (g i) j (l i)
theorem LN{x y:Code}(a:Kp F x i O ds h (λi e σ' ds' h'=>match e with | .normal=>Kp F y i σ' ds' h' Q | e=>Q i e σ' ds' h')):Kp F (.seq x y) i O ds h Q:=by
 intro b k g j t m n o p d;refine Wk.go (CR b t ds (.code x ::.code y ::k)) (λw=>by rw [Aq];simp [stepG.exec,CR,G]) ?_;refine a b (.code y ::k) g j t m n o p λi e σ' ds' h' q f c=>?_;cases e with
 | normal=>exact q b k g j f m n o c d
 | exit id=>exact Cv.push rfl aD (d _ _ _ _ _ q f c)
 | ret=>exact Cv.push rfl aD (d _ _ _ _ _ q f c)
 | goto l=>exact Cv.push rfl aD (d _ _ _ _ _ q f c)
 | panic l=>exact Cv.push rfl aD (d _ _ _ _ _ q f c)
 | outgrown=>exact Cv.push rfl aD (d _ _ _ _ _ q f c)
theorem CU{x y:Code}(a:Tr (F.env i) x O ds h (λe σ' ds' h'=>match e with | .normal=>Kp F y i σ' ds' h' Q | e=>Q i e σ' ds' h')):Kp F (.seq x y) i O ds h Q:=
 LN (H2 (Q:=λi e σ' ds' h'=>match e with | .normal=>Kp F y i σ' ds' h' Q | e=>Q i e σ' ds' h') a)
theorem Tx{c:Operand}{x y:Code}{t:Bool}(hc:AL O c=.bool t)(a:Kp F (if t then x else y) i O ds h Q):Kp F (.cond c x y) i O ds h Q:=by
 intro b k g j d l m n e o;refine Wk.go (CR b d ds (.code (if t then x else y) ::k)) (λw=>?_) (a b k g j d l m n e o);have f:(CR b d ds (.code (.cond c x y) ::k)).eval c=.bool t:=by rw [Ix e];exact hc
 simp only [CR] at f;rw [Aq];simp [stepG.exec,CR,G,f]
theorem trI_true{c:Operand}{x y:Code}(hc:AL O c=.bool true)(a:Kp F x i O ds h Q):Kp F (.cond c x y) i O ds h Q:=Tx hc a
theorem YU{c:Operand}{x y:Code}(hc:AL O c=.bool false)(a:Kp F y i O ds h Q):Kp F (.cond c x y) i O ds h Q:=Tx hc a
theorem trI_ifb{c:Operand}{x y:Code}{t:Bool}(hc:AL O c=.bool t)(a:t=true->Kp F x i O ds h Q)(a':t=false->Kp F y i O ds h Q):Kp F (.cond c x y) i O ds h Q:=by
 cases t with
 | true=>exact trI_true hc (a rfl)
 | false=>exact YU hc (a' rfl)
theorem Jn{id:Nat}{c:Code}(a:Kp F c i O ds h (λi e σ' ds' h'=>match e with | .normal=>Q i .normal σ' ds' h' | .exit id'=>if id'=id then Q i .normal σ' ds' h' else Q i (.exit id') σ' ds' h' | e=>Q i e σ' ds' h')) :
  Kp F (.block id c) i O ds h Q:=by
 intro b k n o t p r s u j;refine Wk.go (CR b t ds (.code c ::.inBlock id ::k)) (λw=>by rw [Aq];simp [stepG.exec,CR,G]) ?_;refine a b (.inBlock id ::k) n o t p r s u λi e σ' ds' h' q g d=>?_;cases e with
 | normal=>exact Wk.go (CR b g ds' k) (λw=>by rw [Aq];simp [stepG.exec,CR,G]) (j _ _ _ _ _ q g d)
 | exit id'=>
  by_cases f:id'=id
  ·simp only [f,if_true] at q
   have:=j _ _ _ _ _ q g d
   simp only [Cv,exitTo,f,beq_self_eq_true,if_true];exact this
  ·simp only [f,if_false] at q
   have:=j _ _ _ _ _ q g d
   have m:(id==id')=false:=by simp;exact λh=>f h.symm
   simp only [Cv,exitTo,m] at this ⊢;exact this
 | ret=>exact j _ _ _ _ _ q g d
 | goto l=>exact j _ _ _ _ _ q g d
 | panic l=>exact j _ _ _ _ _ q g d
 | outgrown=>exact j _ _ _ _ _ q g d
theorem Ty{c:Code}(aR:Nat->Option (Er aQ)->(Nat->aV)->List Deferred->L->Prop){n:Nat}(i0:aR n i O ds h)
  (round:∀n i O ds h,aR n i O ds h->Kp F c i O ds h (λi e σ' ds' h'=>match e with | .normal=>∃m,m<n/\aR m i σ' ds' h' | e=>Q i e σ' ds' h')):Kp F (.loop c) i O ds h Q:=by
 intro b k p r t s u v g f;refine Wk.go (CR b t ds (.code c ::.inLoop c ::k)) (λw=>by rw [Aq];simp [stepG.exec,CR,G]) ?_;have j:∀n i O ds h t,aR n i O ds h->BP t F.N O->(F.wk i).K (G (CR b t ds (.code c ::.inLoop c ::k)) p) h:=by
  intro n
  induction n using Nat.strongRecOn with
  | ind n x=>
   intro i O ds h t y g;refine round n i O ds h y b (.inLoop c ::k) p r t s u v g λi e σ' ds' h' q d a=>?_;cases e with
   | normal=>
    obtain ⟨m,z,o⟩:=q;exact Wk.go (CR b d ds' (.code c ::.inLoop c ::k)) (λw=>by rw [Aq];simp [stepG.exec,CR,G]) (x m z _ _ _ _ _ o a)
   | exit id=>exact Cv.push rfl aD (f _ _ _ _ _ q d a)
   | ret=>exact Cv.push rfl aD (f _ _ _ _ _ q d a)
   | goto l=>exact Cv.push rfl aD (f _ _ _ _ _ q d a)
   | panic l=>exact Cv.push rfl aD (f _ _ _ _ _ q d a)
   | outgrown=>exact Cv.push rfl aD (f _ _ _ _ _ q d a)
 exact j n i O ds h t i0 g
theorem KT{id:Nat}{l:List Oper}(a:LM F l.toArray l i O ds h Q):Kp F (.region id l.toArray false) i O ds h Q:=by
 intro b k c d t e f g j m;refine Wk.go (CR b t ds (.inRegion l.toArray (List.range' 0 l.length) ::k)) (λw=>?_) (a 0 b k c d t aD e f g j m);rw [Aq];simp [stepG.exec,CR,G,List.range_eq_range']
theorem LO{ops:Array Oper}(q:Q i .normal O ds h):LM F ops [] i O ds h Q:=by
 intro n b k d e t f g j l a c;exact Wk.go (CR b t ds k) (λw=>by rw [Aq];simp [stepG.exec,CR,G]) (c _ _ _ _ _ q t a)
theorem HF{ops:Array Oper}{o:Oper}{l:List Oper}(hg:o.guard=none)(hdf:F.rd=none\/D6 o.op=false)(hd:C9 o.dst F.N=true)
  (x:BK (F.env i) o O ds h λσ' ds' h'=>LM F ops l i σ' ds' h' Q):LM F ops (o ::l) i O ds h Q:=by
 intro n b k e f t c g d m p q;have r:ops[n]? =some o:=by simpa using (c 0).symm
 refine NQ (E:=F.env i) (rest:=List.range' (n+1) l.length) r (by simp [Region.wanted,hg]) (d▸hdf) hd p x λσ' ds' h' y s a=>?_;exact y (n+1) b k e f s (λj=>by have:=c (j+1);simpa [Nat.add_assoc,Nat.add_comm 1 j] using this) g d m a q
theorem Tz{main:Bool}{b:Frame}{t:Array aV}{ops:Array Oper}{n:Nat}{rest:List Nat}{k:List Item}{cs:List Frame}{o:Oper}{N:Nat}(hs:BP t N O)(ho:ops[n]? =some o)(hw:Region.wanted o (yielded ops t)=true)
  (hdf:b.roundOf=none\/D6 o.op=false) (w:World):stepG P main (G (CR b t ds (.inRegion ops (n ::rest) ::k)) cs) w=stepG.apply P true (CR b t ds (.inRegion ops (n ::rest) ::k)) cs none (execOp (AL O) o) w:=by
 have a:=Ix (b:=b) (ds:=ds) (k:=.inRegion ops (n ::rest) ::k) hs;rw [<-a];have c:((ops[n]?).map (Region.wanted · (yielded ops t))).getD false=true:=by simp [ho,hw]
 rw [Aq];unfold stepG.exec;simp only [CR,c,↓reduceIte];unfold stepG.oper;simp only [Frame.oper?,ho];rcases hdf with e | e
 ·simp only [e]
 ·cases d:o.op <;> first | rfl | (rw [d] at e;cases e;done) | (cases b.roundOf <;> rfl)
theorem Xf{main:Bool}{b:Frame}{t:Array aV}{ops:Array Oper}{n:Nat}{rest:List Nat}{k:List Item}{cs:List Frame}{o:Oper}{N:Nat}{w:World}{cc:Array CommCase}{bl:Bool}{sh:CommShape}(hs:BP t N O)(ho:ops[n]? =some o)(hw:Region.wanted o (yielded ops t)=true)
  (hdf:b.roundOf=none\/D6 o.op=false) (hr:(execOp (AL O) o).runT P w #[]=(.ok (.comm cc bl sh) w,#[])) :
  stepG P main (G (CR b t ds (.inRegion ops (n ::rest) ::k)) cs) w=.comm (G (CR b t ds (.inRegion ops (n ::rest) ::k)) cs) cc bl sh w #[]:=by
 rw [Tz hs ho hw hdf];simp only [stepG.apply,hr,if_true,ite_self,seen_none];rfl
theorem spawn_at{main:Bool}{b:Frame}{t:Array aV}{ops:Array Oper}{n:Nat}{rest:List Nat}{k:List Item}{cs:List Frame}{o:Oper}{N:Nat}{w:World}{f:Fn}{cap args:Array aV}(hs:BP t N O)(ho:ops[n]? =some o)(hw:Region.wanted o (yielded ops t)=true)
  (hdf:b.roundOf=none\/D6 o.op=false) (hr:(execOp (AL O) o).runT P w #[]=(.ok (.spawn { target:=.fn f cap,args:=args }) w,#[])) :
  stepG P main (G (CR b t ds (.inRegion ops (n ::rest) ::k)) cs) w=.spawn (G ((CR b t ds (.inRegion ops (n ::rest) ::k)).finish undef) cs) (born P { target:=.fn f cap,args:=args }) w #[]:=by
 rw [Tz hs ho hw hdf];simp only [stepG.apply,hr,if_true,ite_self,seen_none];simp [GStep.after,G,born]
variable {ops:Array Oper} {o:Oper} {l:List Oper}
theorem KU(hl:l≠[]):LM F ops l (some .never) O ds h Q:=λn b k a c t d e f _ g j=>EU.stop rfl
theorem YV{c:Nat}{m:aQ}{nx:Er aQ}{v z:aV}{hm h1:L}(hg:o.guard=none)(hdf:D6 o.op=false)(hd:C9 o.dst F.N=true)
  (hr:∀w,(execOp (AL O) o).runT P w #[]=(.ok (.comm #[scase c v z] true .send) w,#[])) (hsp:L.Split h h1 hm) (hrep:F.Rep c m v hm) (hnx:¬nx.isDone)
  (x:LM F ops l (some nx) (putS O o.dst undef) ds h1 Q):LM F ops (o ::l) (some (.send c m nx)) O ds h Q:=by
 intro n b k d q t e r a s g u;have p:ops[n]? =some o:=by simpa using (e 0).symm
 refine EU.stop ⟨_,d,v,z,hm,h1,rfl,⟨λw f=>?_,hsp,hrep,?_⟩⟩
 ·rw [List.length_cons,List.range'_succ];exact Xf g p (by simp [Region.wanted,hg]) (.inr hdf) (hr w)
 ·rw [Gv hnx,List.length_cons,List.range'_succ,C6 p];exact x (n+1) b k d q _ (λj=>by have:=e (j+1);simpa [Nat.add_assoc,Nat.add_comm 1 j] using this) r a s (g.putS hd undef) u
theorem QR{c:Nat}{f:Option aQ->Er aQ}{z:aV}{ok:Bool}(hg:o.guard=none)(hdf:D6 o.op=false)(hd:C9 o.dst F.N=true)
  (hr:∀w,(execOp (AL O) o).runT P w #[]=(.ok (.comm #[rcase c z] true (.recv ok)) w,#[])) (hnx:∀o,¬(f o).isDone)
  (x:∀m v hm,F.Rep c m v hm->h.Compat hm->LM F ops l (some (f (some m))) (putS O o.dst (recvd ok v true)) ds (h.join hm) Q)
  (y:LM F ops l (some (f none)) (putS O o.dst (recvd ok z false)) ds h Q):LM F ops (o ::l) (some (.recv c f)) O ds h Q:=by
 intro n b k e s t g u a A p B;have q:ops[n]? =some o:=by simpa using (g 0).symm
 refine EU.stop ⟨_,e,z,ok,rfl,⟨λw C=>?_,λm v hm d r=>?_,?_⟩⟩
 ·rw [List.length_cons,List.range'_succ];exact Xf p q (by simp [Region.wanted,hg]) (.inr hdf) (hr w)
 ·show E3 P F.Rep F.W.K (f (some m)) F.main _ _;rw [Gv (hnx _),List.length_cons,List.range'_succ,C6 q];exact x m v hm d r (n+1) b k e s _ (λj=>by have:=g (j+1);simpa [Nat.add_assoc,Nat.add_comm 1 j] using this) u a A (p.putS hd _) B
 ·show E3 P F.Rep F.W.K (f none) F.main _ _;rw [Gv (hnx _),List.length_cons,List.range'_succ,C6 q];exact y (n+1) b k e s _ (λj=>by have:=g (j+1);simpa [Nat.add_assoc,Nat.add_comm 1 j] using this) u a A (p.putS hd _) B
theorem trLI_go{ch nx:Er aQ}{f:Fn}{cap args:Array aV}{hc h1:L}(hg:o.guard=none)(hdf:D6 o.op=false)(hd:C9 o.dst F.N=true)
  (hr:∀w,(execOp (AL O) o).runT P w #[]=(.ok (.spawn { target:=.fn f cap,args:=args }) w,#[])) (hsp:L.Split h h1 hc) (hnx:¬nx.isDone)
  (child:E3 P F.Rep F.W.K ch false (born P { target:=.fn f cap,args:=args }) hc) (x:LM F ops l (some nx) (putS O o.dst undef) ds h1 Q):LM F ops (o ::l) (some (.spawn ch nx)) O ds h Q:=by
 intro n b k c m t d p a q e r;have g:ops[n]? =some o:=by simpa using (d 0).symm
 refine EU.stop ⟨_,c,(CR b t ds (.inRegion ops (List.range' n (o ::l).length) ::k)).finish undef,_,hc,h1,rfl,⟨λw s=>?_,hsp,?_,child⟩⟩
 ·rw [List.length_cons,List.range'_succ];exact spawn_at e g (by simp [Region.wanted,hg]) (.inr hdf) (hr w)
 ·rw [Gv hnx,List.length_cons,List.range'_succ,C6 g];exact x (n+1) b k c m _ (λj=>by have:=d (j+1);simpa [Nat.add_assoc,Nat.add_comm 1 j] using this) p a q (e.putS hd undef) r
def KV(tys:Array aW)(ty:aW)(cs:Array Bool)(c:Nat):Deferred:={ target:=.builtin .close tys ty cs,args:=#[.chan (some c)] }
theorem SS{f:FuncId}{fn:Func}{args:Array aV}(hf:P.funcs[f]? =some fn)(hc:AJ fn=true)(w:World):(callFunc f args).runT P w #[]=(.ok (.enter f args) w,#[]):=by
 unfold AJ at hc;simp only [Bool.and_eq_true,Bool.not_eq_true'] at hc;unfold callFunc;show (match P.funcs[f]? with | none=>_ | some fn=>_:Sem Next).runT P w #[]=_;rw [hf];simp only [];rw [aT (by rw [hc.1];simp),aT (by cases a:fn.body with | none=>rw [a] at hc;simp at hc | some c=>simp)];rfl
theorem Vj{tys:Array aW}{ty:aW}{cs:Array Bool}{ch s r:Nat}{w:World}(hw:w.heap[ch]? =some (.chan 0 #[] false s r false)) :
  (invoke (.builtin .close tys ty cs) #[.chan (some ch)]).runT P w #[]=(.ok (.value (.tuple #[])) { w with heap:=w.heap.setIfInBounds ch (.chan 0 #[] true s r false) },#[⟨.obj ch,false,true⟩,⟨.obj ch,true,true⟩]):=by
 show ((do pure (.value (<-Builtin.close_ tys ty #[.chan (some ch)])):Sem Next)).runT P w #[]=_;show Sem.runT P (.getObj ch λo=>_) w #[]=_;unfold Sem.runT;rw [hw];show Sem.runT P (.setObj ch (.chan 0 #[] true s r false) _) w _=_;unfold Sem.runT;rw [hw];rfl
theorem Vk{fn:FuncId}{ch:Nat}:seen P fn #[⟨.obj ch,false,true⟩,⟨.obj ch,true,true⟩]=#[⟨.obj ch,false,true⟩,⟨.obj ch,true,true⟩]:=by
 rw [seen_def];simp [seenStep]
theorem YW{fn:Func}{c:Code}{s:Er aQ}{ars cap args:Array aV}(hm:F.main=false)(hrd:F.rd=none)(ha:ars++cap=args)(hf:P.funcs[F.fn]? =some fn)(hc:AJ fn=true)(hb:fn.body=some c)(hN:F.N=fn.ntmps)(hres:fn.results=#[])(hsz:args.size<=fn.ntmps)(hs:¬s.isDone)
  (x:Kp F c (some s) (λi=>args.getD i undef) [] h λi e O ds h=>(e=.normal\/e=.ret)/\∃ch tys ty cs,i=some (.close ch .done)/\ds=[KV tys ty cs ch]):E3 P F.Rep F.W.K s false (born P { target:=.fn (.func F.fn) cap,args:=ars }) h:=by
 let a:Frame:={ (default:Frame) with fn:=P.funcs.size,defers:=[],mode:=.panicking [goexitEntry] };have m:∀s,(F.wk (some s)).K=EU P false (Hi P F.Rep F.W.K s false):=λs=>by show EU P F.main (Hi P F.Rep F.W.K s F.main)=_;rw [hm]
 rw [Gv hs];refine Ks _ _ _ _ rfl λw f=>⟨G (Frame.enter P F.fn args .deferred) [a],w,#[],h,?_,BX.refl f,?_⟩
 ·subst ha;have n:(invoke (.fn (.func F.fn) cap) ars).runT P w #[]=(.ok (.enter F.fn (ars++cap)) w,#[]):=SS hf hc w;show callDeferred P a [] none { target:=.fn (.func F.fn) cap,args:=ars } w=_;unfold callDeferred;rw [aT aD];simp only [n,seen_none];rfl
 have y:Frame.enter P F.fn args .deferred=CR (Frame.enter P F.fn args .deferred) (args++Array.replicate (fn.ntmps-args.size) undef) [] [.code c]:=by simp [Frame.enter,CR,hf,hb]
 rw [y,<-m s];let z:Option (Er aQ)->Lv:=λi j t ds b=>(j=none\/j=some .ret)/\∃ch tys ty cs,i=some (.close ch .done)/\ds=[KV tys ty cs ch];have d:∀ch tys ty cs b t k,(F.wk (some (.close ch .done))).K (G (DW (Frame.enter P F.fn args .deferred) t [KV tys ty cs ch] k) [a]) b:=by
  intro ch tys ty cs b t k;rw [m];refine EU.stop ⟨_,_,DW (Frame.enter P F.fn args .deferred) t [] k,[a],rfl,⟨λw s r _ A=>?_,rfl,?_⟩⟩
  ·have n:=Vj (P:=P) (tys:=tys) (ty:=ty) (cs:=cs) A;show callDeferred P (DW (Frame.enter P F.fn args .deferred) t [] k) [a] none (KV tys ty cs ch) w=_;unfold callDeferred KV;rw [aT aD];simp only [n,Vk];rfl
  ·refine ⟨2,.inr ⟨rfl,G a [],λw=>?_,.inr ⟨rfl,{ G a [] with status:=.finished },λw=>?_,rfl⟩⟩⟩
   ·show unwind P false (DW (Frame.enter P F.fn args .deferred) t [] k) [a] none w=_;have q:(DW (Frame.enter P F.fn args .deferred) t [] k).fn=F.fn:=rfl;have B:(DW (Frame.enter P F.fn args .deferred) t [] k).kind=.deferred:=rfl;have g:(DW (Frame.enter P F.fn args .deferred) t [] k).mode=.returning:=rfl;have u:(DW (Frame.enter P F.fn args .deferred) t [] k).defers=[]:=rfl;have C:∀t,(results fn t).runT P w #[]=(.ok (.tuple #[]) w,#[]):=λt=>by
     unfold results;rw [hres];simp only [Array.mapM_empty];rfl
    unfold unwind;simp only [u,g,q,hf,C,GStep.after,doReturn,B,seen_none];rfl
   ·show unwind P false a [] none w=_;have p:a.catches P=false:=by
     unfold Frame.catches
     have:P.funcs[a.fn]? =none:=Array.getElem?_eq_none (Nat.le_refl _)
     rw [this];rfl
    have u:a.defers=[]:=rfl;have g:a.mode=.panicking [goexitEntry]:=rfl;unfold unwind;simp only [u,g,p];rfl
 refine x (Frame.enter P F.fn args .deferred) [] [a] z _ rfl hrd.symm (λi=>⟨?_,?_,?_⟩) ⟨by rw [hN];simp;omega,λi=>?_⟩ ?_
 ·rintro t ds b ⟨_,ch,tys,ty,cs,rfl,rfl⟩;exact Wk.go (DW (Frame.enter P F.fn args .deferred) t _ []) (λw=>by rw [Aq];simp [stepG.exec,CR,DW,G,Frame.enter]) (d ch tys ty cs b t [])
 ·rintro t ds b k ⟨_,ch,tys,ty,cs,rfl,rfl⟩;exact Wk.go (DW (Frame.enter P F.fn args .deferred) t _ (.code .ret ::k)) (λw=>by rw [Aq];simp [stepG.exec,CR,DW,G,Frame.enter]) (d ch tys ty cs b t _)
 ·rintro id t ds b k _ ⟨h1 | h1,_⟩ <;> cases h1
 ·by_cases n:i<args.size
  ·simp [Array.getD_eq_getD_getElem?,Array.getElem?_append_left n]
  ·simp only [Array.getD_eq_getD_getElem?];rw [Array.getElem?_append_right Y,Array.getElem?_eq_none (show args.size<=i by omega),Array.getElem?_replicate];split <;> rfl
 ·rintro i e O ds b ⟨D,ch,tys,ty,cs,rfl,rfl⟩ v E;rcases D with rfl | rfl
  ·exact Wk.go (DW (Frame.enter P F.fn args .deferred) v _ []) (λw=>by rw [Aq];simp [stepG.exec,CR,DW,G,Frame.enter]) (d ch tys ty cs b v [])
  ·exact ⟨.inr rfl,ch,tys,ty,cs,rfl,rfl⟩
end
section
variable {P:Program} {aQ:Type} {Post:aV->World->Prop}
def L.Same(h h':L):Prop:=∀b p o,h b=some (p,o)->∃p',h' b=some (p',o)
theorem Hh.flags{g:Goroutine}{h h':L}{gs:Array Goroutine}{w:World}{q:Nat->Nat}{t:Trace}(B:Hh P g h gs w q t)(s:h'.Same h):Hh P g h' gs w q t:=
 { B with
  fits:=λb p o c=>by obtain ⟨d,x⟩:=s b p o c;exact B.fits b d o x
  chn:=λb p o k a c=>by obtain ⟨d,x⟩:=s b p o c;exact B.chn b d o k a x }
theorem Dh.flags{g:Goroutine}{h h':L}(s:h'.Same h)(x:Dh P Post g h'):Dh P Post g h:=λa w b q t B=>x a w b q t (B.flags s)
def Vl(c:Nat)(s0:Er aQ)(N:HQ aQ):Prop:=0<N.n/\N.s 0=s0/\(∀j,0<j->j<N.n->N.s j=.done/\N.kn 0 j)/\N.cl c=false
theorem Pq{Rep:Nat->aQ->aV->L->Prop}{g:Goroutine}{h:L}{c:Nat}{s0:Er aQ}(hc:h c=some (true,.chan 0 #[] false 0 0 false))(good:∀N:HQ aQ,Vl c s0 N->GP (λx=>x=c) N)
  (d:E3 P Rep (Dh P Post) s0 true g (h.delS λx=>x=c)):Dh P Post g h:=by
 intro l w S q t B;have m:(h.delS λx=>x=c).Same h:=λb p o y=>by
  by_cases e:b=c
  ·rw [L.delS_in (X:=λx=>x=c) e] at y;cases y
  ·rw [L.delS_ne (X:=λx=>x=c) e] at y;exact ⟨p,y⟩
 have B':=B.flags m;let N:HQ aQ:={ n:=l.size,s:=λj=>if j=0 then s0 else .done,kn:=λi j=>i=0/\0<j,cl:=λ_=>false,ck:=λ_ _=>False };have r:0<l.size:=B.lt;obtain ⟨O,u⟩:=F6 (cl:=N.cl) d;have hsits:∀i A,l[i]? =some A->NR P Rep (Dh P Post) (N.s i) N.cl (i==0) A (only (h.delS λx=>x=c) i) (if i=0 then O else .leave (q i)):=by
  intro i A f;rcases Nat.eq_zero_or_pos i with rfl | hp
  ·have:=B.here;rw [f] at this;cases this
   simpa [N,only] using u
  ·have T:¬i=0:=Y
   have U:=B.old i A hp f;simp only [N,T,if_false];exact .leave (q i) rfl U
 have hparked:∀i (E:Goroutine) Q F,l[i]? =some (parked E Q F)->i=0:=λi E Q F f=>by
  rcases Nat.eq_zero_or_pos i with e | hp
  ·exact e
  ·rcases (B.old i _ hp f).status with e | e <;> cases e
 refine net_runs (used:=λx=>x=c) (N:=N) (good N ⟨r,rfl,λj R W=>⟨aT Y,rfl,R⟩,rfl⟩) (λi=>if i=0 then O else .leave (q i)) l w S t (only (h.delS λx=>x=c))
  ⟨rfl,B'.HS,B'.TI,hsits,?_,?_,?_,?_,?_,?_⟩
 ·rintro C rfl;exact ⟨0,B.fits _ _ _ hc⟩
 ·rintro C i rfl f;unfold only;split
  ·exact L.delS_in rfl
  ·rfl
 ·rintro C k a rfl H hl;exact B.chn _ _ _ k a hc rfl H hl
 ·intro i j E gj C v z F z' sh' D K;obtain rfl:=hparked i _ _ _ D;obtain rfl:=hparked j _ _ _ K;rw [D] at K;exact Gk (Option.some.inj K).symm
 ·rintro i j f R ⟨rfl,hjp⟩;refine ⟨aT Y,λk a H _=>B.known k a H⟩
 ·rintro C rfl D;cases D
def OX(W:Wk P):Prop:=∃Post:aV->World->Prop,W.K=Dh P Post
variable {F:Pp P aQ} {i:Option (Er aQ)} {O:Nat->aV} {ds:List Deferred} {h:L} {Q:Tw aQ}
theorem trI_net{c:Code}{s0:Er aQ}{ch:Nat}(hm:F.main=true)(hW:OX F.W)(hc:h ch=some (true,.chan 0 #[] false 0 0 false))(hs:¬s0.isDone)(good:∀N:HQ aQ,Vl ch s0 N->GP (λx=>x=ch) N)
  (x:Kp F c (some s0) O ds (h.delS λx=>x=ch) Q):Kp F c none O ds h Q:=by
 intro b k d e t f g j l m
 have:=x b k d e t f g j l m
 obtain ⟨Post,a⟩:=hW;show F.W.K _ _;rw [a];refine Pq (Rep:=F.Rep) hc good ?_;rw [Gv hs];unfold Pp.wk at this;simp only [hm,a] at this;exact this
theorem trI_out{c:Code}{h0:L}(hW:OX F.W)(hs:h0.Same h)(x:Kp F c none O ds (h0.join h) Q):Kp F c (some .stop) O ds h Q:=by
 intro b k e f t a g j l m
 have:=x b k e f t a g j l m
 obtain ⟨Post,n⟩:=hW;refine EU.stop ?_;show F.W.K _ _;have d:F.W.K _ _:=this;rw [n] at d ⊢;refine d.flags λb p o a=>?_;rcases hj:h0 b with _ | ⟨q,r⟩
 ·unfold L.join at a;rw [hj] at a;exact ⟨p,a⟩
 ·unfold L.join at a;rw [hj] at a;cases a;exact hs b p o hj
def L.ro(h:L):L:=λb=>(h b).map λx=>(false,x.2)
theorem L.ro_some{h:L}{b:Nat}{p:Bool}{o:Obj}(hb:h b=some (p,o)):h.ro b=some (false,o):=by unfold L.ro;rw [hb];rfl
theorem L.ro_inv{h:L}{b:Nat}{p:Bool}{o:Obj}(hb:h.ro b=some (p,o)):p=false/\∃p',h b=some (p',o):=by
 unfold L.ro at hb;cases e:h b with
 | none=>rw [e] at hb;cases hb
 | some x=>rw [e] at hb;obtain ⟨p',a⟩:=x;cases hb;exact ⟨rfl,p',rfl⟩
theorem L.split_ro(h:L):L.Split h h.ro h.ro where
 left:=λb p o a=>by obtain ⟨rfl,c,x⟩:=L.ro_inv a;exact ⟨c,x,λe=>by cases e⟩
 right:=λb p o a=>by obtain ⟨rfl,c,x⟩:=L.ro_inv a;exact ⟨c,x,λe=>by cases e⟩
 one:=λr o x a=>by cases (L.ro_inv a).1
 two:=λr o x a=>by cases (L.ro_inv a).1
theorem L.same_ro(h:L):h.Same h.ro:=λ_ _ _ a=>⟨false,L.ro_some a⟩
theorem L.Same.trans{a b c:L}(x:a.Same b)(y:b.Same c):a.Same c:=λr p o d=>by obtain ⟨e,z⟩:=x r p o d;exact y r e o z
theorem L.Le.same{a b:L}(x:a.Le b):a.Same b:=λr p o c=>⟨p,x.keep c rfl⟩
theorem L.le_join(a b:L):a.Le (a.join b):=λr p o c=>⟨o,by unfold L.join;rw [c],.inl rfl⟩
theorem L.Same.join{a b:L}(s:a.Same b):b.Same (a.join b):=λr p o c=>by
 unfold L.join;cases e:a r with
 | none=>exact ⟨p,c⟩
 | some x=>obtain ⟨d,f⟩:=x;obtain ⟨g,y⟩:=s r d f e;rw [c] at y;cases y;exact ⟨d,rfl⟩
theorem AR.flags{h h':L}(s:h.Same h'){b off n:Nat}{vs:Array aV}(x:AR h b off n vs):AR h' b off n vs:=by
 obtain ⟨p,c,t,f,y,z⟩:=x;obtain ⟨a,d⟩:=s _ _ _ y;exact ⟨a,c,t,f,d,z⟩
theorem AE.flags{U:Type}{h h':L}(s:h.Same h'){v:aV}{n:Nat}{enc:U->Array aV}{xs:List U}(x:AE h v n enc xs):AE h' v n enc xs:=by
 obtain ⟨a,c,e,f,g,j⟩:=x;refine ⟨a,c,e,f,g,λi k=>?_⟩;obtain ⟨b,d,l,m⟩:=j i k;exact ⟨b,d,l,m.flags s⟩
end
section
variable {aQ:Type} [DecidableEq aQ]
def H3(c:Nat):List aQ->Er aQ
 | []=>.close c .done
 | m ::ms=>.send c m (H3 c ms)
def LP:Option aQ->Er aQ
 | none=>.stop
 | some _=>.never
def GE(m:aQ)(nx:Er aQ):Option aQ->Er aQ
 | some m'=>if m'=m then nx else .never
 | none=>.never
def JG(c:Nat):List aQ->Er aQ
 | []=>.recv c LP
 | m ::ms=>.recv c (GE m (JG c ms))
structure TwoN(c k:Nat)(ms:List aQ)(N:HQ aQ):Prop where
 n:N.n=k+1
 pos:0<k
 main:N.s 0=JG c ms
 child:N.s k=H3 c ms
 rest:∀j,0<j->j<k->N.s j=.done/\N.kn 0 j
 cl:N.cl c=false
theorem YX{c k:Nat}:∀{ms:List aQ}{N:HQ aQ},TwoN c k ms N->GP (λx=>x=c) N:=by
 intro ms
 induction ms with
 | nil=>
  intro N T;have C:=T.pos;refine .plain N (by rw [T.n];omega) ⟨_,.shut (i:=k) (c:=c) (nx:=.done) (by rw [T.n];omega) T.child⟩ (λi d=>?_) (λN' u=>?_) (λi f d a=>?_)
  ·rcases Nat.eq_zero_or_pos i with rfl | hp
   ·rw [T.main];rfl
   ·rcases Nat.lt_or_ge i k with hl | hl
    ·rw [(T.rest i hp hl).1];show i≠0;omega
    ·obtain rfl:i=k:=by have:=T.n;omega
     rw [T.child];exact ⟨rfl,T.cl⟩
  ·have b:∀i,i<N.n->i=0\/i=k\/N.s i=.done:=λi d=>by
    rcases Nat.eq_zero_or_pos i with e | hp
    ·exact .inl e
    ·rcases Nat.lt_or_ge i k with hl | hl
     ·exact .inr (.inr (T.rest i hp hl).1)
     ·exact .inr (.inl (by have:=T.n;omega))
   have o:N.s 0=.recv c LP:=T.main;have l:N.s k=.close c .done:=T.child;cases u with
   | hire d a=>rcases b _ d with rfl | rfl | e <;> simp_all
   | meet d g v a h=>rcases b _ d with rfl | rfl | e <;> simp_all
   | hear g a q=>
    rcases b _ g with rfl | rfl | e
    ·rw [o] at a;cases a;rw [T.cl] at q;cases q
    ·rw [l] at a;cases a
    ·rw [e] at a;cases a
   | @shut i D nx d a=>
    rcases b _ d with rfl | rfl | e
    ·rw [o] at a;cases a
    ·rw [l] at a;cases a;refine .plain _ (by show 0<N.n;rw [T.n];omega) ⟨_,.hear (j:=0) (c:=c) (f:=_) (by show 0<N.n;rw [T.n];omega) (by show (if 0=i then _ else N.s 0)=_;rw [aT Y];exact o) (by show (if c=c then true else _)=true;rw [aU rfl])⟩ (λj g=>?_) (λN'' u=>?_) (λj f g E=>?_)
     ·have g:j<N.n:=g;show Iz _ _ j (if j=i then _ else N.s j);by_cases e:j=i
      ·rw [aU e];show j≠0;omega
      ·rw [aT e];rcases b j g with rfl | rfl | e'
       ·rw [o];rfl
       ·exact absurd rfl e
       ·rw [e'];show j≠0;rintro rfl;rw [o] at e';cases e'
     ·have h:∀j,j<N.n->j≠0->(N.shut i c .done).s j=.done:=λj g y=>by
       show (if j=i then _ else N.s j)=_;by_cases e:j=i
       ·rw [aU e]
       ·rw [aT e];rcases b j g with rfl | rfl | e'
        ·exact absurd rfl y
        ·exact absurd rfl e
        ·exact e'
      have z:(N.shut i c .done).s 0=.recv c LP:=by show (if 0=i then _ else N.s 0)=_;rw [aT Y];exact o
      have p:∀j,j<N.n->j=0\/(N.shut i c .done).s j=.done:=λj g=>(Nat.eq_zero_or_pos j).imp id λhp=>h j g Y;cases u with
      | hire d a=>rcases p _ d with rfl | e <;> simp_all
      | meet d g v a h=>rcases p _ d with rfl | e <;> simp_all
      | shut d a=>rcases p _ d with rfl | e <;> simp_all
      | @hear j D f g a q=>
       rcases p _ g with rfl | e
       ·rw [z] at a;cases a;refine .stop _ _ (by show 0<N.n;rw [T.n];omega) (show (if 0=0 then LP none else (N.shut i c .done).s 0)=Er.stop from rfl) λj g t=>⟨?_,?_⟩
        ·show (if j=0 then _ else (N.shut i c .done).s j)=_;rw [aT Y];exact h j t Y
        ·simp only [HQ.hear,HQ.shut,if_true];show N.kn 0 j\/N.kn i j\/(j=i/\True);rcases Nat.lt_or_ge j i with hl | hl
         ·exact .inl (T.rest j g hl).2
         ·have t:j<N.n:=t;exact .inr (.inr ⟨by have:=T.n;omega,trivial⟩)
       ·rw [e] at a;cases a
     ·have r:(if j=i then Er.done else N.s j)=.make f:=E;split at r
      ·cases r
      ·rcases b j g with rfl | rfl | e'
       ·rw [o] at r;cases r
       ·rename_i e;exact absurd rfl e
       ·rw [e'] at r;cases r
    ·rw [e] at a;cases a
  ·rcases Nat.eq_zero_or_pos i with rfl | hp
   ·rw [T.main] at a;cases a
   ·rcases Nat.lt_or_ge i k with hl | hl
    ·rw [(T.rest i hp hl).1] at a;cases a
    ·obtain rfl:i=k:=by have:=T.n;omega
     rw [T.child] at a;cases a
 | cons m ms F=>
  intro N T;have C:=T.pos;have l:N.s k=.send c m (H3 c ms):=T.child;have o:N.s 0=.recv c (GE m (JG c ms)):=T.main;have b:∀i,i<N.n->i=0\/i=k\/N.s i=.done:=λi d=>by
   rcases Nat.eq_zero_or_pos i with e | hp
   ·exact .inl e
   ·rcases Nat.lt_or_ge i k with hl | hl
    ·exact .inr (.inr (T.rest i hp hl).1)
    ·exact .inr (.inl (by have:=T.n;omega))
  refine .plain N (by rw [T.n];omega) ⟨_,.meet (i:=k) (j:=0) (by rw [T.n];omega) (by rw [T.n];omega) Y l o⟩ (λi d=>?_) (λN' u=>?_) (λi f d a=>by rcases b i d with rfl | rfl | e <;> simp_all)
  ·rcases b i d with rfl | rfl | e
   ·rw [o];rfl
   ·rw [l];exact ⟨rfl,T.cl⟩
   ·rw [e];show i≠0;rintro rfl;rw [o] at e;cases e
  ·cases u with
   | hire d a=>rcases b _ d with rfl | rfl | e <;> simp_all
   | shut d a=>rcases b _ d with rfl | rfl | e <;> simp_all
   | hear g a q=>
    rcases b _ g with rfl | rfl | e
    ·rw [o] at a;cases a;rw [T.cl] at q;cases q
    ·rw [l] at a;cases a
    ·rw [e] at a;cases a
   | @meet i j D H nx f d g v a h=>
    have A:i=k:=by
     rcases b _ d with rfl | rfl | e
     ·rw [o] at a;cases a
     ·rfl
     ·rw [e] at a;cases a
    have B:j=0:=by
     rcases b _ g with rfl | rfl | e
     ·rfl
     ·rw [l] at h;cases h
     ·rw [e] at h;cases h
    subst A B;rw [l] at a;cases a;rw [o] at h;cases h;refine F ⟨T.n,C,?_,?_,λj g w=>⟨?_,?_⟩,T.cl⟩
    ·show (if 0=i then _ else if 0=0 then _ else N.s 0)=_;rw [aT Y,aU rfl];show (if m=m then _ else _)=_;rw [aU rfl]
    ·show (if i=i then _ else _)=_;rw [aU rfl]
    ·show (if j=i then _ else if j=0 then _ else N.s j)=_;rw [aT Y,aT Y];exact (T.rest j g w).1
    ·simp only [HQ.meet,or_true,if_true];exact .inr (.inl (T.rest j g w).2)
theorem Vm{c:Nat}{ms:List aQ}{N:HQ aQ}(S:Vl c (.spawn (H3 c ms) (JG c ms)) N):GP (λx=>x=c) N:=by
 obtain ⟨o,m,p,g⟩:=S;have a:∀i,i<N.n->i=0\/N.s i=.done:=λi b=>(Nat.eq_zero_or_pos i).imp id λq=>(p i q b).1;refine .plain N o ⟨_,.hire o m⟩ (λi b=>?_) (λN' r=>?_) (λi f b d=>by rcases a i b with rfl | e <;> simp_all)
 ·rcases a i b with rfl | e
  ·rw [m];trivial
  ·rw [e];show i≠0;rintro rfl;rw [m] at e;cases e
 ·cases r with
  | meet b h t d u=>rcases a _ b with rfl | e <;> simp_all
  | shut b d=>rcases a _ b with rfl | e <;> simp_all
  | hear h d g=>rcases a _ h with rfl | e <;> simp_all
  | @hire i v w b d=>
   rcases a _ b with rfl | e
   ·rw [m] at d;cases d;refine YX (k:=N.n) (ms:=ms) ⟨rfl,o,?_,?_,λj h l=>⟨?_,?_⟩,g⟩
    ·show (if 0=N.n then _ else if 0=0 then _ else _)=_;rw [aT Y,aU rfl]
    ·show (if N.n=N.n then _ else _)=_;rw [aU rfl]
    ·show (if j=N.n then _ else if j=0 then _ else N.s j)=_;rw [aT Y,aT Y];exact (p j h l).1
    ·show (if j=N.n then False else if 0=N.n then _ else N.kn 0 j);rw [aT Y,aT Y];exact (p j h l).2
   ·rw [e] at d;cases d
omit [DecidableEq aQ] in
theorem QS(c:Nat)(ms:List aQ):¬(H3 c ms).isDone:=by cases ms <;> exact id
theorem QT(c:Nat)(ms:List aQ):¬(JG c ms).isDone:=by cases ms <;> exact id
end
end Go.Ns
namespace Go.Ns
open Go.Conc
section
variable (d m:Int) (gs:List Good) (ms:List AD) (cs:List AN)
def LQ(mask:Nat):Option (List Int):=if DK d gs ms (Cd cs (mask:Int) cs.length) m=true then none else some (BG (mask:Int) cs.length)
def Cz(k f:Nat):List (List Int):=(List.range' k f).filterMap (LQ d m gs ms cs)
def Dy:List (List Int):=Cz d m gs ms cs 0 (2 ^ cs.length)
def EN:Int:=if An d m gs ms cs=0 then (if DK d gs ms cs m=true then 0 else if DK d gs ms (Cd cs 0 cs.length) m=true then 0 else 8) else An d m gs ms cs
def FU:List Int:=if An d m gs ms cs=0/\DK d gs ms cs m=false/\DK d gs ms (Cd cs 0 cs.length) m=true then It ((Dy d m gs ms cs).getD 0 []) ((Dy d m gs ms cs).drop 1) else []
end
section
variable {d m:Int} {gs:List Good} {ms:List AD} {cs:List AN}
theorem OY{k f:Nat}(h:DK d gs ms (Cd cs (k:Int) cs.length) m=true):Cz d m gs ms cs k (f+1)=Cz d m gs ms cs (k+1) f:=by
 unfold Cz LQ;rw [List.range'_succ,List.filterMap_cons];simp [h]
theorem OZ{k f:Nat}(h:DK d gs ms (Cd cs (k:Int) cs.length) m=false):Cz d m gs ms cs k (f+1)=BG (k:Int) cs.length ::Cz d m gs ms cs (k+1) f:=by
 unfold Cz LQ;rw [List.range'_succ,List.filterMap_cons];simp [h]
theorem Vn{n i:Nat}(hn:n<=4)(hi:i<n):G8 ((2 ^ n-1:Nat):Int) i=true:=by
 have h:∀n,n<=4->∀i,i<n->G8 ((2 ^ n-1:Nat):Int) i=true:=aC
 exact h n hn i hi
theorem Vo{U:Type}(l:List U)(z:U):(List.range l.length).map (λi=>l.getD i z)=l:=by
 apply List.ext_getElem
 ·simp
 ·intro i b a;simp [List.getD_eq_getElem?_getD,List.getElem?_eq_getElem a]
theorem Vp(h:cs.length<=4):Cd cs ((2 ^ cs.length-1:Nat):Int) cs.length=cs:=by
 unfold Cd;rw [List.filter_eq_self.2 λi a=>Vn h (List.mem_range.1 a)];exact Vo cs AN.z
theorem T0(hcl:cs.length<=4)(h:DK d gs ms cs m=false):Dy d m gs ms cs≠[]:=by
 intro e;unfold Dy Cz at e;rw [List.filterMap_eq_nil_iff] at e;have a:0<2 ^ cs.length:=Nat.pow_pos aC
 have:=e (2 ^ cs.length-1) (List.mem_range'.2 ⟨2 ^ cs.length-1,Y,Y⟩)
 unfold LQ at this;rw [Vp hcl,aT (by rw [h];simp)] at this;cases this
theorem ST(hcl:cs.length<=4):(Dy d m gs ms cs).length<=16:=by
 unfold Dy Cz;refine Nat.le_trans (List.length_filterMap_le _ _) ?_;rw [List.length_range'];exact Nat.pow_le_pow_right (n:=2) aC hcl
theorem Pr(h:¬An d m gs ms cs=0):EN d m gs ms cs=An d m gs ms cs:=by unfold EN;rw [aT h]
theorem Vq(h:¬An d m gs ms cs=0):FU d m gs ms cs=[]:=by unfold FU;rw [aT (λe=>h e.1)]
theorem Oa(h:An d m gs ms cs=0)(h1:DK d gs ms cs m=true):EN d m gs ms cs=0:=by unfold EN;rw [aU h,aU h1]
theorem T1(h1:DK d gs ms cs m=true):FU d m gs ms cs=[]:=by unfold FU;rw [aT (λe=>by rw [h1] at e;cases e.2.1)]
theorem NH(h:An d m gs ms cs=0)(h1:DK d gs ms cs m=false)(h2:DK d gs ms (Cd cs 0 cs.length) m=false):EN d m gs ms cs=8:=by
 unfold EN;rw [aU h,aT (by rw [h1];simp),aT (by rw [h2];simp)]
theorem SU(h2:DK d gs ms (Cd cs 0 cs.length) m=false):FU d m gs ms cs=[]:=by unfold FU;rw [aT (λe=>by rw [h2] at e;cases e.2.2)]
theorem SV(h:An d m gs ms cs=0)(h1:DK d gs ms cs m=false)(h2:DK d gs ms (Cd cs 0 cs.length) m=true):EN d m gs ms cs=0:=by
 unfold EN;rw [aU h,aT (by rw [h1];simp),aU h2]
theorem YY{fl:List Sl}(h:An d m gs ms cs=0)(h1:DK d gs ms cs m=false)(h2:DK d gs ms (Cd cs 0 cs.length) m=true)(hcl:cs.length<=4)(hfl:B4 fl=Dy d m gs ms cs) :
  0<fl.length/\FU d m gs ms cs=It (fl.getD 0 Sl.z).2 (B4 (fl.drop 1)):=by
 have b:=T0 (d:=d) (gs:=gs) (ms:=ms) hcl h1;have a:0<fl.length:=by
  rw [<-C1,hfl];exact List.length_pos_iff.2 b
 refine ⟨a,?_⟩;unfold FU;rw [aU ⟨h,h1,h2⟩,<-hfl,E9 a];congr 1;unfold B4;rw [List.map_drop]
end
theorem Bt.pick{d m:Int}{gs:List Good}{ms:List AD}{cs:List AN}(b:Bt d m gs ms cs)(mask:Int):Bt d m gs ms (Cd cs mask cs.length):=
 { b with
  clen:=Nat.le_trans (QL cs mask _) b.clen
  count:=λk f=>by
   have a:=EF (d:=AN.z) f;generalize g:(Cd cs mask cs.length).getD k AN.z=x at a;unfold Cd at a;obtain ⟨i,h,e⟩:=List.mem_map.1 a;have c:=List.mem_range.1 (List.mem_filter.1 h).1
   have:=b.count i c
   unfold HX at this ⊢;rw [g,<-e];exact this }
theorem B2.flags{h h':L}{l:List Sl}(s:h.Same h')(a:B2 h l):B2 h' l:=λk=>(a k).flags s
def RepL:Nat->List Int->aV->L->Prop:=λ_ l v hm=>AE hm v 1 eI l
def L.part(h:L)(v:aV):L:=λb=>if Bu v=some b then h b else none
def L.rest(h:L)(v:aV):L:=λb=>if Bu v=some b then none else h b
theorem L.split_part(h:L)(v:aV):L.Split h (h.rest v) (h.part v) where
 left:=λb p o a=>by
  unfold L.rest at a;split at a
  ·cases a
  ·exact ⟨p,a,id⟩
 right:=λb p o a=>by
  unfold L.part at a;split at a
  ·exact ⟨p,a,id⟩
  ·cases a
 one:=λr o x c d=>by
  unfold L.rest at c;unfold L.part at d;split at c
  ·cases c
  ·rename_i e;rw [aT e] at d;cases d
 two:=λr o x c d=>by
  unfold L.rest at d;unfold L.part at c;split at d
  ·cases d
  ·rename_i e;rw [aT e] at c;cases c
theorem AM.part{U:Type}{h0 h:L}{v:aV}{t:aW}{n:Nat}{enc:U->Array aV}{xs:List U}(x:AM h0 h v t n enc xs):AE (h.part v) v n enc xs:=
 AM.sl (h0:=h0) (x.keep λb o a c=>by unfold L.part;rw [aU a];exact c)
theorem AM.le_rest{U:Type}{h0 h hb:L}{v:aV}{t:aW}{n:Nat}{enc:U->Array aV}{xs:List U}(x:AM h0 h v t n enc xs)(l:hb.Le h)(l0:hb.Le h0):hb.Le (h.rest v):=λb p o a=>by
 unfold L.rest;rw [aT]
 ·exact l b p o a
 ·intro e;rcases x with ⟨rfl,_⟩ | ⟨d,f,c,rfl,f0,_⟩
  ·cases e
  ·have:d=b:=by simpa [Bu] using e
   subst this
   have:=l0.keep a rfl
   rw [f0] at this;cases this
theorem AE.join{U:Type}{h hm:L}{v:aV}{n:Nat}{enc:U->Array aV}{xs:List U}(x:AE hm v n enc xs)(c:h.Compat hm):AE (h.join hm) v n enc xs:=x.flags λb p o a=>by
 unfold L.join;cases e:h b with
 | none=>exact ⟨p,a⟩
 | some y=>obtain ⟨q,d⟩:=y;obtain ⟨rfl,rfl,rfl⟩:=c b q d p o e a;exact ⟨false,rfl⟩
theorem L.Compat.le{a h hm:L}(l:a.Le h)(c:h.Compat hm):a.Compat hm:=λb p o q d x y=>c b p o q d (l.keep x rfl) y
theorem L.Le.joins{a h hm:L}(l:a.Le h)(c:h.Compat hm):(a.join hm).Le (h.join hm):=λb p o d=>by
 unfold L.join at d ⊢;cases e:a b with
 | some x=>rw [e] at d;cases d;rw [l.keep e rfl];exact ⟨o,rfl,.inl rfl⟩
 | none=>
  rw [e] at d;cases f:h b with
  | none=>exact ⟨o,d,.inl rfl⟩
  | some y=>obtain ⟨q,g⟩:=y;obtain ⟨rfl,rfl,rfl⟩:=c b q g p o f d;exact ⟨_,rfl,.inl rfl⟩
theorem AM.joins{U:Type}{h0 h hm:L}{v:aV}{t:aW}{n:Nat}{enc:U->Array aV}{xs:List U}(x:AM h0 h v t n enc xs)(c:h.Compat hm):AM (h0.join hm) (h.join hm) v t n enc xs:=by
 rcases x with x | ⟨b,a,d,rfl,f0,f1,f2⟩
 ·exact .inl x
 ·refine .inr ⟨b,a,d,rfl,?_,?_,f2⟩
  ·unfold L.join;rw [f0];cases e:hm b with
   | none=>rfl
   | some y=>obtain ⟨q,f⟩:=y;have:=(c b _ _ q f f1 e).1;cases this
  ·unfold L.join;rw [f1]
section
variable {P:Program} {aQ:Type} {F:Pp P aQ} {i i':Option (Er aQ)} {O:Nat->aV} {ds:List Deferred} {h:L} {Q:Tw aQ}
theorem trI_ix{c:Code}(e:i=i')(x:Kp F c i' O ds h Q):Kp F c i O ds h Q:=e▸x
theorem Xg{ops:Array Oper}{l:List Oper}(e:i=i')(x:LM F ops l i' O ds h Q):LM F ops l i O ds h Q:=e▸x
theorem YZ{c:Code}{Q:Post}(x:Kp F c none O ds h λi e O ds h=>i=none/\Q e O ds h):Tr ⟨F.W,F.fn,F.rd,F.N⟩ c O ds h Q:=by
 intro b k f g t j l m n o;refine x b k f (λi=>match i with | none=>g | some _=>λ_ _ _ _=>False) t j l (λi=>?_) n λi e σ' a p q r d=>?_
 ·cases i with
  | none=>exact m
  | some s=>exact ⟨λ_ _ _ x=>x.elim,λ_ _ _ _ x=>x.elim,λ_ _ _ _ _ _ x=>x.elim⟩
 ·obtain ⟨rfl,q⟩:=q;exact o e σ' a p q r d
theorem trI_end{c:Code}{Q:Post}(x:Tr (F.env none) c O ds h Q):Kp F c none O ds h λi e O ds h=>i=none/\Q e O ds h:=
 H2 (NP (λ_ _ _ _ q=>⟨rfl,q⟩) x)
variable {dst:Option Nat} {ty:aW} {pos:String} {af:Array Edge} {gd:Option (Nat×Bool)}
theorem run_send{a x:Operand}{c:Nat}{v:aV}(ha:AL O a=.chan (some c))(hx:AL O x=v)(w:World):(execOp (AL O) ⟨dst,.send a x,ty,pos,af,gd⟩).runT P w #[]=(.ok (.comm #[scase c v (.tuple #[])] true .send) w,#[]):=by
 subst hx;show (Result.ok (Next.comm #[{ chan:=AL O a,send:=some (AL O x),zero:=.tuple #[] }] true .send) w,#[])=_;rw [ha];rfl
theorem run_recv{a:Operand}{c:Nat}{t e:aW}{d:ChanDir}{ok:Bool}{z:aV}{inf:TypeInfo}(ht:P.underlying t=some (.chan d e))(hi:P.info? e=some inf)(hz:inf.zero=some z)(ha:AL O a=.chan (some c))(w:World) :
  (execOp (AL O) ⟨dst,.recv t a ok,ty,pos,af,gd⟩).runT P w #[]=(.ok (.comm #[rcase c z] true (.recv ok)) w,#[]):=by
 have b:(zeroValue e).run P w=.ok z w:=by
  unfold zeroValue typeInfo;simp only [Sem.run_bind,program,hi];simp [Sem.run,hi,hz]
 have f:(underlying t).run P w=.ok (.chan d e) w:=run_underlying ht w;rw [Sem.runT_eq];unfold execOp;simp [b,f,ha,rcase]
theorem QU{a:Operand}{c:Nat}{t e:aW}{d:ChanDir}{ok:Bool}{z:aV}(ht:P.underlying t=some (.chan d e))(hz:(P.info? e).map (·.zero)=some (some z))(ha:AL O a=.chan (some c))(w:World) :
  (execOp (AL O) ⟨dst,.recv t a ok,ty,pos,af,gd⟩).runT P w #[]=(.ok (.comm #[rcase c z] true (.recv ok)) w,#[]):=by
 obtain ⟨b,f,g⟩:=Option.map_eq_some_iff.1 hz;exact run_recv ht f g ha w
theorem run_go{x:Operand}{f:Fn}{cap:Array aV}{tys:Array aW}(hx:AL O x=.func f #[] cap)(w:World):(execOp (AL O) ⟨dst,.go ⟨.value x,#[],tys⟩,ty,pos,af,gd⟩).runT P w #[]=(.ok (.spawn { target:=.fn f cap,args:=#[] }) w,#[]):=by
 have e:resolve (AL O) ⟨.value x,#[],tys⟩ ty=(pure { target:=.fn f cap,args:=#[] }:Sem Deferred):=by
  unfold resolve;simp only [hx,Deferred.ofValue];simp
 unfold execOp;simp only [e];rfl
variable {E:Fb P} {T:(Nat->aV)->List Deferred->L->Prop}
theorem T3{t e:aW}{d:ChanDir}{n:Operand}(ht:P.underlying t=some (.chan d e))(hi0:(P.info? e).isSome=true)(hn:AL O n=.int .i64 0)
  (k:∀r h',h r=none->h.Le h'->h' r=some (true,.chan 0 #[] false 0 0 false)->(∀b,b≠r->h' b=h b)->T (putS O dst (.chan (some r))) ds h'):BK E ⟨dst,.makeChan t n,ty,pos,af,gd⟩ O ds h T:=by
 unfold BK execOp;refine El ?_;unfold Instr.makeChan;rw [hn];refine AC _ _ (Ah ?_);refine AC _ _ (Aa ht ?_);simp only [];obtain ⟨c,f⟩:=Option.isSome_iff_exists.1 hi0;refine AC _ _ (CE f ?_);rw [aT (by simp [IntKind.max];decide)];refine AC _ _ ?_;exact λr a=>k r _ a (L.Le.new a _ _) (L.set_same _ _ _ _) λb g=>L.set_ne _ _ _ g
theorem trL_def{ops:Array Oper}{l:List Oper}{o:Oper}{Q:Post}(hg:o.guard=none)(hrd:E.rd=none)(hd:C9 o.dst E.N=true)(x:BK E o O ds h λσ' ds' h'=>C5 E ops l σ' ds' h' Q):C5 E ops (o ::l) O ds h Q:=
 trL_op hg (.inl hrd) hd x
theorem Ps{x:Operand}{c:Nat}{tys:Array aW}{bs:Array Bool}(hx:AL O x=.chan (some c))(hb:(#[x].map fun | .const _=>true | _=>false)=bs)(k:T (putS O dst undef) (KV tys ty bs c ::ds) h) :
  BK E ⟨dst,.defer ⟨.builtin .close,#[x],tys⟩,ty,pos,af,gd⟩ O ds h T:=by
 unfold BK execOp;simp only [];refine AC _ _ ?_;unfold resolve;simp only [];refine Ah (Ah ?_);have e:(#[x].map (AL O):Array aV)=#[.chan (some c)]:=by simp [hx]
 rw [e];subst hb;exact k
end
section
variable {d m:Int} {gs:List Good} {ms:List AD} {cs:List AN} {k c:Nat}
theorem Vr(hk:k<2 ^ cs.length)(h:DK d gs ms (Cd cs (k:Int) cs.length) m=true) :
  some (H3 c (Cz d m gs ms cs k (2 ^ cs.length-k)))=some (H3 c (Cz d m gs ms cs (k+1) (2 ^ cs.length-(k+1)))):=by
 rw [show 2 ^ cs.length-k=(2 ^ cs.length-(k+1))+1 by omega,OY h]
theorem Vs(hk:k<2 ^ cs.length)(h:DK d gs ms (Cd cs (k:Int) cs.length) m=false) :
  some (H3 c (Cz d m gs ms cs k (2 ^ cs.length-k)))=some (.send c (BG (k:Int) cs.length) (H3 c (Cz d m gs ms cs (k+1) (2 ^ cs.length-(k+1))))):=by
 rw [show 2 ^ cs.length-k=(2 ^ cs.length-(k+1))+1 by omega,OZ h];rfl
theorem Ya(hk:2 ^ cs.length<=k):some (H3 c (Cz d m gs ms cs k (2 ^ cs.length-k)))=some (.close c .done):=by
 rw [show 2 ^ cs.length-k=0 by omega];rfl
theorem T4(h:(k:Int)<(2:Int) ^ ((cs.length:Int)).toNat):k<2 ^ cs.length:=by
 have:=SR cs.length
 rw [Int.toNat_natCast] at h;omega
theorem clash_ge(h:¬(k:Int)<(2:Int) ^ ((cs.length:Int)).toNat):2 ^ cs.length<=k:=by
 have:=SR cs.length
 rw [Int.toNat_natCast] at h;omega
end
end Go.Ns
namespace Go.Ns
theorem T5{d m:Int}{gs:List Good}{ms:List AD}{cs:List AN}(b:Bt d m gs ms cs):An d m gs ms cs=0:=by
 unfold An;refine FC λj _ a=>?_
 have:j=0\/j=1\/j=2\/j=3:=Y
 rcases this with rfl | rfl | rfl | rfl
 ·show F9 d m=0;unfold F9;have:=b.days;have:=b.most;rw [aT Y]
 ·show Dv gs=0;unfold Dv;have:=b.glen;rw [aT Y];exact FC λj _ a=>b.good j Y
 ·show DG d gs ms=0;unfold DG;have:=b.mlen;rw [aT Y];exact FC λj _ a=>b.move j Y
 ·show Dj d gs cs=0;unfold Dj;have:=b.clen;rw [aT Y];exact FC λj _ a=>b.count j Y
section
variable {d m:Int} {gs:List Good} {ms:List AD} {cs:List AN}
end
section
variable {d m:Int} {gs:List Good} {ms:List AD} {cs:List AN} {picks:List Int} {bits:Int}
end
end Go.Ns
namespace Go.Ns
open Go.Conc
section
variable {P:Program} {E:Fb P} {O:Nat->aV} {ds:List Deferred} {h:L} {T:(Nat->aV)->List Deferred->L->Prop} {dst:Option Nat} {ty:aW} {pos:String} {af:Array Edge} {gd:Option (Nat×Bool)}
end
section
variable {d m:Int} {gs:List Good} {ms:List AD} {cs:List AN}
end
theorem B2.cons{h:L}{l:List Sl}{v:aV}{xs:List Int}(a:AE h v 1 eI xs)(b:B2 h l):B2 h ((v,xs) ::l):=λk=>by
 cases k with
 | zero=>exact a
 | succ k=>exact b k
theorem Vt{a b:List Sl}{k:Nat}(h:(B4 a).take k=(B4 b).take k)(ha:k<a.length)(hb:k<b.length)(e:(a.getD k Sl.z).2=(b.getD k Sl.z).2):(B4 a).take (k+1)=(B4 b).take (k+1):=
 N6 [] h (by rw [C1];exact ha) (by rw [C1];exact hb) (by rw [E9 ha,E9 hb,e])
theorem Yb{a b:List Sl}{k:Nat}(h:(B4 a).take k=(B4 b).take k)(hk:¬(k:Int)<a.length)(hl:(a.length:Int)=b.length):B4 a=B4 b:=by
 rw [List.take_of_length_le (by rw [C1];omega),List.take_of_length_le (by rw [C1];omega)] at h;exact h
theorem lists_ne{a b:List Sl}(h:¬(a.length:Int)=b.length):¬B4 a=B4 b:=λe=>h (by rw [<-C1,<-C1,e])
theorem Vu{a b:List Sl}{k:Nat}(ha:k<a.length)(hb:k<b.length)(e:¬(a.getD k Sl.z).2=(b.getD k Sl.z).2):¬B4 a=B4 b:=λq=>e (by rw [<-E9 ha,<-E9 hb,q])
end Go.Ns
namespace Go.Ns
open Go.Conc
def DD:List Good:=[⟨⟨#[116,101,97]⟩,5,4,3,3⟩,⟨⟨#[114,105,99,101]⟩,2,10,5,6⟩]
def DM:List AD:=[⟨0,0,2,4,4⟩,⟨1,0,3,2,3⟩,⟨2,1,4,0,1⟩,⟨0,1,5,10,10⟩]
def DN:List AN:=[⟨0,10,4,5⟩,⟨1,10,5,5⟩]
theorem Dz:∀k,(DD.getD k Good.z).name.size<=1000
 | 0=>aC
 | 1=>aC
 | k+2=>by rw [CM (by simp [DD])];decide
theorem fill_sl7{v0 v1 v2 v3 v4 v5 v6:aV}(h0:v0.cells=#[v0])(h1:v1.cells=#[v1])(h2:v2.cells=#[v2])(h3:v3.cells=#[v3])(h4:v4.cells=#[v4])(h5:v5.cells=#[v5])(h6:v6.cells=#[v6]):Instr.fill (λi=>some (i*1,1)) ((Array.range (7*1)).map (#[Value.slice none 0 0][·% #[Value.slice none 0 0].size]!)) [(0,v0),(1,v1),(2,v2),(3,v3),(4,v4),(5,v5),(6,v6)]=some #[v0,v1,v2,v3,v4,v5,v6]:=by
 have e:((Array.range (7*1)).map (#[Value.slice none 0 0][·% #[Value.slice none 0 0].size]!))=#[Value.slice none 0 0,Value.slice none 0 0,Value.slice none 0 0,Value.slice none 0 0,Value.slice none 0 0,Value.slice none 0 0,Value.slice none 0 0]:=aB
 rw [e];simp [Instr.fill,h0,h1,h2,h3,h4,h5,h6]
theorem AE.isSl{U:Type}{h:L}{v:aV}{n:Nat}{enc:U->Array aV}{xs:List U}(x:AE h v n enc xs):∀k i,v≠.int k i:=by
 obtain ⟨a,b,rfl,_⟩:=x;intro k i e;cases e
theorem AE.across{h h':L}{v:aV}{xs:List Int}{r:Nat}{a b c:aV}{T:aW}(x:AE h v 1 eI xs)(hb:h r=some (true,.cells #[.int .i64 10,.int .i64 1,a,b,c] T (0,0)))(ho:∀y,y≠r->h' y=h y)
  (ha:∀k i,a≠.int k i) (hb':∀k i,b≠.int k i) (hc:∀k i,c≠.int k i) (hx:∀o,o<5->∃i:Fin xs.length,(o+i.val=0->xs[i.val]≠10)/\(o+i.val=1->xs[i.val]≠1)):AE h' v 1 eI xs:=by
 obtain ⟨K,u,N,l,O,B⟩:=x;refine ⟨K,u,N,l,O,λi C=>?_⟩;obtain ⟨y,e,D,P⟩:=B i C;refine ⟨y,e,D,P.same (ho y ?_)⟩;rintro rfl;have m:∀j (n:j<xs.length),e+j<5/\(#[Value.int .i64 10,.int .i64 1,a,b,c]:Array aV).extract (e+j) (e+j+1)=eI xs[j]:=λj n=>by
  obtain ⟨S,E,w,Q⟩:=B j n;rw [D] at w;simp only [Option.some.injEq,Addr.mk.injEq,and_true] at w;obtain ⟨rfl,rfl⟩:=w;obtain ⟨p,U,t,f,A,F,H⟩:=Q;rw [hb] at A;simp only [Option.some.injEq,Prod.mk.injEq,Obj.cells.injEq] at A;obtain ⟨_,rfl,_⟩:=A;rw [Nat.mul_one] at F H;exact ⟨by simp at F;omega,H⟩
 obtain ⟨⟨j,n⟩,q,s⟩:=hx e (by have:=(m i C).1;omega);obtain ⟨R,g⟩:=m j n;simp only at q s;generalize e+j=o at R g q s;generalize xs[j]=z at g q s
 have:o=0\/o=1\/o=2\/o=3\/o=4:=Y
 rcases this with rfl | rfl | rfl | rfl | rfl
 ·have d:(#[.int .i64 10]:Array aV)=#[.int .i64 z]:=g;simp at d;exact q rfl d.symm
 ·have d:(#[.int .i64 1]:Array aV)=#[.int .i64 z]:=g;simp at d;exact s rfl d.symm
 ·have d:(#[a]:Array aV)=#[.int .i64 z]:=g;simp at d;exact ha _ _ d
 ·have d:(#[b]:Array aV)=#[.int .i64 z]:=g;simp at d;exact hb' _ _ d
 ·have d:(#[c]:Array aV)=#[.int .i64 z]:=g;simp at d;exact hc _ _ d
def Xh(d m:Int)(gs:List Good)(ms:List AD)(cs:List AN):Int:=if An d m gs ms cs=0 then ((AU d gs ms cs m).length:Int) else 0
end Go.Ns
namespace Go.Ns
open Go.Conc
section
variable {P:Program} {E:Fb P} {O:Nat->aV} {ds:List Deferred} {h:L} {T:(Nat->aV)->List Deferred->L->Prop} {dst:Option Nat} {ty:aW} {pos:String} {af:Array Edge} {gd:Option (Nat×Bool)}
end
section
variable {d m:Int} {gs:List Good} {ms:List AD} {cs:List AN} {f y l:List Int}
end
end Go.Ns
namespace Go.Ns
open Go.Conc
section
variable {P:Program} {E:Fb P} {O:Nat->aV} {ds:List Deferred} {h:L} {T:(Nat->aV)->List Deferred->L->Prop} {dst:Option Nat} {ty:aW} {pos:String} {af:Array Edge} {gd:Option (Nat×Bool)}
end
end Go.Ns
namespace Go.Ns
open Go.Conc Go Go.RowKit
section
variable {d m:Int} {gs:List Good} {ms:List AD} {cs:List AN}
end
section
variable {P:Program} {E:Fb P} {O:Nat->aV} {ds:List Deferred} {h:L} {T:(Nat->aV)->List Deferred->L->Prop} {dst:Option Nat} {ty:aW} {pos:String} {af:Array Edge} {gd:Option (Nat×Bool)}
end
end Go.Ns
namespace Go.Ns
open Go.Conc Go Go.RowKit
end Go.Ns
namespace Go.Ns
open Go.Conc
end Go.Ns
namespace Go.Ns
open Go.Conc Go Go.RowKit
section
variable {d m:Int} {gs:List Good} {ms:List AD} {cs:List AN}
end
section
variable {d m:Int} {gs:List Good} {ms:List AD} {cs:List AN}
end
end Go.Ns
namespace Go.Ns
open Go.Conc
section
variable {d m:Int} {gs:List Good} {ms:List AD} {cs:List AN}
end
end Go.Ns
namespace Go.Ns
open Go.Conc
end Go.Ns
namespace Go.Ns
open Go.Conc
section
variable {d m:Int} {gs:List Good} {ms:List AD} {cs:List AN}
end
end Go.Ns
namespace Go.Ns
open Go.Conc
section
variable {P:Program} {E:Fb P} {O:Nat->aV} {ds:List Deferred} {h:L} {T:(Nat->aV)->List Deferred->L->Prop}
variable {dst:Option Nat} {ty:aW} {pos:String} {af:Array Edge} {gd:Option (Nat×Bool)}
def Ob(P:Program)(e:aW):Option Nat:=(P.info? e).map (·.bytes)
theorem SW(z:aV)(n:Nat):(Array.range n).map (λi=>(#[z]:Array aV)[i%(#[z]:Array aV).size]!)=Array.replicate n z:=by
 apply Array.ext
 ·simp
 ·intro i a b;simp [Nat.mod_one]
theorem SX{t:aW}{l c:Operand}{N by_:Nat}{z:aV}{e:aW}(hs:Dr P t=some (1,#[z],e))(hby:Ob P e=some by_)(hl:AL O l=.int .i64 N)(hc:AL O c=.int .i64 N)(hN:0<N)(hb:by_*N<=281474976710656)(hN2:N<=16777216)
  (k:∀r h',h r=none->h.Le h'->h' r=some (true,.cells (Array.replicate N z) e (0,0))->(∀b,b≠r->h' b=h b)->T (putS O dst (.slice (some ⟨r,0,none⟩) N N)) ds h'):BK E ⟨dst,.makeSlice t l c,ty,pos,af,gd⟩ O ds h T:=by
 unfold BK execOp;refine El ?_;unfold Dr at hs;unfold Instr.makeSlice;rw [hl,hc];cases n:P.underlying t with
 | none=>rw [n] at hs;cases hs
 | some d=>
  rw [n] at hs;cases d <;> first | (cases hs;done) | skip
  rename_i o
  simp only at hs;cases g:Bh P o with
  | none=>rw [g] at hs;cases hs
  | some x=>
   cases a:BT P o with
   | none=>rw [g,a] at hs;cases hs
   | some B=>
    rw [g,a] at hs;simp only [Option.some.injEq,Prod.mk.injEq] at hs;obtain ⟨p,rfl,rfl⟩:=hs;refine AC _ _ (Aa n ?_);refine AC _ _ (Ah ?_);refine AC _ _ (Ah ?_);unfold Ob at hby;unfold BT at a;cases j:P.info? o with
    | none=>rw [j] at a;cases a
    | some i=>
    rw [j] at a hby;simp only [Option.map_some,Option.some.injEq] at hby;simp only [Option.map_eq_some_iff] at a;obtain ⟨v,w,s⟩:=a;refine AC _ _ (CE j ?_);have y:IntKind.i64.wrap (N:Int)=N:=IntWalk.i64_in _ Y;simp only [y,hby];have A:((by_:Int)*(N:Int))<=281474976710656:=by rw [<-Int.natCast_mul];exact Int.ofNat_le.2 hb
    rw [aT (by simp;omega)];simp only [Int.toNat_natCast];have f:∀(m:Nat)(Q:Unit->L->Prop),Q () h->(askRoom m).gh P h Q:=λm Q q=>by
     unfold askRoom;split
     ·exact ⟨rfl,q⟩
     ·exact q
    refine AC _ _ (f _ _ ?_);refine AC _ _ (E5 (by rw [g];rfl) ?_);dsimp only;rw [p,Nat.mul_one,aT Y];unfold zeroValue;refine AC _ _ (AC _ _ (AC _ _ (CE j ?_)));rw [w];refine Ah ?_;refine AC _ _ (Ah ?_);rw [s,SW];refine AC _ _ ?_;unfold newRow;refine AC _ _ (λr u=>?_);exact k r _ u (L.Le.new u _ _) (L.set_same _ _ _ _) λb hb=>L.set_ne _ _ _ hb
theorem JH{U:Type}{enc:U->Array aV}{x:U}{z:aV}(he:enc x=#[z]):∀N:Nat,Cw enc (List.replicate N x)=List.replicate N z
 | 0=>rfl
 | N+1=>by
  have:=JH he N
  unfold Cw at this ⊢;rw [List.replicate_succ,List.flatMap_cons,this,he];rfl
theorem AM.made{U:Type}{h h':L}{r N:Nat}{t:aW}{enc:U->Array aV}{x:U}{z:aV}(hr:h r=none)(hb:h' r=some (true,.cells (Array.replicate N z) t (0,0)))(hN:N<=16777216)(he:enc x=#[z]) :
  AM h h' (.slice (some ⟨r,0,none⟩) N N) t 1 enc (List.replicate N x):=
 .inr ⟨r,N,_,by rw [List.length_replicate],hr,hb,aD,aD,by rw [List.length_replicate];omega,by rw [JH he,List.length_replicate,Nat.mul_one];simp,λy a=>by rw [(List.mem_replicate.1 a).2,he];rfl⟩
end
section
variable {d m:Int} {gs:List Good} {ms:List AD} {cs:List AN}
end
end Go.Ns
namespace Go.Ns
open Go.Conc
section
variable {d m:Int} {gs:List Good} {ms:List AD} {cs:List AN}
end
end Go.Ns
namespace Go.Ns
open Go.Conc
section
variable {d m:Int} {gs:List Good} {ms:List AD} {cs:List AN} {t:Nat}
end
section
variable {d m:Int} {gs:List Good} {ms:List AD} {cs:List AN} {t:Nat}
end
section
variable {d m:Int} {gs:List Good} {ms:List AD} {cs:List AN} {t:Nat}
end
section
variable {d m:Int} {gs:List Good} {ms:List AD} {cs:List AN} {t:Nat}
end
end Go.Ns
namespace Go.Ns
open Go.Conc
theorem ba_refl(a:aX):(a==a)=true:=by
 cases a with
 | mk d=>show (d==d)=true;simp
section
variable {d m:Int} {gs:List Good} {ms ms2:List AD} {cs cs2:List AN}
end
end Go.Ns
namespace Go.Ns
open Go.Conc
section
variable {ms:List AD} {cs:List AN} {f y l:List Int}
end
section
variable {d m:Int} {gs:List Good} {ms:List AD} {cs:List AN}
end
end Go.Ns
namespace Go.Ns
open Go.Conc
section
variable {d m:Int} {gs:List Good} {ms:List AD} {cs:List AN} {kd g n:Int}
end
end Go.Ns
namespace Go.Ns
open Go.Conc
section
variable {d m:Int} {gs:List Good} {ms:List AD} {cs:List AN}
end
end Go.Ns
namespace Go.Ns
open Go.Conc
section
variable {U:Type} {h h' h0:L} {v v':aV} {t t':aW} {n:Nat} {enc:U->Array aV} {ys:List U}
end
theorem Oc{P:Program}{E:Fb P}{O:Nat->aV}{ds:List Deferred}{h:L}{T:(Nat->aV)->List Deferred->L->Prop}{dst:Option Nat}{ty:aW}{pos:String}{af:Array Edge}{gd:Option (Nat×Bool)}{U:Type}
  {s x:aW} {o1 o2:Operand} {h0:L} {w:aV} {r e n bytes:Nat} {enc:U->Array aV} {ys:List U} (ht:J4 P s x=some (e,n,bytes)) (h1:AL O o1=.slice (some ⟨r,0,none⟩) 0 0) (h2:AL O o2=w)
  (hv:AM h0 h (.slice (some ⟨r,0,none⟩) 0 0) e n enc ([]:List U)) (hw:AE h w n enc ys) (l0:∀q,h q=none->h0 q=none) (hb:(2*(([]:List U).length+ys.length)+512)*bytes<=2 ^ 48) (hfine:∀y ∈ ys,(enc y).toList.all (·.oneCell')=true)
  (k:∀v' h',AM h0 h' v' e n enc ys->G0 h h' (.slice (some ⟨r,0,none⟩) 0 0) v'->h.Le h'->T (putS O dst v') ds h'):BK E ⟨dst,.call ⟨.builtin .append,#[o1,o2],#[s,x]⟩,ty,pos,af,gd⟩ O ds h T:=
 Nv ht h1 h2 hv hw l0 hb hfine λv' h' o a f g=>k v' h' o ⟨a,f⟩ (.of λb y hb=>by
  by_cases e:b=r
  ·subst e;rcases hv with ⟨q,_⟩ | ⟨m,i,c,q,_,d,p,_⟩
   ·cases q
   ·simp only [Value.slice.injEq,Option.some.injEq,Addr.mk.injEq,and_true] at q;obtain ⟨rfl,_,rfl⟩:=q;obtain ⟨j,l,t⟩:=g b c rfl d;rw [d] at hb;cases hb;rw [l,Array.eq_empty_of_size_eq_zero (show c.size=0 by omega),Array.eq_empty_of_size_eq_zero (show j.size=0 by omega)]
  ·exact a b y hb λq=>e (by simpa [Bu] using q.symm))
theorem LR{U:Type}(z:U)(a b:List U)(k:Nat):(a++b).getD k z=if k<a.length then a.getD k z else b.getD (k-a.length) z:=by
 simp only [List.getD_eq_getElem?_getD,List.getElem?_append];split <;> rfl
structure PS where
 f:Sl
 y:Sl
 l:Sl
def PS.z:PS:=⟨Sl.z,Sl.z,Sl.z⟩
def Ei(x:Int×Int):Array aV:=#[.int .i64 x.1,.int .i64 x.2]
end Go.Ns
namespace Go.Ns
open Go.Conc
section
variable {P:Program} {E:Fb P} {O:Nat->aV} {ds:List Deferred} {h:L} {T:(Nat->aV)->List Deferred->L->Prop} {dst:Option Nat} {ty:aW} {pos:String} {af:Array Edge} {gd:Option (Nat×Bool)}
theorem Pu{t:aW}{x o:Operand}{m n b off hi:Nat}(ht:Iq P t=some (m,n))(hx:AL O x=.pointer (some ⟨b,off,none⟩))(ho:∃kd,AL O o=.int kd hi)(h2:hi<=m)(k:T (putS O dst (.slice (some ⟨b,off,none⟩) hi m)) ds h) :
  BK E ⟨dst,.slice t x none (some o) none,ty,pos,af,gd⟩ O ds h T:=by
 obtain ⟨kd,e⟩:=ho;unfold BK execOp;simp only [hx];refine El ?_;unfold Iq at ht;unfold Instr.sliceAt;cases a:P.underlying t with
 | none=>rw [a] at ht;cases ht
 | some d=>
  rw [a] at ht;cases d <;> first | (cases ht;done) | skip
  rename_i f
  simp only [Option.map_eq_some_iff,Prod.mk.injEq] at ht;obtain ⟨g,c,rfl,rfl⟩:=ht;refine AC _ _ (Aa a ?_);dsimp only;refine AC _ _ (Ah ?_);unfold Instr.sliceBounds;simp only [Option.map_some,Option.map_none,e,Bool.false_eq_true,↓reduceIte];refine AC _ _ (AC _ _ (Ah (AC _ _ (CP Y Y (AC _ _ (Ah (Ah ?_)))))));refine AC _ _ (DE c (Ah ?_));simp only [Nat.sub_zero,Nat.zero_mul,Hk,Nat.add_zero,ite_self,Int.toNat_natCast];exact k
end
theorem SY{b:Bool}(h:(!b)=true):b=false:=by simpa using h
theorem KW{b:Bool}(h:(!b)=false):b=true:=by simpa using h
def D0:Nat->List Int
 | 0=>[]
 | k+1=>D0 k++[(k:Int)]
theorem Fq:∀n,(D0 n).length=n
 | 0=>rfl
 | n+1=>by rw [D0,List.length_append,Fq n];rfl
theorem JI{x:Int}:∀{n:Nat},x ∈ D0 n->0<=x/\x<n
 | 0,h=>by cases h
 | n+1,h=>by
  rcases List.mem_append.1 h with q | q
  ·have:=JI q;omega
  ·have:=List.mem_singleton.1 q;omega
theorem LS:∀n,(D0 n).Nodup
 | 0=>List.nodup_nil
 | n+1=>by
  rw [D0,List.nodup_append];refine ⟨LS n,aD,λx a y b e=>?_⟩
  have:=JI a
  have:=List.mem_singleton.1 b
  omega
end Go.Ns
namespace Go.Ns
def Bs(l:List Int):Array aV:=#[.int .i64 (l.getD 0 0),.int .i64 (l.getD 1 0),.int .i64 (l.getD 2 0),.int .i64 (l.getD 3 0)]
theorem Db(l:List Int):(Value.agg (Bs l)).cells.size=4:=rfl
theorem Dc(l:List Int):Value.fine (.agg (Bs l))=true:=rfl
theorem EP(l:List Int):0+4<=(Bs l).size:=Nat.le_refl 4
theorem EQ(l m:List Int):BD (Bs l) 0 (Value.agg (Bs m)).cells.toList=Bs m:=by
 simp [Value.cells,Bs,BD]
theorem Xi{l:List Int}{i:Nat}(h:i<4):(Bs l)[0+i*1]? =some (.int .i64 (l.getD i 0)):=by
 match i,h with
 | 0,_=>rfl
 | 1,_=>rfl
 | 2,_=>rfl
 | 3,_=>rfl
theorem m4_sl{h:L}{r n:Nat}{p:Bool}{l:List Int}{t:aW}{f:Nat×Nat}(hb:h r=some (p,.cells (Bs l) t f))(hl:l.length<=4)(hn:n=l.length):AE h (.slice (some ⟨r,0,none⟩) n 4) 1 eI l:=by
 subst hn;refine ⟨some ⟨r,0,none⟩,4,rfl,hl,Y,λi a=>⟨r,0,rfl,p,_,t,f,hb,?_,?_⟩⟩
 ·show 0+i*1+1<=4;omega
 ·rw [<-Ey 0 a];have b:i<4:=Y
  match i,b with
  | 0,_=>rfl
  | 1,_=>rfl
  | 2,_=>rfl
  | 3,_=>rfl
theorem m4_copy{l:List Int}(h:l.length<=4):BD (Bs []) 0 (Cw eI l)=Bs l:=by
 match l,h with
 | [],_=>rfl
 | [a],_=>rfl
 | [a,b],_=>rfl
 | [a,b,c],_=>rfl
 | [a,b,c,d],_=>rfl
end Go.Ns
namespace Go.Ns
structure Ab where
 price:Int
 pv:aV
 paid:List Int
 seen:Int
structure CQ where
 kind:Int
 low:Int
 high:Int
def CI(x:Ab):Array aV:=#[.int .i64 x.price,x.pv,.int .i64 x.seen]
def DB(x:CQ):Array aV:=#[.int .i64 x.kind,.int .i64 x.low,.int .i64 x.high]
def Ab.z:Ab:=⟨0,.slice none 0 0,[],0⟩
def CQ.z:CQ:=⟨0,0,0⟩
def Bw(h:L)(sa:List Ab):Prop:=∀k,AE h (sa.getD k Ab.z).pv 1 eI (sa.getD k Ab.z).paid
theorem Bw.le{h h':L}{sa:List Ab}(x:Bw h sa)(l:h.Le h'):Bw h' sa:=λk=>(x k).le l
def Dd(ks cs:List Int):Nat->Int
 | 0=>0
 | n+1=>Dd ks cs n+ks.getD n 0*cs.getD n 0
def CV(ks cs:List Int):Int:=Dd ks cs ks.length
theorem LT{a b A B:Int}(ha:0<=a/\a<=A)(hb:0<=b/\b<=B):0<=a*b/\a*b<=A*B:=
 ⟨Int.mul_nonneg ha.1 hb.1,Int.mul_le_mul ha.2 hb.2 hb.1 (Int.le_trans ha.1 ha.2)⟩
theorem Jo{ks cs:List Int}(hk:∀i,0<=ks.getD i 0/\ks.getD i 0<=500)(hc:∀i,0<=cs.getD i 0/\cs.getD i 0<=30):∀n,0<=Dd ks cs n/\Dd ks cs n<=15000*(n:Int)
 | 0=>⟨Int.le_refl _,Int.le_refl _⟩
 | n+1=>by
  have:=Jo hk hc n
  have:=LT (hk n) (hc n)
  unfold Dd;omega
def SZ(ks:List Int)(i:Nat):Prop:=(1<=ks.getD i 0/\ks.getD i 0<=500)/\(0<i->ks.getD i 0<ks.getD ((i:Int)-1).toNat 0)
def Sa(dr:List (Int×Int))(i:Nat):Prop:=((0<=(dr.getD i (0,0)).1/\(dr.getD i (0,0)).1<=(dr.getD i (0,0)).2)/\(dr.getD i (0,0)).2<=9)/\(dr.getD i (0,0)).2-(dr.getD i (0,0)).1<2
def MD(l:List Int):Prop:=∀j,j<l.length->0<=l.getD j 0/\l.getD j 0<=3
def SaleOK(ks:List Int)(sa:List Ab)(k:Nat):Prop:=
 (sa.getD k Ab.z).paid.length=ks.length/\MD (sa.getD k Ab.z).paid/\(0<=(sa.getD k Ab.z).price/\(sa.getD k Ab.z).price<=999)/\¬CV ks (sa.getD k Ab.z).paid<(sa.getD k Ab.z).price/\(0<=(sa.getD k Ab.z).seen/\(sa.getD k Ab.z).seen<=2)
def LU(n:Nat)(x:Int×Int):Prop:=(0<=x.1/\x.1<=(n:Int)-1)/\(0<=x.2/\x.2<=(n:Int)-1)
def Xj(n:Nat)(x:CQ):Prop:=(0<=x.kind/\x.kind<=(n:Int)-1)/\((0<=x.low/\x.low<=x.high)/\x.high<=30)
def LV(ks:List Int)(dr:List (Int×Int)):Prop:=(1<=(ks.length:Int)/\(ks.length:Int)<=4)/\(∀i,i<ks.length->SZ ks i)/\dr.length=ks.length/\∀i,i<dr.length->Sa dr i
def Xk(ks:List Int)(sa:List Ab):Prop:=¬(4:Int)<sa.length/\∀k,k<sa.length->SaleOK ks sa k
structure C2(ks:List Int)(dr:List (Int×Int))(sa:List Ab)(fi:List (Int×Int))(co:List CQ):Prop where
 hk:LV ks dr
 hs:Xk ks sa
 hf:¬(4:Int)<fi.length/\∀k,k<fi.length->LU sa.length (fi.getD k (0,0))
 hc:¬(4:Int)<co.length/\∀k,k<co.length->Xj ks.length (co.getD k CQ.z)
theorem LV.rng{ks:List Int}{dr:List (Int×Int)}(h:LV ks dr)(i:Nat):0<=ks.getD i 0/\ks.getD i 0<=500:=by
 by_cases e:i<ks.length
 ·have:=(h.2.1 i e).1;omega
 ·rw [CM Y];omega
theorem MD.rng{l:List Int}(h:MD l)(i:Nat):0<=l.getD i 0/\l.getD i 0<=30:=by
 by_cases e:i<l.length
 ·have:=h i e;omega
 ·rw [CM Y];omega
theorem kind_ok{ks:List Int}{i:Nat}(h1:¬¬(1<=ks.getD i 0/\ks.getD i 0<=500))(h2:¬(0<(i:Int)/\ks.getD ((i:Int)-1).toNat 0<=ks.getD i 0)):SZ ks i:=⟨Y,Y⟩
def Id(cl:List Int):Prop:=∀i,0<=cl.getD i 0/\cl.getD i 0<=9
theorem Id.nil:Id []:=λi=>by rw [CM aD];omega
theorem Id.snoc{cl:List Int}{x:Int}(h:Id cl)(hx:0<=x/\x<=9):Id (cl++[x]):=λi=>by
 rw [LR];split
 ·exact h i
 ·cases i-cl.length with
  | zero=>exact hx
  | succ n=>rw [CM aD];omega
theorem paid_any{l:List Int}(h:MD l):l.any (λn=>decide (¬(0<=n/\n<=3)))=false:=by
 rw [List.any_eq_false];intro x b;obtain ⟨q,a,rfl⟩:=List.mem_iff_getElem.1 b
 have:=h q a
 rw [Ey 0 a] at this;simpa using this
theorem eM4_get1{l:List Int}{i:Nat}(h:i<4):(Bs l)[i*1]? =some (.int .i64 (l.getD i 0)):=by
 match i,h with
 | 0,_=>rfl
 | 1,_=>rfl
 | 2,_=>rfl
 | 3,_=>rfl
theorem T6{l:List Int}{i:Nat}(h:i<4):(if false=true then some (Value.agg ((Bs l).extract (i*1) (i*1+1))) else (Bs l)[i*1]?)=some (.int .i64 (l.getD i 0)):=by
 match i,h with
 | 0,_=>rfl
 | 1,_=>rfl
 | 2,_=>rfl
 | 3,_=>rfl
theorem Yc{l:List Int}(h:∀i,0<=l.getD i 0/\l.getD i 0<=30):l.any (λn=>decide (¬(0<=n/\n<=30)))=false:=by
 rw [List.any_eq_false];intro x a;obtain ⟨q,b,rfl⟩:=List.mem_iff_getElem.1 a
 have:=h q
 rw [Ey 0 b] at this;simpa using this
end Go.Ns
namespace Go.Ns
open Go.Conc
def Ha(most:Bool)(top:Int)(k:Nat):Int:=if most=true then top-k else k
def HG(ks out:List Int)(i:Nat)(left:Int):Int:=min (out.getD i 0) (left / ks.getD i 0)
def Be(ks out:List Int)(most:Bool):Nat->Nat->Int->List Int->List (List Int)
 | 0,_,left,c=>if 0<left then [] else [c]
 | f+1,i,left,c=>(List.range (HG ks out i left+1).toNat).flatMap λk=>Be ks out most f (i+1) (left-Ha most (HG ks out i left) k*ks.getD i 0) (c++[Ha most (HG ks out i left) k])
def Do(ks out:List Int)(most:Bool)(f i:Nat)(left:Int)(c:List Int)(k:Nat):List (List Int):=Be ks out most f (i+1) (left-Ha most (HG ks out i left) k*ks.getD i 0) (c++[Ha most (HG ks out i left) k])
section
variable {ks out c:List Int} {most:Bool} {f i k:Nat} {left top:Int} {all pre:List (List Int)}
theorem range_at{k n:Nat}(h:k<n):∃r,List.range n=List.range k++k ::r:=by
 refine ⟨(List.range n).drop (k+1),?_⟩;have e:=List.take_append_drop k (List.range n);rw [List.take_range,Nat.min_eq_left Y,List.drop_eq_getElem_cons (by simpa using h),List.getElem_range] at e;exact e.symm
theorem T7(ht:top=HG ks out i left)(h:most=true):Be ks out most f (i+1) (left-(top-(k:Int))*ks.getD i 0) (c++[top-(k:Int)])=Do ks out most f i left c k:=by
 unfold Do Ha;rw [aU h,ht]
theorem T8(h:most=false):Be ks out most f (i+1) (left-(k:Int)*ks.getD i 0) (c++[(k:Int)])=Do ks out most f i left c k:=by
 unfold Do Ha;rw [aT (by rw [h];simp)]
theorem Ms(hw:B9 all pre (Be ks out most (f+1) i left c))(hk:(k:Int)<HG ks out i left+1):B9 all (pre++(List.range k).flatMap (Do ks out most f i left c)) (Do ks out most f i left c k):=by
 obtain ⟨r,e⟩:=range_at (k:=k) (n:=(HG ks out i left+1).toNat) Y;have a:B9 all pre ((List.range k).flatMap (Do ks out most f i left c)++(Do ks out most f i left c k++r.flatMap (Do ks out most f i left c))):=by
  have:Be ks out most (f+1) i left c=(List.range (HG ks out i left+1).toNat).flatMap (Do ks out most f i left c):=rfl
  rw [this,e,List.flatMap_append,List.flatMap_cons] at hw;exact hw
 exact a.right.left
theorem ways_end(hk:(k:Int)<=HG ks out i left+1)(h:¬(k:Int)<HG ks out i left+1):Be ks out most (f+1) i left c=(List.range k).flatMap (Do ks out most f i left c):=by
 have:k=(HG ks out i left+1).toNat:=Y
 subst this;rfl
theorem QV:pre++(List.range (k+1)).flatMap (Do ks out most f i left c)=(pre++(List.range k).flatMap (Do ks out most f i left c))++Do ks out most f i left c k:=by
 rw [List.range_succ,List.flatMap_append];simp
theorem m4_put{pc:List Int}{n:Int}(hi:i<4)(hp:pc.take i=c)(hl:c.length=i)(h1:pc.length<=i+1):BD (Bs pc) (0+i*1) [.int .i64 n]=Bs (c++[n]):=by
 have g:pc=c\/∃x,pc=c++[x]:=by
  have e:=List.take_append_drop i pc;rw [hp] at e;cases h:pc.drop i with
  | nil=>left;rw [h,List.append_nil] at e;exact e.symm
  | cons x r=>
   have:(pc.drop i).length<=1:=by rw [List.length_drop];omega
   rw [h] at this;cases r with
   | nil=>right;exact ⟨x,by rw [<-e,h]⟩
   | cons y r=>simp at this
 match c,hl,hi with
 | [],hl,_=>subst hl;rcases g with rfl | ⟨x,rfl⟩ <;> rfl
 | [a],hl,_=>subst hl;rcases g with rfl | ⟨x,rfl⟩ <;> rfl
 | [a,b],hl,_=>subst hl;rcases g with rfl | ⟨x,rfl⟩ <;> rfl
 | [a,b,d],hl,_=>subst hl;rcases g with rfl | ⟨x,rfl⟩ <;> rfl
 | a ::b ::d ::e ::r,hl,hi=>simp at hl;omega
theorem QW{n:Int}(hl:c.length=i):(c++[n]).take i=c:=by subst hl;simp
theorem Od{n:Int}:∀m,m<=c.length->Dd ks (c++[n]) m=Dd ks c m
 | 0,_=>rfl
 | m+1,h=>by
  unfold Dd;rw [Od m Y,LR,aU Y]
theorem Oe(ho:0<=out.getD i 0)(hk:1<=ks.getD i 0)(hl:0<=left):0<=HG ks out i left/\HG ks out i left<=out.getD i 0/\HG ks out i left*ks.getD i 0<=left:=by
 unfold HG;have b:0<=left / ks.getD i 0:=Int.ediv_nonneg hl Y;have a:left / ks.getD i 0*ks.getD i 0<=left:=Int.ediv_mul_le _ Y;refine ⟨Y,Y,Int.le_trans (Int.mul_le_mul_of_nonneg_right (Int.min_le_right _ _) Y) a⟩
theorem Ye(ht:0<=top)(hk:(k:Int)<top+1):0<=Ha most top k/\Ha most top k<=top:=by
 unfold Ha;split <;> omega
theorem Of(ho:∀j,0<=out.getD j 0)(hk:∀j,j<ks.length->1<=ks.getD j 0):∀(f i:Nat)(left:Int)(c x:List Int),x ∈ Be ks out most f i left c->i+f=ks.length->c.length=i->0<=left->(∀j,0<=c.getD j 0/\c.getD j 0<=out.getD j 0)->
  x.length=ks.length/\CV ks x=Dd ks c i+left/\∀j,0<=x.getD j 0/\x.getD j 0<=out.getD j 0
 | 0,i,left,c,x,a,n,b,m,d=>by
  unfold Be at a;split at a
  ·cases a
  ·rw [List.mem_singleton.1 a];have e:i=ks.length:=Y
   subst e;exact ⟨b,by unfold CV;omega,d⟩
 | f+1,i,left,c,x,a,n,b,m,d=>by
  obtain ⟨k,g,a⟩:=List.mem_flatMap.1 a;have o:=List.mem_range.1 g;have h:=Oe (ks:=ks) (out:=out) (i:=i) (left:=left) (ho i) (hk i Y) m;have l:=Ye (most:=most) (k:=k) h.1 Y;have p:=hk i Y;have q:Ha most (HG ks out i left) k*ks.getD i 0<=left:=Int.le_trans (Int.mul_le_mul_of_nonneg_right l.2 Y) h.2.2;have a:=Of ho hk f (i+1) _ _ x a Y (by rw [List.length_append,b];rfl) Y (λj=>by
   rw [LR];split
   ·exact d j
   ·by_cases e:j=i
    ·subst e;rw [b,Nat.sub_self];exact ⟨l.1,Int.le_trans l.2 h.2.1⟩
    ·rw [CM (by simp;omega)];exact ⟨Int.le_refl _,ho j⟩)
  refine ⟨a.1,?_,a.2.2⟩;have e:Dd ks (c++[Ha most (HG ks out i left) k]) (i+1)=Dd ks c i+Ha most (HG ks out i left) k*ks.getD i 0:=by
   show Dd ks (c++[Ha most (HG ks out i left) k]) i+ks.getD i 0*(c++[Ha most (HG ks out i left) k]).getD i 0=_;rw [Od i Y,LR,aT Y,b,Nat.sub_self,Int.mul_comm];rfl
  rw [a.2.1,e];omega
end
def JBest(hB:L)(r r2:Nat)(T T2:aW)(pre:List (List Int))(aN:Nat->Prop)(h:L):Prop:=
 ∃(c:List Int)(b:Bool),h r=some (true,.cells (Bs c) T (0,0))/\h r2=some (true,.cells #[.bool b] T2 (0,0))/\((b=true->c ∈ pre)/\(b=false->c=[]))/\hB r=none/\hB r2=none/\∀x,aN x↔x=r\/x=r2
theorem Og(hB:L)(r r2:Nat)(T T2:aW):G5 hB (JBest hB r r2 T T2):=by
 refine ⟨?_,?_⟩
 ·rintro d g h x ⟨c,b,e,f,_,_,_,a⟩ i;rcases (a x).1 i with rfl | rfl
  ·exact ⟨_,_,e,rfl⟩
  ·exact ⟨_,_,f,rfl⟩
 ·rintro d g h m ⟨c,b,e,f,j,k,l,a⟩ same _;exact ⟨c,b,(same r ((a r).2 (.inl rfl))).trans e,(same r2 ((a r2).2 (.inr rfl))).trans f,j,k,l,a⟩
theorem T9{hB h:L}{r r2:Nat}{T T2:aW}{c:List Int}(n1:hB r=none)(n2:hB r2=none)(x:h r=some (true,.cells (Bs c) T (0,0)))(y:h r2=some (true,.cells #[.bool false] T2 (0,0)))(hc:c=[]):JBest hB r r2 T T2 [] (λb=>b=r\/b=r2) h:=
 ⟨c,false,x,y,⟨(λe=>by cases e),λ_=>hc⟩,n1,n2,λ_=>Iff.rfl⟩
section
variable {P:Program} {E:Fb P} {O:Nat->aV} {ds:List Deferred} {h:L} {T:(Nat->aV)->List Deferred->L->Prop}
variable {dst:Option Nat} {ty:aW} {pos:String} {af:Array Edge} {gd:Option (Nat×Bool)}
def ME(P:Program)(t:aW):Bool:=match P.underlying t with
 | some (.array _ e)=>(Bh P e).isSome
 | _=>false
theorem Sb{t:aW}{z:Array aV}(ha:ME P t=true)(hz:BT P t=some z)(k:T (putS O dst (.agg z)) ds h):BK E ⟨dst,.build t #[],ty,pos,af,gd⟩ O ds h T:=by
 unfold BK execOp;refine El ?_;unfold BT at hz;unfold ME at ha;unfold Instr.build zeroValue;cases a:P.info? t with
 | none=>rw [a] at hz;cases hz
 | some i=>
  rw [a] at hz;simp only [Option.map_eq_some_iff] at hz;obtain ⟨v,f,rfl⟩:=hz;refine AC _ _ (AC _ _ (CE a ?_));rw [f];refine Ah ?_;cases b:P.underlying t with
  | none=>rw [b] at ha;cases ha
  | some d=>
   rw [b] at ha;cases d <;> first | (cases ha;done) | skip
   rename_i n e
   refine AC _ _ (Aa b ?_);simp only at ha ⊢;cases c:Bh P e with
   | none=>rw [c] at ha;cases ha
   | some x=>
    have g:Instr.fill (λi=>some (i*x.2,x.2)) v.cells ((#[]:Array (Nat×Operand)).map λ(i,y)=>(i,AL O y)).toList=some v.cells:=by simp [Instr.fill]
    refine AC _ _ (DE c ?_);simp only [g];exact k
end
end Go.Ns
namespace Go.Ns
open Go.Conc
def C7(m o:List Int)(t:Int)(k:Nat):List Int:=(List.range m.length).map λi=>if i<k then m.getD i 0+t*o.getD i 0 else m.getD i 0
section
variable {m o:List Int} {t:Int} {k i j:Nat}
theorem Oh:(C7 m o t k).length=m.length:=by simp [C7]
theorem Fs:(C7 m o t k).getD i 0=if i<m.length then (if i<k then m.getD i 0+t*o.getD i 0 else m.getD i 0) else 0:=by
 unfold C7;split
 ·rename_i h;simp [List.getD_eq_getElem?_getD,h]
 ·rename_i h;rw [CM (by simpa using h)]
theorem plusTo_0:C7 m o t 0=m:=by
 refine List.ext_getElem Oh λi b a=>?_;simp [C7,List.getD_eq_getElem?_getD,a]
theorem DV(h:j≠i):(C7 m o t i).getD j 0=(C7 m o t (i+1)).getD j 0:=by
 rw [Fs,Fs];split <;> try rfl
 by_cases q:j<i
 ·rw [aU q,aU Y]
 ·rw [aT q,aT Y]
theorem Yf(h:o.length<=m.length):(C7 m o t i).getD i 0+t*o.getD i 0=(C7 m o t (i+1)).getD i 0:=by
 rw [Fs,Fs];split
 ·rw [aT (Nat.lt_irrefl _),aU (Nat.lt_succ_self _)]
 ·rw [CM (l:=o) Y];omega
theorem m4_plus(hi:i<4)(h:o.length<=m.length):BD (Bs (C7 m o t i)) (0+i*1) [.int .i64 ((C7 m o t i).getD i 0+t*o.getD i 0)]=Bs (C7 m o t (i+1)):=by
 rw [Yf h]
 match i,hi with
 | 0,_=>show #[Value.int .i64 _,.int .i64 _,.int .i64 _,.int .i64 _]=_;unfold Bs;rw [DV (j:=1) Y,DV (j:=2) Y,DV (j:=3) Y]
 | 1,_=>show #[Value.int .i64 _,.int .i64 _,.int .i64 _,.int .i64 _]=_;unfold Bs;rw [DV (j:=0) Y,DV (j:=2) Y,DV (j:=3) Y]
 | 2,_=>show #[Value.int .i64 _,.int .i64 _,.int .i64 _,.int .i64 _]=_;unfold Bs;rw [DV (j:=0) Y,DV (j:=1) Y,DV (j:=3) Y]
 | 3,_=>show #[Value.int .i64 _,.int .i64 _,.int .i64 _,.int .i64 _]=_;unfold Bs;rw [DV (j:=0) Y,DV (j:=1) Y,DV (j:=2) Y]
def Fg(m o:List Int)(t:Int):List Int:=C7 m o t 4
theorem QX:(Fg m o t).length=m.length:=Oh
theorem QY(h4:m.length<=4)(h:o.length<=m.length):(Fg m o t).getD i 0=m.getD i 0+t*o.getD i 0:=by
 unfold Fg;rw [Fs];split
 ·rw [aU Y]
 ·rw [CM (l:=m) Y,CM (l:=o) Y];omega
theorem Vv(hm:∀i,0<=m.getD i 0/\m.getD i 0<=60)(ho:∀i,0<=o.getD i 0/\o.getD i 0<=60)(ht:t=1\/t= -1): -60<=(C7 m o t k).getD i 0/\(C7 m o t k).getD i 0<=120:=by
 rw [Fs]
 have:=hm i;have:=ho i
 rcases ht with rfl | rfl <;> (split <;> (try split) <;> omega)
theorem pm_rng{x:Int}(h:0<=x/\x<=60)(ht:t=1\/t= -1): -60<=t*x/\t*x<=60:=by rcases ht with rfl | rfl <;> omega
end
def GS(n:Nat)(j:Int)(c:List Int):Prop:=c.length=n/\∀i,0<=c.getD i 0/\c.getD i 0<=9+3*j
section
variable {n:Nat} {j:Int} {c p:List Int}
theorem GS.paid(h:GS n j c)(hn:n<=4)(hl:p.length=n)(hp:MD p):GS n (j+1) (Fg c p 1):=by
 refine ⟨QX.trans h.1,λi=>?_⟩;have a:=h.2 i;have b:0<=p.getD i 0/\p.getD i 0<=3:=by
  by_cases e:i<p.length
  ·exact hp i e
  ·rw [CM Y];omega
 rw [QY (by rw [h.1];exact hn) (by rw [h.1,hl];exact Nat.le_refl _)];omega
theorem GS.given(h:GS n j c)(hn:n<=4)(hl:p.length<=n)(hp:∀i,0<=p.getD i 0/\p.getD i 0<=c.getD i 0):GS n j (Fg c p (-1)):=by
 refine ⟨QX.trans h.1,λi=>?_⟩;have a:=h.2 i;have b:=hp i;rw [QY (by rw [h.1];exact hn) (by rw [h.1];exact hl)];omega
theorem GS.mono{j':Int}(h:GS n j c)(e:j<=j'):GS n j' c:=⟨h.1,λi=>by have:=h.2 i;omega⟩
theorem GS.rng(h:GS n j c)(e:j<=5)(i:Nat):0<=c.getD i 0/\c.getD i 0<=30:=by have:=h.2 i;omega
end
def Oi(f:Nat->Bool):Array aV:=#[.bool (f 0),.bool (f 1),.bool (f 2),.bool (f 3)]
def b4Set(f:Nat->Bool)(i:Nat):Nat->Bool:=λk=>if k=i then true else f k
theorem b4_put{f:Nat->Bool}{i:Nat}(h:i<4):BD (Oi f) (0+i*1) [.bool true]=Oi (b4Set f i):=by
 match i,h with
 | 0,_=>rfl
 | 1,_=>rfl
 | 2,_=>rfl
 | 3,_=>rfl
theorem eB4_get{f:Nat->Bool}{i:Nat}(h:i<4):(Oi f)[0+i*1]? =some (.bool (f i)):=by
 match i,h with
 | 0,_=>rfl
 | 1,_=>rfl
 | 2,_=>rfl
 | 3,_=>rfl
theorem UA(f:Nat->Bool):(Value.agg (Oi f)).cells.size=4:=rfl
theorem UB(f:Nat->Bool):Value.fine (.agg (Oi f))=true:=rfl
theorem Xl(f:Nat->Bool):0+4<=(Oi f).size:=Nat.le_refl 4
theorem Xm(f g:Nat->Bool):BD (Oi f) 0 (Value.agg (Oi g)).cells.toList=Oi g:=by
 simp [Value.cells,Oi,BD]
theorem outsD2{P:Program}{O:Nat->aV}{h:L}{fn:Func}{R:aV->L->Prop}{a u:Tmp}{t t':aW}{b off b' off':Nat}{v v':aV}(hr:fn.results=#[.cell a t,.cell u t'])(ha:O a=.pointer (some ⟨b,off,none⟩))(hv:Rd P h t b off v)
  (hu:O u=.pointer (some ⟨b',off',none⟩)) (hv':Rd P h t' b' off' v') (x:R (.tuple #[v,v']) h):FN P fn O R [] h:=by
 unfold FN;rw [hr];exact ⟨b,off,v,ha,hv,b',off',v',hu,hv',x⟩
abbrev Oj:=(Int×Int×Int×Int)×Int
abbrev TAns:=List Int×Bool
def GT(a:Oj):aV:=.agg #[.int .i64 a.1.1,.int .i64 a.1.2.1,.int .i64 a.1.2.2.1,.int .i64 a.1.2.2.2,.int .i64 a.2]
def UC(a:TAns):aV:=.agg #[.int .i64 (a.1.getD 0 0),.int .i64 (a.1.getD 1 0),.int .i64 (a.1.getD 2 0),.int .i64 (a.1.getD 3 0),.bool a.2]
def tKey(m:List Int)(am:Int):Oj:=((m.getD 0 0,m.getD 1 0,m.getD 2 0,m.getD 3 0),am)
def keyAt(a:Oj)(i:Nat):Int:=match i with
 | 0=>a.1.1
 | 1=>a.1.2.1
 | 2=>a.1.2.2.1
 | 3=>a.1.2.2.2
 | _=>0
theorem UD{m:List Int}{am:Int}(h:m.length<=4)(i:Nat):keyAt (tKey m am) i=m.getD i 0:=by
 match i with
 | 0=>rfl
 | 1=>rfl
 | 2=>rfl
 | 3=>rfl
 | n+4=>rw [CM Y];rfl
def Sd(n:Nat)(o:Nat->Int)(a:TAns):Prop:=a.1.length<=n/\∀i,0<=a.1.getD i 0/\a.1.getD i 0<=o i
def C8(n r:Nat)(h:L):Prop:=∃aQ:Oj->Option TAns,EX h r GT UC aQ/\∀a v,aQ a=some v->Sd n (keyAt a) v
section
variable {hB h hc h':L} {n r:Nat}
theorem C8.same(x:C8 n r h)(e:h' r=h r):C8 n r h':=by
 obtain ⟨a,b,c⟩:=x;exact ⟨a,b.le_other e,c⟩
theorem C8.known(x:C8 n r h):∃o,h r=some (true,o):=by
 obtain ⟨c,⟨d,a,b,_⟩,_⟩:=x;exact ⟨_,b⟩
structure DO(hB:L)(n r:Nat)(h hc:L):Prop where
 ok:C8 n r hc
 keep:A1 (λb=>b=r) h hc
 base:hB.Le hc
def Yg(hB:L)(n r:Nat)(h h':L):Prop:=C8 n r h'/\A1 (λb=>b=r) h h'/\hB.Le h'
theorem DO.start(x:C8 n r h)(l:hB.Le h):DO hB n r h h:=⟨x,A1.refl _ _,l⟩
theorem DO.le(y:DO hB n r h hc)(l:hc.Le h'):DO hB n r h h':=by
 obtain ⟨o,a⟩:=y.ok.known;exact ⟨y.ok.same ((l.keep a rfl).trans a.symm),y.keep.trans (λ_ q=>.inl q) (l.keepX _),y.base.trans l⟩
theorem DO.store(y:DO hB n r h hc){q:Nat}(hq:h q=none)(qB:hB q=none)(hn:q≠r)(ho:∀b,b≠q->h' b=hc b):DO hB n r h h':=
 ⟨y.ok.same (ho r (Ne.symm hn)),y.keep.store hq ho,y.base.upd qB ho⟩
theorem DO.call(y:DO hB n r h hc)(m:Yg hB n r hc h'):DO hB n r h h':=⟨m.1,y.keep.trans (λ_ q=>.inl q) m.2.1,m.2.2⟩
theorem DO.ne(y:DO hB n r h hc){q:Nat}(hq:hc q=none):q≠r:=λe=>by
 obtain ⟨o,a⟩:=y.ok.known;rw [e,a] at hq;cases hq
theorem DO.res(y:DO hB n r h hc):Yg hB n r h hc:=⟨y.ok,y.keep,y.base⟩
theorem DO.nothing(y:DO hB n r h hc){q:Nat}(hq:hc q=none):h q=none:=by
 cases a:h q with
 | none=>rfl
 | some x=>
  obtain ⟨c,b,_⟩:=y.keep q x.1 x.2 a (y.ne hq);rw [b] at hq;cases hq
theorem C8.le(x:C8 n r h)(l:h.Le h'):C8 n r h':=by
 obtain ⟨o,a⟩:=x.known;exact x.same ((l.keep a rfl).trans a.symm)
theorem C8.empty(x:h r=some (true,.map #[] 0)):C8 n r h:=⟨λ_=>none,EX.empty x,λa v e=>by cases e⟩
end
theorem Oj.eq_iff(a b:Oj):((a.1.1==b.1.1 && (a.1.2.1==b.1.2.1 && (a.1.2.2.1==b.1.2.2.1 && (a.1.2.2.2==b.1.2.2.2 && true)))) && (a.2==b.2 && true))=decide (a=b):=by
 obtain ⟨⟨c,d,e,f⟩,g⟩:=a;obtain ⟨⟨h,i,j,k⟩,l⟩:=b;simp only [Bool.and_true,Prod.mk.injEq];by_cases m:c=h <;> by_cases n:d=i <;> by_cases o:e=j <;> by_cases p:f=k <;> by_cases q:g=l <;> simp [m,n,o,p,q]
theorem Pv(a:Oj):Instr.sameBits 10000 (GT a) (GT a)=true:=by
 have b:∀(n:Nat)(x:Int),Instr.sameBits n (.int .i64 x) (.int .i64 x)=true:=λn x=>by
  cases n <;> (unfold Instr.sameBits;simp)
 unfold GT;show Instr.sameBits (9999+1) _ _=true;unfold Instr.sameBits;simp only [List.zip_cons_cons,List.zip_nil_left,List.all_cons,List.all_nil,b];simp
section
variable {P:Program} {E:Fb P} {O:Nat->aV} {ds:List Deferred} {h:L} {T:(Nat->aV)->List Deferred->L->Prop}
variable {dst:Option Nat} {ty:aW} {pos:String} {af:Array Edge} {gd:Option (Nat×Bool)}
theorem UE{t kt vt:aW}{x ix:Operand}{r d n:Nat}{m:List Int}{am:Int}(ht:Hw P t=some (kt,vt))(hx:AL O x=.map (some r))(hk:AL O ix=.agg (Bs m++ #[.int .i64 am]))(hm:C8 n r h)(h4:m.length<=4)(hd:Nat.ble (d+1) 10000=true)
  (hc:∀a,VE P (d+1) kt (GT a)=true) (he:∀a b,Mh P (d+1) kt (GT a) (GT b)=some ((a.1.1==b.1.1 && (a.1.2.1==b.1.2.1 && (a.1.2.2.1==b.1.2.2.1 && (a.1.2.2.2==b.1.2.2.2 && true)))) && (a.2==b.2 && true))) (hz:(P.info? vt).bind (·.zero)=some (UC ([],false)))
  (k:∀(c:List Int)(b is:Bool),(is=true->Sd n (λi=>m.getD i 0) (c,b))->T (putS O dst (.tuple #[.agg #[.int .i64 (c.getD 0 0),.int .i64 (c.getD 1 0),.int .i64 (c.getD 2 0),.int .i64 (c.getD 3 0),.bool b],.bool is])) ds h):BK E ⟨dst,.lookup t x ix true,ty,pos,af,gd⟩ O ds h T:=by
 obtain ⟨f,g,j⟩:=hm;refine L5 (a:=tKey m am) (z:=UC ([],false)) ht hx hk g hd (hc _) (λb=>by rw [he,Oj.eq_iff]) hz ?_;cases l:f (tKey m am) with
 | none=>exact k [] false false (by intro e;cases e)
 | some v=>
  refine k v.1 v.2 true λ_=>?_;have q:=j _ _ l;refine ⟨q.1,λi=>?_⟩
  have:=q.2 i
  rw [UD h4] at this;exact this
theorem Vw{t kt vt:aW}{om ok ox:Operand}{r d n:Nat}{m c:List Int}{am:Int}{b:Bool}(ht:Hw P t=some (kt,vt))(hm':AL O om=.map (some r))(hk:AL O ok=.agg (Bs m++ #[.int .i64 am]))(hv:AL O ox=.agg #[.int .i64 (c.getD 0 0),.int .i64 (c.getD 1 0),.int .i64 (c.getD 2 0),.int .i64 (c.getD 3 0),.bool b])
  (hm:C8 n r h) (h4:m.length<=4) (hd:Nat.ble (d+1) 10000=true)
  (hc:∀a,VE P (d+1) kt (GT a)=true) (he:∀a b,Mh P (d+1) kt (GT a) (GT b)=some ((a.1.1==b.1.1 && (a.1.2.1==b.1.2.1 && (a.1.2.2.1==b.1.2.2.1 && (a.1.2.2.2==b.1.2.2.2 && true)))) && (a.2==b.2 && true))) (hs:∀a,Instr.sameBits 10000 (GT a) (GT a)=true) (hn:Sd n (λi=>m.getD i 0) (c,b))
  (k:∀h',C8 n r h'->(∀b,b≠r->h' b=h b)->T (putS O dst undef) ds h'):BK E ⟨dst,.mapUpdate t om ok ox,ty,pos,af,gd⟩ O ds h T:=by
 obtain ⟨p,g,j⟩:=hm;refine IL (a:=tKey m am) (v:=(c,b)) (ek:=GT) (ev:=UC) ht hm' hk hv g hd (hc _) (λb=>by rw [he,Oj.eq_iff]) (hs _) λh' l o=>k h' ⟨_,l,λa v f=>?_⟩ o;by_cases e:a=tKey m am
 ·subst e;rw [aU rfl] at f;cases f;exact ⟨hn.1,λi=>by rw [UD h4];exact hn.2 i⟩
 ·rw [aT e] at f;exact j a v f
end
structure Mt(n:Nat)(l:List Int):Prop where
 len:l.length=n
 rng:∀i,i<l.length->0<=l.getD i 0/\l.getD i 0<(n:Int)
 nd:l.Nodup
theorem ord_perm{n:Nat}{l:List Int}(h:l.Perm (D0 n)):Mt n l:=
 ⟨h.length_eq.trans (Fq n),λi a=>JI (h.mem_iff.1 (EF a)),h.nodup_iff.2 (LS n)⟩
theorem Mt.no{n:Nat}{l:List Int}(o:Mt n l){k:Nat}(hk:k<l.length):¬l.getD k 0 ∈ l.take k:=λh=>by
 obtain ⟨j,a,e⟩:=List.mem_iff_getElem.1 h;rw [List.length_take] at a;rw [List.getElem_take,Ey 0 hk] at e;exact List.pairwise_iff_getElem.1 o.nd j k Y hk Y e
theorem Yh{n:Nat}{ol rl:List Int}{i:Nat}(h:(ol++rl).Perm (D0 n))(hi:i<rl.length):((ol++[rl.getD i 0])++rl.eraseIdx i).Perm (D0 n):=by
 refine List.Perm.trans ?_ h;rw [List.append_assoc];refine List.Perm.append_left ol ?_;rw [Ey 0 hi];have e:rl.take i++rl[i] ::rl.drop (i+1)=rl:=by rw [<-List.drop_eq_getElem_cons hi,List.take_append_drop]
 rw [List.eraseIdx_eq_take_drop_succ];exact (List.perm_middle (a:=rl[i]) (l₁:=rl.take i) (l₂:=rl.drop (i+1))).symm.trans (by rw [e])
theorem Ok{ks out c:List Int}{b:Bool}{dr fi:List (Int×Int)}{sa:List Ab}{co:List CQ}{am:Int}(hb:C2 ks dr sa fi co)(ho:∀j,0<=out.getD j 0/\out.getD j 0<=30)(ham:0<=am)(hc:b=true->c ∈ Be ks out true ks.length 0 am [])(hn:b=false->c=[]):c.length<=ks.length/\∀i,0<=c.getD i 0/\c.getD i 0<=out.getD i 0:=by
 cases b with
 | false=>rw [hn rfl];exact ⟨Nat.zero_le _,λi=>by have:=ho i;simpa using this.1⟩
 | true=>
  obtain ⟨a,_,d⟩:=Of (λj=>(ho j).1) (λj e=>(hb.hk.2.1 j e).1.1) _ _ _ _ _ (hc rfl) Y rfl ham (λj=>⟨aD,by simpa using (ho j).1⟩);exact ⟨Nat.le_of_eq a,d⟩
def Cs(h0 hB:L)(n r:Nat)(h h':L):Prop:=A1 (λb=>b=r\/h0 b=none) h h'/\(C8 n r h->C8 n r h')/\(hB.Le h->hB.Le h')
section
variable {h0 hB h hc h':L} {n r q b T t:Nat} {gv:List Int->Prop} {x0 x1 x2 x3 x4 x5 x6 x7 x8:aV}
theorem Cs.refl(h:L):Cs h0 hB n r h h:=⟨A1.refl _ _,id,id⟩
theorem Cs.trans(a b c:L)(x:Cs h0 hB n r a b)(y:Cs h0 hB n r b c):Cs h0 hB n r a c:=⟨x.1.trans (λ_ q=>.inl q) y.1,λz=>y.2.1 (x.2.1 z),λz=>y.2.2 (x.2.2 z)⟩
theorem Cs.ofLe(l:h.Le h'):Cs h0 hB n r h h':=⟨l.keepX _,λx=>x.le l,λx=>x.trans l⟩
theorem Cs.ofRes(m:Yg hB n r h h'):Cs h0 hB n r h h':=⟨λb p o a c=>m.2.1 b p o a λe=>c (.inl e),λ_=>m.1,λ_=>m.2.2⟩
theorem DO.rel2(y:DO hB n r h h0)(m:Cs h0 hB n r h0 hc):DO hB n r h hc:=⟨m.2.1 y.ok,y.keep.trans (λ_ q=>q.imp id y.nothing) m.1,m.2.2 y.base⟩
theorem Cs.nx{o:Bool×Obj}(x:h0 b=some o)(ne:b≠r):¬(b=r\/h0 b=none):=by
 rintro (e | e)
 ·exact ne e
 ·rw [x] at e;cases e
theorem Cs.none(l:Cs h0 hB n r h0 hc)(hq:hc q=none)(ne:q≠r):h0 q=none:=by
 cases a:h0 q with
 | none=>rfl
 | some x=>
  obtain ⟨d,c,_⟩:=l.1 q x.1 x.2 a (Cs.nx a ne);rw [c] at hq;cases hq
def Ie(x:aV):Fe:=λ_ v _=>v=x
def gCall(gv:List Int->Prop):Fe:=λ_ v _=>∃(c:List Int)(b:Bool),v=.tuple #[.agg (Bs c),.bool b]/\gv c
def gAbs(gv:List Int->Prop):Fe:=λ_ v _=>∃c:List Int,v=.agg (Bs c)/\gv c
def gBool:Fe:=λ_ v _=>∃b:Bool,v=.bool b
def gAlloc(h0:L)(r T:Nat):Fe:=λ_ v h=>∃q,v=.pointer (some ⟨q,0,none⟩)/\h0 q=none/\q≠r/\∃cs:Array aV,cs.size=4/\h q=some (true,.cells cs T (0,0))
def gStore(h0:L)(r T t:Nat)(gv:List Int->Prop):Fe:=λs _ h=>∃(q:Nat)(c:List Int),s t=.pointer (some ⟨q,0,none⟩)/\h0 q=none/\q≠r/\gv c/\h q=some (true,.cells (Bs c) T (0,0))
def QZ(h0:L)(r T t:Nat)(gv:List Int->Prop)(x0 x1 x2 x3 x4 x5 x6 x7 x8:aV):List Fe:=[Ie x0,Ie x1,Ie x2,Ie x3,Ie x4,Ie x5,Ie x6,Ie x7,Ie x8,gCall gv,gCall gv,gAbs gv,gBool,gAlloc h0 r T,gStore h0 r T t gv]
theorem Ol(k:A1 (λb=>b=r) h h'):∀j O v,E8 (QZ h0 r T t gv x0 x1 x2 x3 x4 x5 x6 x7 x8) j O v h->E8 (QZ h0 r T t gv x0 x1 x2 x3 x4 x5 x6 x7 x8) j O v h':=λj O v z=>by
 match j,z with
 | 0,z=>exact z
 | 1,z=>exact z
 | 2,z=>exact z
 | 3,z=>exact z
 | 4,z=>exact z
 | 5,z=>exact z
 | 6,z=>exact z
 | 7,z=>exact z
 | 8,z=>exact z
 | 9,z=>exact z
 | 10,z=>exact z
 | 11,z=>exact z
 | 12,z=>exact z
 | 13,⟨q,e,a,d,f,s,g⟩=>exact ⟨q,e,a,d,f,s,k.box g d rfl⟩
 | 14,⟨q,c,e,a,d,i,g⟩=>exact ⟨q,c,e,a,d,i,k.box g d rfl⟩
 | j+15,z=>exact z
variable {cl:List Nat} {k:Nat}
theorem Ft(l:h.Le h'):St (Cs h0 hB n r) (λ_ _=>True) (QZ h0 r T t gv x0 x1 x2 x3 x4 x5 x6 x7 x8) cl k h h':=⟨Cs.ofLe l,λj _ O v=>Ol (l.keepX _) j O v,λ_ _ _ _=>trivial⟩
theorem gSt_res(m:Yg hB n r h h'):St (Cs h0 hB n r) (λ_ _=>True) (QZ h0 r T t gv x0 x1 x2 x3 x4 x5 x6 x7 x8) cl k h h':=⟨Cs.ofRes m,λj _ O v=>Ol m.2.1 j O v,λ_ _ _ _=>trivial⟩
theorem Yi{c:List Int}(l0:hB.Le h0)(hq:h0 q=none)(ne:q≠r)(ho:∀b,b≠q->h' b=h b)(nb:h' q=some (true,.cells (Bs c) T (0,0))):St (Cs h0 hB n r) (λ_ _=>True) (QZ h0 r T t gv x0 x1 x2 x3 x4 x5 x6 x7 x8) cl 14 h h':=by
 refine ⟨⟨λb p o u w=>⟨o,(ho b λe=>w (.inr (by rw [e];exact hq))).trans u,.inl rfl⟩,λx=>x.same (ho r (Ne.symm ne)),λl=>l.upd (L.Le.nothing l0 hq) ho⟩,λj i O v z=>?_,λ_ _ _ _=>trivial⟩
 match j,i,z with
 | 0,_,z=>exact z
 | 1,_,z=>exact z
 | 2,_,z=>exact z
 | 3,_,z=>exact z
 | 4,_,z=>exact z
 | 5,_,z=>exact z
 | 6,_,z=>exact z
 | 7,_,z=>exact z
 | 8,_,z=>exact z
 | 9,_,z=>exact z
 | 10,_,z=>exact z
 | 11,_,z=>exact z
 | 12,_,z=>exact z
 | 13,_,⟨f,e,a,d,y,s,g⟩=>
  by_cases m:f=q
  ·subst m;exact ⟨f,e,a,d,_,rfl,nb⟩
  ·exact ⟨f,e,a,d,y,s,(ho f m).trans g⟩
 | 14,i,_=>exact absurd rfl i
 | j+15,_,z=>exact z
end
end Go.Ns
namespace Go.Ns
def Au(nm:aX)(cost n:Int):List Good:=[⟨nm,cost,1,n,n⟩]
structure Mu(d:Int)(ms:List AD):Prop where
 len:ms.length<=6
 mv:∀k,k<ms.length->(1<=(ms.getD k AD.z).kind/\(ms.getD k AD.z).kind<=4)/\(ms.getD k AD.z).good=0/\(1<=(ms.getD k AD.z).day/\(ms.getD k AD.z).day<=d)/\FQ ms k<=(ms.getD k AD.z).day/\(ms.getD k AD.z).high=(ms.getD k AD.z).low/\(0<=(ms.getD k AD.z).low/\(ms.getD k AD.z).low<=99)
def ER(n:Int)(ms:List AD)(i:Nat):AV:=⟨λk=>if k=0 then n else 0,λk=>if k<i then (ms.getD k AD.z).low else 0,λ_=>false⟩
def H4(n:Int)(ms:List AD):Nat->Int
 | 0=>n
 | k+1=>H4 n ms k+signed (ms.getD k AD.z).kind.toNat (ms.getD k AD.z).low
section
variable {d cost n dy:Int} {nm:aX} {ms:List AD}
theorem Yj(hn:GO nm=true)(hc:0<=cost/\cost<=999)(h0:0<=n/\n<=99)(hd:1<=d/\d<=99)(hm:Mu d ms):Bt d 0 (Au nm cost n) ms []:=by
 refine ⟨hd,aC,by simp [Au],λk h=>?_,hm.len,λk h=>?_,aD,λk h=>by cases h⟩
 ·have:k=0:=by simp [Au] at h;exact h
  subst this;have e:(Au nm cost n).getD 0 Good.z=⟨nm,cost,1,n,n⟩:=rfl;unfold IR;rw [e];rw [aT (by rw [hn];simp),aT aD];exact aT (show¬((¬(0<=cost/\cost<=999)\/¬((1:Int)<=1/\(1:Int)<=20))\/¬GQ n n) by unfold GQ;omega)
 ·obtain ⟨a,b,c,e,f,g⟩:=hm.mv k h;have i:((Au nm cost n).length:Int)-1=0:=rfl;unfold Fl;rw [i,aT Y,aT Y,aT Y,aT Y,aT (by unfold GQ;omega)]
theorem RA(x:Int):Ff x x=[x]:=by
 unfold Ff;rw [show (x-x+1).toNat=1 by omega];simp [Bp]
theorem Om{ag:AV->Bool}(hm:Mu d ms):∀f i,i+f=ms.length->Ax ag ms 0 f i (ER n ms i)=if ag (ER n ms ms.length) then [ER n ms ms.length] else []
 | 0,i,h=>by
  have:i=ms.length:=Y
  subst this;rfl
 | f+1,i,h=>by
  obtain ⟨a,b,c,e,g,_⟩:=hm.mv i Y;rw [Dw,g,RA];have j:EA ms (i:Int)=false:=by
   unfold EA;exact decide_eq_false (λq=>by have:=q.2;rw [Int.toNat_natCast] at this;omega)
  have l:(ER n ms i).setMove i (ms.getD i AD.z).low false=ER n ms (i+1):=by
   unfold AV.setMove AV.setMany AV.setLie ER;simp only [AV.mk.injEq,true_and];refine ⟨funext λk=>?_,funext λk=>?_⟩
   ·by_cases q:k=i
    ·subst q;rw [aU rfl,aU Y]
    ·rw [aT q];by_cases r:k<i
     ·rw [aU r,aU Y]
     ·rw [aT r,aT Y]
   ·split <;> rfl
  simp only [List.flatMap_cons,List.flatMap_nil,List.append_nil];unfold Br;rw [j,l,Om hm f (i+1) Y];simp
theorem Vx(hm:Mu d ms):AU d (Au nm cost n) ms [] 0=if BB d 1 ms [] (ER n ms ms.length) then [ER n ms ms.length] else []:=by
 have e:(Au nm cost n).getD 0 Good.z=⟨nm,cost,1,n,n⟩:=rfl;show BL (BB d 1 ms []) (Au nm cost n) ms 0 1 0 AV.zero=_;rw [EY,e];simp only [RA,List.flatMap_cons,List.flatMap_nil,List.append_nil];have a:AV.zero.setFirst 0 n=ER n ms 0:=by
  unfold AV.setFirst AV.zero ER;simp
 rw [a];exact Om hm ms.length 0 Y
theorem Yk{k:Nat}(hk:k<ms.length):CY (ER n ms ms.length) k=(ms.getD k AD.z).low:=by
 unfold CY ER;simp [hk]
theorem UF(hm:Mu d ms)(hdy:d<=dy)(hb:∀k,k<=ms.length->0<=H4 n ms k):∀f k low,k+f=ms.length->0<=low->(Cx ms (ER n ms ms.length) 0 dy f k (H4 n ms k) low).1=H4 n ms ms.length/\0<=(Cx ms (ER n ms ms.length) 0 dy f k (H4 n ms k) low).2
 | 0,k,low,h,i=>by
  have:k=ms.length:=Y
  subst this;exact ⟨rfl,i⟩
 | f+1,k,low,h,i=>by
  obtain ⟨a,b,c,e,g,_⟩:=hm.mv k Y;unfold Cx;rw [aT Y];have j:G3 ms (ER n ms ms.length) 0 k (H4 n ms k)=H4 n ms (k+1):=by
   unfold G3;rw [aU b,Yk Y];rfl
  rw [j];refine UF hm hdy hb f (k+1) _ Y ?_
  have:=hb (k+1) Y
  unfold F3;split <;> omega
theorem Vy(hm:Mu d ms)(hdy:d<=dy)(hn:0<=n)(hb:∀k,k<=ms.length->0<=H4 n ms k):(AP ms (ER n ms ms.length) 0 dy).1=H4 n ms ms.length/\0<=(AP ms (ER n ms ms.length) 0 dy).2:=
 UF (n:=n) hm hdy hb ms.length 0 n Y hn
theorem Mw(hm:Mu d ms):(AP ms (ER n ms ms.length) 0 0).1=n:=by
 unfold AP;cases h:ms.length with
 | zero=>rfl
 | succ f=>
  obtain ⟨a,b,c,_⟩:=hm.mv 0 Y;unfold Cx;rw [aU Y];rfl
structure RB(d cost n b:Int)(nm:aX)(ms:List AD):Prop where
 bk:Bt d 0 (Au nm cost n) ms []
 lb:CO d 0 (Au nm cost n) ms [] 0 d=0
 ll:GR d 0 (Au nm cost n) ms [] 0 d=[b]
 wb:By d 0 (Au nm cost n) ms [] d=0
 wl:Ch d 0 (Au nm cost n) ms [] d=cost*b
 wh:Ci d 0 (Au nm cost n) ms [] d=cost*b
 vb:By d 0 (Au nm cost n) ms [] 0=0
 vl:Ch d 0 (Au nm cost n) ms [] 0=cost*n
 vh:Ci d 0 (Au nm cost n) ms [] 0=cost*n
theorem UG(f:Nat->Int):CN 1 f=[f 0]:=by
 unfold CN;rw [LE];simp [List.range_succ,DC,Iu]
theorem RC{o:List Int}(hk:Bt d 0 (Au nm cost n) ms [])(h:AU d (Au nm cost n) ms [] 0=[ER n ms ms.length])(ho:∀k,k<o.length->o.getD k 0=0):Am d 0 (Au nm cost n) ms [] o=0:=
 OM (not_not_intro (T5 hk)) (k:=o.length) ho (Nat.le_refl _) (by rw [h];simp)
theorem sure_all(hn:GO nm=true)(hc:0<=cost/\cost<=999)(h0:0<=n/\n<=99)(hd:1<=d/\d<=99)(hm:Mu d ms)(hb:∀k,k<=ms.length->0<=H4 n ms k):RB d cost n (H4 n ms ms.length) nm ms:=by
 have e:=Yj hn hc h0 hd hm (cost:=cost);have b:=Vy hm (Int.le_refl d) h0.1 hb;have h:AU d (Au nm cost n) ms [] 0=[ER n ms ms.length]:=by
  rw [Vx hm,aU];unfold BB
  have:∀j:Nat,j<1->¬(AP ms (ER n ms ms.length) (j:Int) d).2<0:=λj i=>by
   have:j=0:=Y
   subst this;exact λq=>absurd b.2 (Int.not_le.2 q)
  rw [decide_eq_true this];rfl
 have g:∀x:Int,CT (Au nm cost n) ms (ER n ms ms.length) x 1=cost*(AP ms (ER n ms ms.length) 0 x).1:=λx=>by
  show 0+cost*_=_;rw [Int.zero_add];rfl
 have f:CO d 0 (Au nm cost n) ms [] 0 d=0:=RC e h (λk q=>by
  match k,q with
  | 0,_=>simp [Au]
  | 1,_=>simp;omega)
 have a:∀x,0<=x/\x<=d->By d 0 (Au nm cost n) ms [] x=0:=λx l=>RC e h (λk q=>by
  match k,q with
  | 0,_=>simp;omega)
 have c:∀x,LI d 0 (Au nm cost n) ms [] x=[cost*(AP ms (ER n ms ms.length) 0 x).1]:=λx=>by
  unfold LI;rw [h];show CN 1 _=_;rw [UG];exact congrArg (λy=>[y]) (g x)
 refine ⟨e,f,?_,a d Y,?_,?_,a 0 Y,?_,?_⟩
 ·unfold GR;rw [aU f,h];show CN 1 _=_;rw [UG];exact congrArg (λy=>[y]) b.1
 ·unfold Ch;rw [aU (a d Y),c,b.1];rfl
 ·unfold Ci;rw [aU (a d Y),c,b.1];rfl
 ·unfold Ch;rw [aU (a 0 Y),c,Mw hm];rfl
 ·unfold Ci;rw [aU (a 0 Y),c,Mw hm];rfl
end
end Go.Ns
namespace Go.Ns
open Go.Conc
section
variable {P:Program} {E:Fb P} {O:Nat->aV} {ds:List Deferred} {h:L} {T:(Nat->aV)->List Deferred->L->Prop} {dst:Option Nat} {ty:aW} {pos:String} {af:Array Edge} {gd:Option (Nat×Bool)}
theorem Xn{xt yt:aW}{x y:Operand}{a b:aX}(hx:AL O x=.string a)(hy:AL O y=.string b)(hs:a.size+b.size<=1000000)(k:T (putS O dst (.string (a++b))) ds h):BK E ⟨dst,.binOp .add xt x y yt,ty,pos,af,gd⟩ O ds h T:=by
 unfold BK execOp;simp only [hx,hy];have e:Op.stringOp .add a b=(pure (.string (a++b)):Sem aV):=by
  show (if ((a.size+b.size:Nat):Int)>IntKind.i64.max then _ else _)=_;rw [aT (by show¬((a.size+b.size:Nat):Int)>9223372036854775807;omega)]
 refine El (AC _ _ ?_);show Sem.gh P (Op.stringOp .add a b) h _;rw [e];exact k
theorem Yl{t:aW}{x lo hi:Operand}{s:aX}{kd kd':IntKind}{a b:Int}(ht:Mg P t=true)(hx:AL O x=.string s)(ha:AL O lo=.int kd a)(hb:AL O hi=.int kd' b)(h1:0<=a/\a<=b)(h2:b<=s.size)(k:T (putS O dst (.string (s.extract a.toNat b.toNat))) ds h) :
  BK E ⟨dst,.slice t x (some lo) (some hi) none,ty,pos,af,gd⟩ O ds h T:=by
 unfold BK execOp;simp only [hx];refine El ?_;unfold Mg at ht;cases c:P.underlying t with
 | none=>rw [c] at ht;cases ht
 | some d=>
  rw [c] at ht;cases d <;> first | (cases ht;done) | skip
  unfold Instr.sliceAt;refine AC _ _ (Aa c ?_);unfold Instr.slice;refine AC _ _ (Aa c ?_);dsimp only;unfold Instr.sliceBounds;simp only [Option.map_some,Option.map_none,ha,hb,Bool.false_eq_true,↓reduceIte,Option.isSome_none];obtain ⟨e,rfl⟩:∃e:Nat,a=e:=⟨a.toNat,Y⟩;obtain ⟨f,rfl⟩:∃f:Nat,b=f:=⟨b.toNat,Y⟩;refine AC _ _ (AC _ _ (Ah (AC _ _ (CP Y Y (AC _ _ (CP Y Y (Ah ?_)))))));exact Ah (by rw [Int.toNat_natCast,Int.toNat_natCast] at k;exact k)
end
section
variable {P:Program} {E:Fb P} {O:Nat->aV} {ds:List Deferred} {h:L} {T:(Nat->aV)->List Deferred->L->Prop} {dst:Option Nat} {ty:aW} {pos:String} {af:Array Edge} {gd:Option (Nat×Bool)}
theorem Ym{U:Type}{t:aW}{x:Operand}{olo ohi:Option Operand}{n:Nat}{enc:U->Array aV}{xs:List U}{v:aV}{hk:L}(lo hi:Nat)(ht:DX P t=some n)(hs:AE hk v n enc xs)(hx:AL O x=v)
  (hlo:match olo with | none=>lo=0 | some o=>∃kd,AL O o=.int kd lo) (hhi:match ohi with | none=>hi=xs.length | some o=>∃kd,AL O o=.int kd hi) (h1:lo<=hi) (h2:hi<=xs.length)
  (k:∀v',AE hk v' n enc ((xs.take hi).drop lo)->T (putS O dst v') ds h):BK E ⟨dst,.slice t x olo ohi none,ty,pos,af,gd⟩ O ds h T:=by
 have b:=hs;obtain ⟨a,c,rfl,d,_,_⟩:=b;exact Jc lo hi ht d hx hlo hhi h1 h2 (k _ (hs.part h1 h2))
end
def figsS:aX:=⟨#[48,49,50,51,52,53,54,55,56,57]⟩
def J0(n:Int):aX:=⟨#[UInt8.ofNat (48+n.toNat)]⟩
theorem fig_ext{n:Int}(h:0<=n/\n<=9):figsS.extract n.toNat (n+1).toNat=J0 n:=by
 obtain ⟨k,rfl⟩:∃k:Nat,n=k:=⟨n.toNat,Y⟩;have a:k<=9:=Y
 rw [show ((k:Int)+1).toNat=k+1 by omega,Int.toNat_natCast];unfold J0;rw [Int.toNat_natCast]
 match k,a with
 | 0,_=>decide
 | 1,_=>decide
 | 2,_=>decide
 | 3,_=>decide
 | 4,_=>decide
 | 5,_=>decide
 | 6,_=>decide
 | 7,_=>decide
 | 8,_=>decide
 | 9,_=>decide
theorem fig_ten{n:Int}(h:0<=n/\n<=9):n%10=n:=Y
theorem digS_nil{n:Int}:J0 n++(⟨#[]⟩:aX)=J0 n:=by simp [ByteArray.ext_iff,J0]
def BC(n:Int):aX:=(⟨#[103]⟩:aX)++J0 n
theorem gName_ok{n:Int}(h:0<=n/\n<=9):GO (BC n)=true:=by
 obtain ⟨k,rfl⟩:∃k:Nat,n=k:=⟨n.toNat,Y⟩;have a:k<=9:=Y
 unfold BC J0;rw [Int.toNat_natCast]
 match k,a with
 | 0,_=>decide
 | 1,_=>decide
 | 2,_=>decide
 | 3,_=>decide
 | 4,_=>decide
 | 5,_=>decide
 | 6,_=>decide
 | 7,_=>decide
 | 8,_=>decide
 | 9,_=>decide
theorem Mt.any{n:Nat}{l:List Int}(o:Mt n l){k:Nat}(hk:k<l.length):(l.take k).any (λx=>decide (l.getD k 0=x))=false:=by
 rw [List.any_eq_false];intro x a
 have:=o.no hk
 have b:¬l.getD k 0=x:=λe=>this (e▸a);simpa using b
def KC(n k:Nat)(x:Int):List Int:=(List.replicate n 0).set k x
theorem RD{n k i:Nat}{x:Int}(hk:k<n):(KC n k x).getD i 0=if i=k then x else 0:=by
 unfold KC;simp only [List.getD_eq_getElem?_getD,List.getElem?_set,List.length_replicate,List.getElem?_replicate];by_cases e:k=i
 ·subst e;simp [hk]
 ·rw [aT e];have a:¬i=k:=λq=>e q.symm;simp only [a,if_false];split <;> rfl
theorem RE{ks:List Int}{n k:Nat}{x:Int}(hk:k<n):∀j,Dd ks (KC n k x) j=if k<j then ks.getD k 0*x else 0
 | 0=>rfl
 | j+1=>by
  show Dd ks (KC n k x) j+ks.getD j 0*(KC n k x).getD j 0=_;rw [RE hk j,RD hk];by_cases e:j=k
  ·subst e;rw [aT (Nat.lt_irrefl _),aU rfl,aU (Nat.lt_succ_self _)];omega
  ·rw [aT e,Int.mul_zero];by_cases q:k<j
   ·rw [aU q,aU Y];omega
   ·rw [aT q,aT Y];omega
theorem amt_one{ks:List Int}{k:Nat}{x:Int}(hk:k<ks.length):CV ks (KC ks.length k x)=ks.getD k 0*x:=by
 unfold CV;rw [RE hk,aU hk]
def JJ(a b:Int):List AD:=if b<a then [⟨4,0,1,a-b,a-b⟩] else [⟨3,0,1,b-a,b-a⟩]
theorem coinM_ok{a b:Int}(ha:0<=a/\a<=99)(hb:0<=b/\b<=99):Mu 1 (JJ a b)/\(∀k,k<=(JJ a b).length->0<=H4 b (JJ a b) k)/\H4 b (JJ a b) (JJ a b).length=a:=by
 unfold JJ;split
 ·refine ⟨⟨aD,λk c=>?_⟩,λk c=>?_,?_⟩
  ·have:k=0:=by simpa using c
   subst this;refine ⟨show (1:Int)<=4/\(4:Int)<=4 by decide,rfl,show (1:Int)<=1/\(1:Int)<=1 by decide,show (0:Int)<=1 by decide,rfl,?_⟩;show 0<=a-b/\a-b<=99;omega
  ·match k,c with
   | 0,_=>exact hb.1
   | 1,_=>show 0<=b+signed 4 (a-b);unfold signed;simp;omega
  ·show b+signed 4 (a-b)=a;unfold signed;simp;omega
 ·refine ⟨⟨aD,λk c=>?_⟩,λk c=>?_,?_⟩
  ·have:k=0:=by simpa using c
   subst this;refine ⟨show (1:Int)<=3/\(3:Int)<=4 by decide,rfl,show (1:Int)<=1/\(1:Int)<=1 by decide,show (0:Int)<=1 by decide,rfl,?_⟩;show 0<=b-a/\b-a<=99;omega
  ·match k,c with
   | 0,_=>exact hb.1
   | 1,_=>show 0<=b+signed 3 (b-a);unfold signed;simp;omega
  ·show b+signed 3 (b-a)=a;unfold signed;simp;omega
theorem coin_R{k cost a b:Int}(hk:0<=k/\k<=9)(hc:0<=cost/\cost<=999)(ha:0<=a/\a<=99)(hb:0<=b/\b<=99):RB 1 cost b a (BC k) (JJ a b):=by
 obtain ⟨c,d,e⟩:=coinM_ok ha hb
 have:=sure_all (gName_ok hk) hc hb aC c d
 rw [e] at this;exact this
theorem coin_up{k cost a b:Int}(h:b<a)(r:RB 1 cost b a (BC k) (JJ a b)):RB 1 cost b a (BC k) [⟨4,0,1,a-b,a-b⟩]:=by unfold JJ at r;rwa [aU h] at r
theorem Yn{k cost a b:Int}(h:¬b<a)(r:RB 1 cost b a (BC k) (JJ a b)):RB 1 cost b a (BC k) [⟨3,0,1,b-a,b-a⟩]:=by unfold JJ at r;rwa [aT h] at r
theorem Na{nm:aX}{cost n:Int}(h:nm.size<=1000)(k:Nat):((Au nm cost n).getD k Good.z).name.size<=1000:=by
 match k with
 | 0=>exact h
 | k+1=>exact Nat.zero_le _
theorem lone_rng{n k:Nat}{x:Int}(hk:k<n)(hx:0<=x/\x<=30)(i:Nat):0<=(KC n k x).getD i 0/\(KC n k x).getD i 0<=30:=by
 rw [RD hk];split <;> omega
theorem lone_len{n k:Nat}{x:Int}:(KC n k x).length=n:=by simp [KC]
end Go.Ns
namespace Go.Ns
open Go.Conc
section
variable {P:Program} {Post:aV->World->Prop}
def Xo(P:Program)(Post:aV->World->Prop):Wk P:=⟨true,Dh P Post,J1⟩
theorem Se:OX (Xo P Post):=⟨Post,rfl⟩
theorem Yo{f:FuncId}{fn:Func}{c:Code}{args:Array aV}{h:L}{R:aV->L->Prop}(hf:P.funcs[f]? =some fn)(hb:fn.body=some c)(hsz:args.size<=fn.ntmps)(hin:P.inits.idxOf? f=none)(hpost:∀v h',R v h'->∀w,Dq w h'->Post v w)
  (x:Tr ⟨Xo P Post,f,none,fn.ntmps⟩ c (λi=>args.getD i undef) [] h (λe O ds h'=>(e=.normal\/e=.ret)/\FN P fn O R ds h')):Dh P Post (G (Frame.enter P f args .normal) []) h:=by
 have u:Frame.enter P f args .normal=CR (Frame.enter P f args .normal) (args++Array.replicate (fn.ntmps-args.size) undef) [] [.code c]:=by
  simp [Frame.enter,CR,hf,hb]
 rw [u];let y:Lv:=λj t ds h'=>(j=none\/j=some .ret)/\∃O,BP t fn.ntmps O/\FN P fn O R ds h';have d:∀O ds h' t k,BP t fn.ntmps O->FN P fn O R ds h'->(Xo P Post).K (G (DW (Frame.enter P f args .normal) t ds k) []) h':=by
  intro O ds h' t k g a;refine Me (W:=Xo P Post) (R:=R) hf (b:=Frame.enter P f args .normal) rfl (λt k v h h' z l=>?_) ds h' t k g a;refine U7 rfl λw A=>?_;obtain ⟨p,q,B,r⟩:=l w A;refine ⟨v,p,seen P f q++ #[],h',?_,r.sub (es':=seen P f q++ #[]) λe n=>?_,hpost v h' z p r.fits⟩
  ·rw [KG];unfold unwind;have o:(DW (Frame.enter P f args .normal) t [] k).fn=f:=rfl;have C:(DW (Frame.enter P f args .normal) t [] k).kind=.normal:=rfl;have D:(DW (Frame.enter P f args .normal) t [] k).mode=.returning:=rfl;have E:(DW (Frame.enter P f args .normal) t [] k).defers=[]:=rfl;have F:(DW (Frame.enter P f args .normal) t [] k).tmps=t:=rfl;simp only [E,D,o,hf,F,B,GStep.after,doReturn,C,hin];rfl
  ·rw [Array.append_empty] at n;exact mem_seen n
 refine x (Frame.enter P f args .normal) [] [] y _ rfl rfl ⟨?_,?_,?_⟩ ⟨by simp;omega,λi=>?_⟩ ?_
 ·rintro t ds h' ⟨_,O,g,a⟩;exact Wk.go (DW (Frame.enter P f args .normal) t ds []) (λw=>by rw [Aq];simp [stepG.exec,CR,DW,G,Frame.enter]) (d O ds h' t [] g a)
 ·rintro t ds h' k ⟨_,O,g,a⟩;exact Wk.go (DW (Frame.enter P f args .normal) t ds (.code .ret ::k)) (λw=>by rw [Aq];simp [stepG.exec,CR,DW,G,Frame.enter]) (d O ds h' t _ g a)
 ·rintro id t ds h' k _ ⟨h1 | h1,_⟩ <;> cases h1
 ·by_cases H:i<args.size
  ·simp [Array.getD_eq_getD_getElem?,Array.getElem?_append_left H]
  ·simp only [Array.getD_eq_getD_getElem?];rw [Array.getElem?_append_right Y,Array.getElem?_eq_none (show args.size<=i by omega),Array.getElem?_replicate];split <;> rfl
 ·rintro e O ds h' ⟨n,a⟩ s m;rcases n with rfl | rfl
  ·exact Wk.go (DW (Frame.enter P f args .normal) s ds []) (λw=>by rw [Aq];simp [stepG.exec,CR,DW,G,Frame.enter]) (d O ds h' s [] m a)
  ·exact ⟨.inr rfl,O,m,a⟩
def L.of(W:World):L:=λb=>(W.heap[b]?).map λo=>(false,o)
theorem L.of_some{W:World}{b:Nat}{o:Obj}(h:W.heap[b]? =some o):L.of W b=some (false,o):=by unfold L.of;rw [h];rfl
theorem fits_of(W:World):Dq W (L.of W):=λb p o h=>by
 unfold L.of at h;cases e:W.heap[b]? with
 | none=>rw [e] at h;cases h
 | some x=>rw [e] at h;cases h;rfl
theorem kept_of{W w:World}{h:L}(l:(L.of W).Le h)(f:Dq w h){b:Nat}{o:Obj}(hb:W.heap[b]? =some o):w.heap[b]? =some o:=f b _ _ (l.keep (L.of_some hb) rfl)
theorem Vz{g:Goroutine}{W:World}(hg:Dh P Post g (L.of W)):Bb P (IF Post W.os W.output) (solo g W) #[]:=by
 have c:∀k a,touchAt (#[]:Trace) k=some a->False:=λk a h=>by
  obtain ⟨f,m,_⟩:=touch_of h;simp at m
 refine hg #[g] W none (λ_=>0) #[] ⟨rfl,?_,fits_of W,?_,?_,λk a b e=>(c k a e).elim,?_,λk a e=>(c k a e).elim,λb p o k a _ _ e=>(c k a e).elim⟩
 ·intro j x r l;rw [Array.getElem?_eq_none (by simp;omega)] at l;cases l
 ·intro f d;simp at d
 ·rintro said ⟨i,j,n,⟨a,b,q,_⟩,_⟩;exact c i a q
 ·intro f d;simp at d
end
end Go.Ns
namespace Go.Ns
open Go.Conc Go.ChangeShapes Go.WideShapes Go.ChangeAt Go.RowKit
section
variable {P:Program} {W:World}
theorem On{b off n:Nat}{cs:List aV}(h:W.cells? 0 ⟨b,off,none⟩ n=some cs)(hn:0<n):AR (L.of W) b off n cs.toArray:=by
 obtain ⟨_,p,k⟩:=World.cells?_some h;have hcell:∀i,i<n->W.cell? ⟨b,off+i,none⟩=cs[i]? :=λi d=>by
  have:=k i d
  unfold Addr.add at this;split at this
  ·rename_i e;subst e;exact this
  ·exact this
 have j:=hcell 0 hn;unfold World.cell? at j;cases g:W.heap[b]? with
 | none=>simp [g,List.getElem?_eq_getElem (show 0<cs.length by omega)] at j
 | some o=>
  cases o with
  | cells c t f=>
   have a:∀i,i<n->c[off+i]? =cs[i]? :=λi d=>by
    have:=hcell i d
    unfold World.cell? at this;simpa [g] using this
   have hlast:=a (n-1) Y;rw [List.getElem?_eq_getElem (show n-1<cs.length by omega)] at hlast;have l:=(Array.getElem?_eq_some_iff.1 hlast).1;refine ⟨false,c,t,f,L.of_some g,Y,?_⟩;apply Array.ext
   ·simp;omega
   ·intro i q m;have d:i<n:=by simp at m;omega
    have:=a i d
    rw [Array.getElem?_eq_getElem Y,List.getElem?_eq_getElem Y] at this;simpa using this
  | _=>simp [g,List.getElem?_eq_getElem (show 0<cs.length by omega)] at j
def Opens(P:Program)(e:aW){U:Type}(enc:U->Array aV)(good:U->Prop):Prop:=
 ∀{H:Type}(en:aW×aV->H)(W:World)(base:Nat)(sp:Nat->Bool)(held:Bool)(fuel:Nat)(cs:List aV)(x:DataW H×List MemPlace),DataW.trod en P W base sp held fuel e cs=some x->∃a:U,cs=(enc a).toList/\good a
theorem open_sl{H:Type}{en:aW×aV->H}{sp:Nat->Bool}{held:Bool}{fuel:Nat}{t e:aW}{n:Nat}{U:Type}{enc:U->Array aV}{good:U->Prop}{v:aV}{d:DataW H}{ps:List MemPlace}(ht:P.underlying t=some (.slice e))(hc:P.cellsOf e=n)(hn:0<n)
  (ho:Opens P e enc good) (h:DataW.trod en P W 0 sp held fuel t [v]=some (d,ps)) (hw:∀es rs,d=.slice es rs->es.length<=140737488355328):∃xs:List U,AE (L.of W) v n enc xs/\∀x ∈ xs,good x:=by
 rcases DataW.trod_slice ht h with ⟨o,_⟩ | ⟨a,f,p,elems,rest,m,rfl,o,C,_,E,_,q,r,_,_⟩
 ·simp at o;subst o;exact ⟨[],AE.nil _ _ _,λx j=>by cases j⟩
 ·simp only [List.cons.injEq,and_true] at o;subst o;simp only [Prod.mk.injEq] at C;have s:f<=140737488355328:=by
   have:=hw _ _ C.1
   simpa [q] using this
  have each:∀i,i<f->∃x:U,∃b c,a=⟨b,c,none⟩/\AR (L.of W) b (c+i*n) n (enc x)/\good x:=λi l=>by
   have:=r i l
   rw [List.getElem?_eq_getElem Y,hc] at this;simp only [Option.bind_eq_some_iff] at this;obtain ⟨F,g,j⟩:=this;obtain ⟨x,w,y⟩:=ho _ _ _ _ _ _ _ _ j;have u:=(World.cells?_some g).2.2 0 hn;have A:=(World.cells?_some g).2.1;rw [List.getElem?_eq_getElem (show 0<F.length by omega)] at u;have B:=World.cell?_spot u;obtain ⟨b,c,spot⟩:=a;have hspot:spot=none\/i≠0:=by
    by_cases D:i=0
    ·subst D;left;simpa [Addr.add] using B
    ·exact .inr D
   have hfirst:spot=none:=by
    rcases hspot with e | e
    ·exact e
    ·have h00:=r 0 Y;rw [List.getElem?_eq_getElem Y,hc] at h00;simp only [Option.bind_eq_some_iff] at h00;obtain ⟨K,hc00,_⟩:=h00;have z:=(World.cells?_some hc00).2.2 0 hn;have R:=(World.cells?_some hc00).2.1;rw [List.getElem?_eq_getElem (show 0<K.length by omega)] at z
     have:=World.cell?_spot z
     simpa [Addr.add] using this
   subst hfirst;refine ⟨x,b,c,rfl,?_,y⟩;have N:(Addr.add ⟨b,c,none⟩ (i*n))=⟨b,c+i*n,none⟩:=by
    unfold Addr.add;split
    ·rename_i e;rw [e];rfl
    ·rfl
   rw [N] at g
   have:=On g hn
   rw [w] at this;simpa using this
  by_cases O:f=0
  ·subst O;exact ⟨[],⟨some a,p,rfl,Nat.zero_le _,Nat.zero_le _,λi l=>by simp at l⟩,λx j=>by cases j⟩
  ·have k:∀i:Fin f,∃x:U,∃b c,a=⟨b,c,none⟩/\AR (L.of W) b (c+i.val*n) n (enc x)/\good x:=λi=>each i.val i.isLt;refine ⟨List.ofFn λi=>Classical.choose (k i),⟨some a,p,by rw [List.length_ofFn],by rw [List.length_ofFn];exact E,by rw [List.length_ofFn];exact s,λi l=>?_⟩,λx j=>?_⟩
   ·rw [List.length_ofFn] at l;obtain ⟨b,c,w,y,_⟩:=Classical.choose_spec (k ⟨i,l⟩);refine ⟨b,c,by rw [w],?_⟩;rw [List.getElem_ofFn];exact y
   ·obtain ⟨i,rfl⟩:=List.mem_ofFn.1 j;obtain ⟨_,_,_,_,Q⟩:=Classical.choose_spec (k i);exact Q
def MF(P:Program)(W:World)(e:aW){U:Type}(enc:U->Array aV)(good:U->Prop):Prop:=
 ∀{H:Type}(en:aW×aV->H)(sp:Nat->Bool)(held:Bool)(fuel:Nat)(cs:List aV)(x:DataW H×List MemPlace),DataW.trod en P W 0 sp held fuel e cs=some x->(∀y ∈ x.1.weights P e,y<=reachBytes)->∃a:U,cs=(enc a).toList/\good a
theorem JK{H:Type}{e:aW}{d:DataW H}{y:Nat}:∀{l:List (DataW H)},d ∈ l->y ∈ d.weights P e->y ∈ DataW.weightsAll P e l
 | c ::l,hd,a=>by
  unfold DataW.weightsAll;rcases List.mem_cons.1 hd with rfl | hd
  ·exact List.mem_append_left _ a
  ·exact List.mem_append_right _ (JK hd a)
theorem H5{H:Type}{en:aW×aV->H}{sp:Nat->Bool}{held:Bool}{fuel:Nat}{t e:aW}{n:Nat}{U:Type}{enc:U->Array aV}{good:U->Prop}{v:aV}{d:DataW H}{ps:List MemPlace}(ht:P.underlying t=some (.slice e))(hc:P.cellsOf e=n)(hn:0<n)
  (hb:1<=P.bytesOf e) (ho:MF P W e enc good) (h:DataW.trod en P W 0 sp held fuel t [v]=some (d,ps)) (hw:∀y ∈ d.weights P t,y<=reachBytes):∃xs:List U,AE (L.of W) v n enc xs/\∀x ∈ xs,good x:=by
 rcases DataW.trod_slice ht h with ⟨o,_⟩ | ⟨a,f,p,elems,rest,m,rfl,o,C,_,N,_,D,q,_,_⟩
 ·simp at o;subst o;exact ⟨[],AE.nil _ _ _,λx j=>by cases j⟩
 ·simp only [List.cons.injEq,and_true] at o;subst o;simp only [Prod.mk.injEq] at C;have E:d=.slice (elems.map (·.1)) (rest.map (·.1)):=C.1;have r:f<=140737488355328:=by
   have:=hw ((elems.map (·.1)).length+(rest.map (·.1)).length |>.mul (P.bytesOf e)) (by rw [E];unfold DataW.weights;rw [ht];exact List.mem_cons_self ..)
   have O:(elems.map (·.1)).length+(rest.map (·.1)).length<=((elems.map (·.1)).length+(rest.map (·.1)).length)*P.bytesOf e:=Nat.le_mul_of_pos_right _ hb;have F:((elems.map (·.1)).length+(rest.map (·.1)).length)*P.bytesOf e<=reachBytes:=this;rw [List.length_map] at O F;unfold reachBytes at F;omega
  have each:∀i,i<f->∃x:U,∃b c,a=⟨b,c,none⟩/\AR (L.of W) b (c+i*n) n (enc x)/\good x:=λi l=>by
   have:=q i l
   rw [List.getElem?_eq_getElem Y,hc] at this;simp only [Option.bind_eq_some_iff] at this;obtain ⟨Q,g,j⟩:=this;obtain ⟨x,u,w⟩:=ho _ _ _ _ _ _ j λy R=>hw y (by rw [E];unfold DataW.weights;rw [ht];exact List.mem_cons_of_mem _ (List.mem_append_left _ (JK (List.mem_map.2 ⟨_,List.getElem_mem (show i<elems.length by omega),rfl⟩) R)));have s:=(World.cells?_some g).2.2 0 hn;have A:=(World.cells?_some g).2.1;rw [List.getElem?_eq_getElem (show 0<Q.length by omega)] at s;have B:=World.cell?_spot s;obtain ⟨b,c,spot⟩:=a;have hspot:spot=none\/i≠0:=by
    by_cases K:i=0
    ·subst K;left;simpa [Addr.add] using B
    ·exact .inr K
   have hfirst:spot=none:=by
    rcases hspot with e | e
    ·exact e
    ·have h00:=q 0 Y;rw [List.getElem?_eq_getElem Y,hc] at h00;simp only [Option.bind_eq_some_iff] at h00;obtain ⟨S,hc00,_⟩:=h00;have z:=(World.cells?_some hc00).2.2 0 hn;have zl:=(World.cells?_some hc00).2.1;rw [List.getElem?_eq_getElem (show 0<S.length by omega)] at z
     have:=World.cell?_spot z
     simpa [Addr.add] using this
   subst hfirst;refine ⟨x,b,c,rfl,?_,w⟩;have T:(Addr.add ⟨b,c,none⟩ (i*n))=⟨b,c+i*n,none⟩:=by
    unfold Addr.add;split
    ·rename_i e;rw [e];rfl
    ·rfl
   rw [T] at g
   have:=On g hn
   rw [u] at this;simpa using this
  by_cases X:f=0
  ·subst X;exact ⟨[],⟨some a,p,rfl,Nat.zero_le _,Nat.zero_le _,λi l=>by simp at l⟩,λx j=>by cases j⟩
  ·have k:∀i:Fin f,∃x:U,∃b c,a=⟨b,c,none⟩/\AR (L.of W) b (c+i.val*n) n (enc x)/\good x:=λi=>each i.val i.isLt;refine ⟨List.ofFn λi=>Classical.choose (k i),⟨some a,p,by rw [List.length_ofFn],by rw [List.length_ofFn];exact N,by rw [List.length_ofFn];exact r,λi l=>?_⟩,λx j=>?_⟩
   ·rw [List.length_ofFn] at l;obtain ⟨b,c,u,w,_⟩:=Classical.choose_spec (k ⟨i,l⟩);refine ⟨b,c,by rw [u],?_⟩;rw [List.getElem_ofFn];exact w
   ·obtain ⟨i,rfl⟩:=List.mem_ofFn.1 j;obtain ⟨_,_,_,_,e3⟩:=Classical.choose_spec (k i);exact e3
theorem MG{H:Type}{en:aW×aV->H}{t:aW}(hl:laidOutB P=true)(hr:P.readableRec t=true)(hrow:t<P.types.size){W':World}{v:aV}{d:DataW H}{ps:List MemPlace}(h:DataW.Trod en P W 0 (λ_=>true) true t v d ps)
  (hk:∀(b:Nat)(o:Obj),W.heap[b]? =some o->W'.heap[b]? =some o) (hlt:∀x ∈ ps,x.block<W.heap.size):DataW.Trod en P W' 0 (λb=>decide (b<W.heap.size)) true t v d ps:=by
 let W2:World:={ W' with os:=W.os,tape:=W.tape,output:=W.output };have c:W.heap.size<=W'.heap.size:=by
  rcases Nat.lt_or_ge W'.heap.size W.heap.size with x | x
  ·have:=hk W'.heap.size _ (Array.getElem?_eq_getElem x)
   rw [Array.getElem?_eq_none (Nat.le_refl _)] at this;cases this
  ·exact x
 have e:Below W.heap.size W W2:=⟨rfl,rfl,rfl,c,λk a=>by
  show W'.heap[k]? =_;rw [Array.getElem?_eq_getElem a];exact hk k _ (Array.getElem?_eq_getElem a)⟩
 exact DataW.Trod.of_heap (w:=W2) (w':=W') rfl (Below.trod hl hr hrow h e hlt)
theorem kept_but{W':World}(hk:∀(b:Nat)(o:Obj),W.heap[b]? =some o->W'.heap[b]? =some o)(ho:W'.os=W.os)(hp:W'.output=W.output)(may:MemPlace->Prop):W.keptBut W' may:=by
 refine ⟨ho,hp,λi a=>?_⟩;rw [hk i _ (Array.getElem?_eq_getElem a),Array.getElem?_eq_getElem a];split <;> simp_all
end
end Go.Ns
namespace Go.Ns
open Go.Conc
universe u
theorem Z{U:Sort u}{a:U}:a=a:=rfl
theorem Lr{h:L}:L.Le h h:=L.Le.refl h
theorem Ln{h h':L}(l:h.Le h'){r:Nat}(hr:h' r=none):h r=none:=l.nothing hr
theorem B7{h:L}{b r:Nat}{p:Bool}{o:Obj}(hb:h b=some (p,o))(hr:h r=none):b≠r:=L.ne_of hb hr
theorem Nb{a b:Nat}(h:Nat.ble a b=true):a<=b:=Nat.le_of_ble_eq_true h
theorem Dn{p:Prop}[Decidable p](h:¬¬p):p:=Decidable.not_not.1 h
theorem Et{U:Sort u}{a b c:U}(x:a=b)(y:b=c):a=c:=x.trans y
theorem Kl{h0 h:L}(k:Dx (λb=>h0 b=none) h0 h):h0.Le h:=k.leOf
theorem Bx{h:L}{b:Nat}{p:Bool}{c:Array aV}{t:aW}{f:Nat×Nat}(hb:h b=some (p,.cells c t f)){n:Nat}(hn:c.size=n):AR h b 0 n c:=AR.box hb hn
abbrev lE(v:aV):Fe:=λ_ u _=>u=v
abbrev lF(v:aV):Pa:=λu _=>u=v
abbrev zP:Array aV:=#[.int .i64 0,.int .i64 0,.slice none 0 0,.slice none 0 0,.slice none 0 0,.slice none 0 0,.map none]
section
variable {P:Program} {E:Fb P} {O:Nat->aV} {ds:List Deferred} {h:L} {Q:Post} {T:(Nat->aV)->List Deferred->L->Prop}
variable {dst:Option Nat} {ty:aW} {pos:String} {af:Array Edge} {ops:Array Oper} {o:Oper} {l:List Oper}
theorem Sq{x y:Code}(a:Tr E x O ds h (λe σ' ds' h'=>match e with | .normal=>Tr E y σ' ds' h' Q | e=>Q e σ' ds' h')):Tr E (.seq x y) O ds h Q:=tr_seq a
theorem Rg{id:Nat}{l:List Oper}(a:C5 E l.toArray l O ds h Q):Tr E (.region id l.toArray false) O ds h Q:=X2 a
theorem M(q:Q .normal O ds h):C5 E ops [] O ds h Q:=trL_nil q
abbrev Rt:=@tr_ret
abbrev Bk:=@tr_block
abbrev Sk:=@tr_skip
abbrev Xt:=@tr_exit
def plainB(N:Nat)(o:Oper):Bool:=o.guard.isNone && !D6 o.op && C9 o.dst N
theorem V(hp:plainB E.N o=true)(x:BK E o O ds h λσ' ds' h'=>C5 E ops l σ' ds' h' Q):C5 E ops (o ::l) O ds h Q:=by
 simp only [plainB,Bool.and_eq_true,Option.isNone_iff_eq_none,Bool.not_eq_true'] at hp;exact Fh hp.1.1 hp.1.2 hp.2 x
theorem Mv{x:Operand}(v:aV)(hp:C9 dst E.N=true)(hx:AL O x=v)(k:C5 E ops l (putS O dst v) ds h Q):C5 E ops (⟨dst,.move x,ty,pos,af,none⟩ ::l) O ds h Q:=Fh rfl rfl hp (Rk hx k)
theorem As{x:Operand}(v:aV)(hp:C9 dst E.N=true)(hx:AL O x=v)(k:C5 E ops l (putS O dst v) ds h Q):C5 E ops (⟨dst,.assign x,ty,pos,af,none⟩ ::l) O ds h Q:=Fh rfl rfl hp (Gl hx k)
theorem Ld{t:aW}{x:Operand}{b off:Nat}(v:aV)(hp:C9 dst E.N=true)(hx:AL O x=.pointer (some ⟨b,off,none⟩))(hr:Rd P h t b off v)(k:C5 E ops l (putS O dst v) ds h Q):C5 E ops (⟨dst,.load t x,ty,pos,af,none⟩ ::l) O ds h Q:=
 Fh rfl rfl hp (Cf hx hr k)
theorem Fa{s:aW}{x:Operand}{f o b off:Nat}(hf:CF P s f=some o)(hp:C9 dst E.N=true)(hx:AL O x=.pointer (some ⟨b,off,none⟩))(k:C5 E ops l (putS O dst (.pointer (some ⟨b,off+o,none⟩))) ds h Q) :
  C5 E ops (⟨dst,.fieldAddr s x f,ty,pos,af,none⟩ ::l) O ds h Q:=Fh rfl rfl hp (AI hf hx k)
theorem Pk{c a b:Operand}(t:Bool)(v:aV)(hp:C9 dst E.N=true)(hc:AL O c=.bool t)(hv:(if t then AL O a else AL O b)=v)(k:C5 E ops l (putS O dst v) ds h Q):C5 E ops (⟨dst,.pick c a b,ty,pos,af,none⟩ ::l) O ds h Q:=
 Fh rfl rfl hp (BO hc hv k)
theorem Ad{xt yt:aW}{x y:Operand}(a b:Int)(hp:C9 dst E.N=true)(hx:AL O x=.int .i64 a)(hy:AL O y=.int .i64 b)(hr: -9223372036854775808<=a+b/\a+b<=9223372036854775807)(k:C5 E ops l (putS O dst (.int .i64 (a+b))) ds h Q) :
  C5 E ops (⟨dst,.binOp .add xt x y yt,ty,pos,af,none⟩ ::l) O ds h Q:=Fh rfl rfl hp (CW hx hy hr k)
def skipB(N:Nat)(ops:Array Oper)(o:Oper)(j d:Nat)(is:Bool):Bool:=(match o.guard with
 | some (i,w)=>i==j && w !=is
 | none=>false) && (match ops[j]? with
 | some oj=>(match oj.dst with
  | some e=>e==d
  | none=>false)
 | none=>false) && Nat.blt d N && C9 o.dst N
theorem Gs(j d:Nat){is:Bool}(hv:O d=.bool is)(hs:skipB E.N ops o j d is=true)(x:C5 E ops l (putS O o.dst undef) ds h Q):C5 E ops (o ::l) O ds h Q:=by
 simp only [skipB,Bool.and_eq_true] at hs;obtain ⟨⟨⟨a,b⟩,m⟩,n⟩:=hs;cases f:o.guard with
 | none=>rw [f] at a;cases a
 | some q=>
  obtain ⟨i,w⟩:=q;rw [f] at a;simp only [Bool.and_eq_true,beq_iff_eq,bne_iff_ne,ne_eq] at a;obtain ⟨rfl,g⟩:=a;cases c:ops[i]? with
  | none=>rw [c] at b;cases b
  | some p=>
   cases k:p.dst with
   | none=>simp [c,k] at b
   | some e=>
    obtain rfl:e=d:=by simpa [c,k] using b
    exact Nf f c k hv m g n x
def goB(N:Nat)(ops:Array Oper)(o:Oper)(j d:Nat)(is:Bool):Bool:=(match o.guard with
 | some (i,w)=>i==j && w==is
 | none=>false) && (match ops[j]? with
 | some oj=>(match oj.dst with
  | some e=>e==d
  | none=>false)
 | none=>false) && Nat.blt d N && !D6 o.op && C9 o.dst N
theorem Gg(j d:Nat){is:Bool}(hv:O d=.bool is)(hs:goB E.N ops o j d is=true)(x:BK E o O ds h λσ' ds' h'=>C5 E ops l σ' ds' h' Q):C5 E ops (o ::l) O ds h Q:=by
 simp only [goB,Bool.and_eq_true,Bool.not_eq_true'] at hs;obtain ⟨⟨⟨⟨a,b⟩,k⟩,m⟩,n⟩:=hs;cases f:o.guard with
 | none=>rw [f] at a;cases a
 | some q=>
  obtain ⟨i,w⟩:=q;rw [f] at a;simp only [Bool.and_eq_true,beq_iff_eq] at a;obtain ⟨rfl,rfl⟩:=a;cases c:ops[i]? with
  | none=>rw [c] at b;cases b
  | some p=>
   cases g:p.dst with
   | none=>simp [c,g] at b
   | some e=>
    obtain rfl:e=d:=by simpa [c,g] using b
    exact trL_opg f c g hv k (.inr m) n x
end
section
variable {S:Nat->Prop} {Pre:Nat->L->Prop} {Φ:List Fe} {cl:List Nat} {k d:Nat} {h h':L} {O:Nat->aV} {ds:List Deferred} {v:aV}
theorem fL{Φ:List Pa}(p:Kw Φ k v h):ds=ds/\L.Le h h/\∃w,putS O (some d) v=putS O (some d) w/\Kw Φ k w h:=⟨rfl,L.Le.refl _,_,rfl,p⟩
theorem K1{R:L->L->Prop}{Φ:List Pa}{a:aV}(x:E7 R Φ):E7 R (lF a ::Φ):=⟨λ_ _ _ _ y=>y,x⟩
theorem K2{R:L->L->Prop}{Φ:List Pa}{a b:aV}(x:E7 R Φ):E7 R (lF a ::lF b ::Φ):=K1 (K1 x)
theorem K4{R:L->L->Prop}{Φ:List Pa}{a b c d:aV}(x:E7 R Φ):E7 R (lF a ::lF b ::lF c ::lF d ::Φ):=K2 (K2 x)
theorem K8{R:L->L->Prop}{Φ:List Pa}{a b c d a' b' c' d':aV}(x:E7 R Φ):E7 R (lF a ::lF b ::lF c ::lF d ::lF a' ::lF b' ::lF c' ::lF d' ::Φ):=K4 (K4 x)
end
end Go.Ns
namespace Go.Ns
open Go.Conc
section
variable {S:Nat->Prop} {Pre:Nat->L->Prop} {Φ:List Fe} {cl:List Nat} {k d:Nat} {h h':L} {O:Nat->aV} {ds:List Deferred} {v:aV}
theorem fS(p:E8 Φ k (putS O (some d) v) v h):ds=ds/\St (Dx S) Pre Φ cl k h h/\∃w,putS O (some d) v=putS O (some d) w/\E8 Φ k (putS O (some d) v) w h/\((some d:Option Nat)=none->w=undef):=
 ⟨rfl,St.same,_,rfl,p,λe=>by cases e⟩
theorem fT(l:h.Le h')(m:Ds L.Le Φ)(p:E8 Φ k (putS O (some d) v) v h'):ds=ds/\St (Dx S) (λ_ _=>True) Φ cl k h h'/\∃w,putS O (some d) v=putS O (some d) w/\E8 Φ k (putS O (some d) v) w h'/\((some d:Option Nat)=none->w=undef):=
 ⟨rfl,St.ofLe l m (λ_ _ _ _ _=>trivial),_,rfl,p,λe=>by cases e⟩
theorem L1{R:L->L->Prop}{a:aV}(x:Ds R Φ):Ds R (lE a ::Φ):=⟨λ_ _ _ _ _ y=>y,x⟩
theorem L2{R:L->L->Prop}{a b:aV}(x:Ds R Φ):Ds R (lE a ::lE b ::Φ):=L1 (L1 x)
theorem L4{R:L->L->Prop}{a b c d:aV}(x:Ds R Φ):Ds R (lE a ::lE b ::lE c ::lE d ::Φ):=L2 (L2 x)
theorem L8{R:L->L->Prop}{a b c d a' b' c' d':aV}(x:Ds R Φ):Ds R (lE a ::lE b ::lE c ::lE d ::lE a' ::lE b' ::lE c' ::lE d' ::Φ):=L4 (L4 x)
end
theorem Dk{P:Program}{E:Fb P}{S:Nat->Prop}{id:Nat}{l:List Oper}{O:Nat->aV}{ds:List Deferred}{h:L}{Q:Post}{Φ:List Fe}(_:Ds L.Le Φ)(n:Nat)(cls:List (List Nat))(Pre:Nat->L->Prop)
  (hm:P.follows .mixedOrders=true) (ok:Eg E.N l n cls=true) (p0:∀k,k<n->Pre k h) (ind:R9 l n cls Φ) (x:I6 (Dx S) Pre E l n Φ O ds h Q n 0 l cls):Tr E (.region id l.toArray true) O ds h Q:=
 YC n cls Φ Pre hm ok p0 ind x
end Go.Ns
namespace Go.Ns
open Go.Conc
section
variable {P:Program} {E:Fb P} {O:Nat->aV} {ds:List Deferred} {h:L} {Q:Post} {T:(Nat->aV)->List Deferred->L->Prop}
variable {dst:Option Nat} {ty:aW} {pos:String} {af:Array Edge} {ops:Array Oper} {o:Oper} {l:List Oper} {gd:Option (Nat×Bool)}
theorem Mz{x:Operand}(v:aV)(e:(C9 dst E.N,AL O x)=(true,v))(k:C5 E ops l (putS O dst v) ds h Q):C5 E ops (⟨dst,.move x,ty,pos,af,none⟩ ::l) O ds h Q:=Mv v (congrArg Prod.fst e) (congrArg Prod.snd e) k
theorem I{x:Operand}(v:aV)(e:(C9 dst E.N,AL O x)=(true,v))(k:C5 E ops l (putS O dst v) ds h Q):C5 E ops (⟨dst,.assign x,ty,pos,af,none⟩ ::l) O ds h Q:=As v (congrArg Prod.fst e) (congrArg Prod.snd e) k
theorem Lz{t:aW}{x:Operand}{b off:Nat}(v:aV)(e:(C9 dst E.N,AL O x)=(true,.pointer (some ⟨b,off,none⟩)))(hr:Rd P h t b off v)(k:C5 E ops l (putS O dst v) ds h Q):C5 E ops (⟨dst,.load t x,ty,pos,af,none⟩ ::l) O ds h Q:=
 Ld v (congrArg Prod.fst e) (congrArg Prod.snd e) hr k
theorem Fz{s:aW}{x:Operand}{f o b off:Nat}(hf:CF P s f=some o)(e:(C9 dst E.N,AL O x)=(true,.pointer (some ⟨b,off,none⟩)))(k:C5 E ops l (putS O dst (.pointer (some ⟨b,off+o,none⟩))) ds h Q) :
  C5 E ops (⟨dst,.fieldAddr s x f,ty,pos,af,none⟩ ::l) O ds h Q:=Fa hf (congrArg Prod.fst e) (congrArg Prod.snd e) k
theorem Pz{c a b:Operand}(t:Bool)(v:aV)(e:(C9 dst E.N,AL O c,(if t then AL O a else AL O b))=(true,.bool t,v))(k:C5 E ops l (putS O dst v) ds h Q):C5 E ops (⟨dst,.pick c a b,ty,pos,af,none⟩ ::l) O ds h Q:=
 Pk t v (congrArg Prod.fst e) (congrArg (λq=>q.2.1) e) (congrArg (λq=>q.2.2) e) k
theorem Yd{xt yt:aW}{x y:Operand}{a b:Int}(e:(C9 dst E.N,AL O x,AL O y)=(true,.int .i64 a,.int .i64 b))(hr: -9223372036854775808<=a+b/\a+b<=9223372036854775807)(k:C5 E ops l (putS O dst (.int .i64 (a+b))) ds h Q) :
  C5 E ops (⟨dst,.binOp .add xt x y yt,ty,pos,af,none⟩ ::l) O ds h Q:=Ad a b (congrArg Prod.fst e) (congrArg (λq=>q.2.1) e) (congrArg (λq=>q.2.2) e) hr k
theorem Mo{x:Operand}(v:aV)(hx:AL O x=v)(k:T (putS O dst v) ds h):BK E ⟨dst,.move x,ty,pos,af,gd⟩ O ds h T:=Rk hx k
theorem Lo{t:aW}{x:Operand}{b off:Nat}(v:aV)(hx:AL O x=.pointer (some ⟨b,off,none⟩))(hr:Rd P h t b off v)(k:T (putS O dst v) ds h):BK E ⟨dst,.load t x,ty,pos,af,gd⟩ O ds h T:=Cf hx hr k
theorem Ex{x:Operand}{n:Nat}{vs:Array aV}(v:aV)(e:(AL O x,vs[n]?)=(.tuple vs,some v))(k:T (putS O dst v) ds h):BK E ⟨dst,.extract x n,ty,pos,af,gd⟩ O ds h T:=KI (congrArg Prod.fst e) (congrArg Prod.snd e) k
theorem Bo{t:aW}{x:Operand}{v:aV}(c:Array aV)(hx:AL O x=v)(hc:v.cells=c)
  (k:∀r h',h r=none->h.Le h'->h' r=some (true,.cells c t (0,0))->(∀b,b≠r->h' b=h b)->T (putS O dst (.pointer (some ⟨r,0,none⟩))) ds h'):BK E ⟨dst,.box t x,ty,pos,af,gd⟩ O ds h T:=ok_box' hx hc k
theorem So{t:aW}{a x:Operand}{b off n:Nat}{g:Bool}{c:Array aV}{et:aW}(v:aV)(c':Array aV)(ht:Bh P t=some (g,n))(e:(AL O a,AL O x)=(.pointer (some ⟨b,off,none⟩),v))(hb:h b=some (true,.cells c et (0,0)))
  (e2:(v.cells.size,Value.fine v)=(n,true)) (hn:off+n<=c.size) (hc:BD c off v.cells.toList=c') (k:∀h',h' b=some (true,.cells c' et (0,0))->(∀x,x≠b->h' x=h x)->T (putS O dst undef) ds h') :
  BK E ⟨dst,.store t a x,ty,pos,af,gd⟩ O ds h T:=AZ ht (congrArg Prod.fst e) (congrArg Prod.snd e) hb (congrArg Prod.fst e2) (congrArg Prod.snd e2) hn hc k
theorem Ot{fn:Func}{R:aV->L->Prop}{t:Tmp}(v:aV)(e:(fn.results,O t)=(#[.tmp t],v))(x:R v h):FN P fn O R [] h:=J3 (congrArg Prod.fst e) (congrArg Prod.snd e) x
theorem Ou{fn:Func}{R:aV->L->Prop}{t u:Tmp}(v v':aV)(e:(fn.results,O t,O u)=(#[.tmp t,.tmp u],v,v'))(x:R (.tuple #[v,v']) h):FN P fn O R [] h:=outs2 (congrArg Prod.fst e) (congrArg (λq=>q.2.1) e) (congrArg (λq=>q.2.2) e) x
theorem Sr{id:Nat}{y:Code}(a:C5 E l.toArray l O ds h (λe σ' ds' h'=>match e with | .normal=>Tr E y σ' ds' h' Q | e=>Q e σ' ds' h')):Tr E (.seq (.region id l.toArray false) y) O ds h Q:=Sq (Rg a)
theorem S2{id:Nat}{y z:Code}(a:C5 E l.toArray l O ds h (λe σ' ds' h'=>match e with | .normal=>Tr E y σ' ds' h' (λe σ' ds' h'=>match e with | .normal=>Tr E z σ' ds' h' Q | e=>Q e σ' ds' h') | e=>(λe σ' ds' h'=>match e with | .normal=>Tr E z σ' ds' h' Q | e=>Q e σ' ds' h') e σ' ds' h')) :
  Tr E (.seq (.seq (.region id l.toArray false) y) z) O ds h Q:=Sq (Sq (Rg a))
theorem Zr{U:Type}{a b:U}:a=b\/a=a:=.inr rfl
theorem M2{x x':Operand}{dst':Option Nat}{ty':aW}{pos':String}{af':Array Edge}(v v':aV)(e:(C9 dst E.N,AL O x,C9 dst' E.N,AL (putS O dst v) x')=(true,v,true,v'))(k:C5 E ops l (putS (putS O dst v) dst' v') ds h Q):C5 E ops (⟨dst,.move x,ty,pos,af,none⟩ ::⟨dst',.move x',ty',pos',af',none⟩ ::l) O ds h Q:=
 Mv v (congrArg Prod.fst e) (congrArg (λq=>q.2.1) e) (Mv v' (congrArg (λq=>q.2.2.1) e) (congrArg (λq=>q.2.2.2) e) k)
theorem A2{x x':Operand}{dst':Option Nat}{ty':aW}{pos':String}{af':Array Edge}(v v':aV)(e:(C9 dst E.N,AL O x,C9 dst' E.N,AL (putS O dst v) x')=(true,v,true,v'))(k:C5 E ops l (putS (putS O dst v) dst' v') ds h Q):C5 E ops (⟨dst,.assign x,ty,pos,af,none⟩ ::⟨dst',.assign x',ty',pos',af',none⟩ ::l) O ds h Q:=
 As v (congrArg Prod.fst e) (congrArg (λq=>q.2.1) e) (As v' (congrArg (λq=>q.2.2.1) e) (congrArg (λq=>q.2.2.2) e) k)
theorem Ct{W:Wk P}{f:FuncId}{fn:Func}{c:Code}{args:Array aV}{R:aV->L->Prop}(hf:P.funcs[f]? =some fn)(e:(fn.body,Nat.ble args.size fn.ntmps)=(some c,true))
  (x:Tr ⟨W,f,none,fn.ntmps⟩ c (λi=>args.getD i undef) [] h (λe O ds h'=>(e=.normal\/e=.ret)/\FN P fn O R ds h')):AT W f args h R:=VB hf (congrArg Prod.fst e) (Nat.le_of_ble_eq_true (congrArg Prod.snd e)) x
end
section
variable {P:Program} {E:Fb P} {l:List Oper} {n:Nat} {fl:Bool} {hs:L} {ds:List Deferred} {Lw:Nat->aV->L->Prop} {F:(Nat->aV)->L->Prop} {aP:List Nat} {O:Nat->aV} {h:L} {m k g d:Nat} {dst:Option Nat} {op:Op} {ty:aW} {pos:String} {af:Array Edge} {v:aV} {w is:Bool} {og:Oper}
theorem Rz(e:(N3 m,l[k]?)=((.r,k),some ⟨dst,op,ty,pos,af,none⟩))(x:S5 E ⟨dst,op,ty,pos,af,none⟩ O ds h v)(y:TD E l n fl hs ds Lw F (dK aP) (putS O dst v) h):TD E l n fl hs ds Lw F (dK (m ::aP)) O h:=tR (congrArg Prod.fst e) (congrArg Prod.snd e) x y
theorem Rm{x:Operand}(v:aV)(e:(N3 m,l[k]?,AL O x)=((.r,k),some ⟨dst,.move x,ty,pos,af,none⟩,v))(y:TD E l n fl hs ds Lw F (dK aP) (putS O dst v) h):TD E l n fl hs ds Lw F (dK (m ::aP)) O h:=
 tR (congrArg Prod.fst e) (congrArg (λq=>q.2.1) e) (Rk (congrArg (λq=>q.2.2) e) vz) y
theorem Rl{t:aW}{x:Operand}{b off:Nat}(v:aV)(e:(N3 m,l[k]?,AL O x)=((.r,k),some ⟨dst,.load t x,ty,pos,af,none⟩,.pointer (some ⟨b,off,none⟩)))(hr:Rd P h t b off v)(y:TD E l n fl hs ds Lw F (dK aP) (putS O dst v) h):TD E l n fl hs ds Lw F (dK (m ::aP)) O h:=
 tR (congrArg Prod.fst e) (congrArg (λq=>q.2.1) e) (Cf (congrArg (λq=>q.2.2) e) hr vz) y
theorem Py(e:(N3 m,l[k]?)=((.p,k),some ⟨dst,op,ty,pos,af,none⟩))(x:∀hx,S5 E ⟨dst,op,ty,pos,af,none⟩ O ds hx v)(y:TD E l n fl hs ds Lw F (dK aP) (putS O dst v) h):TD E l n fl hs ds Lw F (dK (m ::aP)) O h:=tP (congrArg Prod.fst e) (congrArg Prod.snd e) x y
theorem Ry(e:(N3 m,l[k]?,l[g]?,og.dst)=((.r,k),some ⟨dst,op,ty,pos,af,some (g,w)⟩,some og,some d))(h3:O d=.bool w)(x:S5 E ⟨dst,op,ty,pos,af,some (g,w)⟩ O ds h v)
  (y:TD E l n fl hs ds Lw F (dK aP) (putS O dst v) h):TD E l n fl hs ds Lw F (dK (m ::aP)) O h:=tRg (congrArg Prod.fst e) (congrArg (λq=>q.2.1) e) (congrArg (λq=>q.2.2.1) e) (congrArg (λq=>q.2.2.2) e) h3 x y
theorem Sz{kd:Kd}(e:(N3 m,l[k]?,l[g]?,og.dst)=((kd,k),some ⟨dst,op,ty,pos,af,some (g,w)⟩,some og,some d))(h3:O d=.bool is)(hne:(is==w)=false)
  (y:TD E l n fl hs ds Lw F (dK aP) (putS O dst undef) h) (hl:(kd !=Kd.l)=true:=by rfl):TD E l n fl hs ds Lw F (dK (m ::aP)) O h:=tS (congrArg Prod.fst e) (congrArg (λq=>q.2.1) e) (congrArg (λq=>q.2.2.1) e) (congrArg (λq=>q.2.2.2) e) h3 hne y hl
end
end Go.Ns
namespace Go.Ns
open Go.Conc
abbrev J(x:Int):aV:=.int .i64 x
abbrev Pt(b:Nat):aV:=.pointer (some ⟨b,0,none⟩)
abbrev Sc(b:Nat)(n c:Nat):aV:=.slice (some ⟨b,0,none⟩) n c
abbrev Q0:Array aV:=#[J 0,J 0,J 0,J 0,J 0,J 0,J 0,J 0,J 0,.bool false,.bool false,.bool false,.bool false,.bool false,.bool false]
abbrev Q1(a:Int)(b:Int)(c:List Good)(d:List AD)(e:List AN)(f:Int)(g:Int)(h:Int):=Am a b c d e [if (decide (0<=f/\f<=(c.length:Int)-1)) then (0:Int) else 6,if (decide (1<=g/\g<=a)) then (0:Int) else 1,if (decide (g<=h/\h<=a)) then (0:Int) else 1]
abbrev Q2(a:Int)(b:List Good)(c:List AD)(d:List AN)(e:Int)(f:Nat):=(AU a b c d e).getD ((f:Int)).toNat AV.zero
abbrev Q3(a:Int):=Jz (Jz a (Eo a 13)) ((Jz a (Eo a 13)) / 128)
abbrev Q4(a:Int)(b:List AD):=decide ((0<=a/\a<=(b.length:Int)-1)/\(b.getD a.toNat AD.z).kind=0)
abbrev Q5(a:Int)(b:Int)(c:List Good)(d:List AD)(e:List AN)(f:Int)(g:Int):=Am a b c d e [if (decide (0<=f/\f<=(c.length:Int)-1)) then (0:Int) else 6,if (decide (0<=g/\g<=a)) then (0:Int) else 1]
abbrev Q6(a:List Good)(b:Nat):=decide (((¬(0<=((a.getD b Good.z).cost)/\((a.getD b Good.z).cost)<=999))\/(¬(1<=((a.getD b Good.z).pack)/\((a.getD b Good.z).pack)<=20)))\/(¬(GQ ((a.getD b Good.z).low) ((a.getD b Good.z).high))))
abbrev Q7(a:List AD)(b:Nat):Array aV:=#[J ((a.getD (b+1) AD.z).kind),J ((a.getD (b+1) AD.z).good),J ((a.getD (b+1) AD.z).day),J ((a.getD (b+1) AD.z).low),J ((a.getD (b+1) AD.z).high)]
abbrev Q8(a:Int)(b:Int)(c:List Good)(d:List AD)(e:List AN)(f:Int):=Am a b c d e [if (decide (0<=f/\f<=(d.length:Int)-1)) then (0:Int) else 6]
abbrev Q9:aV:=.slice none 0 0
abbrev Qa(a:List AD)(b:Nat):Array aV:=#[J ((a.getD b AD.z).kind),J ((a.getD b AD.z).good),J ((a.getD b AD.z).day),J ((a.getD b AD.z).low),J ((a.getD b AD.z).high)]
abbrev Qb(a:List Int)(b:List Int):=decide (((a.length:Int)<(b.length:Int))\/(((a.length:Int)=(b.length:Int))/\((SB a b)<0)))
abbrev Qc(a:List aV)(b:Array Int)(c:Nat)(d:Nat):=BY a ((b.setIfInBounds c (b[d]!)).setIfInBounds d (b[c]!))
abbrev Qd(a:Nat)(b:Array Int)(c:Nat):=Sc a b.size c
abbrev Qe(a:Int)(b:Int)(c:List Good)(d:List AD)(e:List AN)(f:Int):=Am a b c d e [if (decide (0<=f/\f<=a)) then (0:Int) else 1]
abbrev Qf(a:List AV)(b:Int):=a.getD (b.toNat) AV.zero
abbrev Qg(a:List Ab)(b:Nat):Array aV:=#[J ((a.getD b Ab.z).price),(a.getD b Ab.z).pv,J ((a.getD b Ab.z).seen)]
abbrev Qh(a:List Good)(b:Nat):Array aV:=#[.string ((a.getD b Good.z).name),J ((a.getD b Good.z).cost),J ((a.getD b Good.z).pack),J ((a.getD b Good.z).low),J ((a.getD b Good.z).high)]
abbrev Qi(a:Int)(b:List Good):=decide (0<=a/\a<=(b.length:Int)-1)
abbrev Qj(a:List Int)(b:List Int):=(AV.zero.setFirsts a).setManys b
abbrev Qk(a:Int)(b:Int)(c:Int)(d:Int):=decide (((a<=b)/\(b<=c))/\(c<=d))
abbrev Ql(a:Int)(b:Int):aV:=.bool (decide (a<=b))
abbrev Qm(a:List Int)(b:Nat):=J (a.getD b 0)
abbrev Qn(a:List AN)(b:Nat):Array aV:=#[J ((a.getD b AN.z).good),J ((a.getD b AN.z).day),J ((a.getD b AN.z).low),J ((a.getD b AN.z).high)]
abbrev Qo(a:Int)(b:List AD)(c:List Good)(d:List AN)(e:Int)(f:Int)(g:Int):Array aV:=#[J ((B3 (Jl a b (AU a c b d e) f)).tdiv g),J ((DL (Jl a b (AU a c b d e) f)).tdiv g)]
abbrev Qp(a:Nat)(b:Nat)(c:Array Int)(d:Nat):=decide (((a:Int)<=(b:Int))/\(¬((c[b]!)<(c[d]!))))
abbrev Qq:=Al AV.zero
abbrev Qr(a:List Int):=a.getD (((a.length:Int)-1).toNat) 0
abbrev Qs(a:Int)(b:Int):=decide (0<=a/\a<=b)
abbrev Qt(a:List CQ)(b:Nat):Array aV:=#[J ((a.getD b CQ.z).kind),J ((a.getD b CQ.z).low),J ((a.getD b CQ.z).high)]
abbrev Qu(a:List Good)(b:Nat):=GQ ((a.getD b Good.z).low) ((a.getD b Good.z).high)
abbrev Qv(a:List AD)(b:AV)(c:AN):=(AP a b c.good c.day).1
abbrev Qw(a:Int)(b:Int):=decide (((0<=a/\a<=b)/\b<=99)/\((b-a)<3))
abbrev Qx(a:List aV)(b:Array Int)(c:Nat)(d:Nat):=BY a (b.setIfInBounds c (b[d]!))
abbrev Qy(a:Nat):=J ((2*(a:Int))+1)
abbrev Qz(a:Nat)(b:Int)(c:Array Int)(d:Nat):=decide (((((2*(a:Int))+1)+1)<b)/\((c[(d+((2*a)+1))]!)<(c[((d+((2*a)+1))+1)]!)))
abbrev Q10(a:List Int)(b:Int):Array aV:=#[J (a.getD 0 0),J (a.getD 1 0),J (a.getD 2 0),J (a.getD 3 0),J b]
abbrev Q11(a:Int)(b:List AD):=decide (0<=a/\a<=(b.length:Int)-1)
abbrev Q12(a:Int)(b:Int)(c:Int):Array aV:=#[.string (⟨#[103]⟩++(J0 a)),J b,J 1,J c,J c]
abbrev Q13(a:Int)(b:Int)(c:Int):=decide ((a<=b)/\(b<=c))
abbrev Q14(a:List Ab)(b:List Int)(c:Nat):Array aV:=#[J ((a.getD ((b.getD c 0).toNat) Ab.z).price),(a.getD ((b.getD c 0).toNat) Ab.z).pv,J ((a.getD ((b.getD c 0).toNat) Ab.z).seen)]
abbrev Q15(a:Nat)(b:Nat):aV:=.bool (decide ((a:Int)<=(b:Int)))
abbrev Q16(a:Int):aV:=.bool (decide (¬(0<=a/\a<=99)))
abbrev Q17(a:List Good)(b:Nat):=(a.getD b Good.z).pack
abbrev Q18(a:Nat)(b:Nat):=J ((a:Int)-(b:Int))
abbrev UH(a:Int)(b:Int)(c:List Good)(d:List AD)(e:List AN):=J (An a b c d e)
abbrev Q1a(a:Nat)(b:Nat)(c:Array Int):=decide (((a:Int)<(b:Int))/\((c[b]!)<(c[((b:Int)-1).toNat]!)))
abbrev Q1b(a:Int)(b:Int):=decide ((¬(1<=a/\a<=99))\/(¬(0<=b/\b<=2)))
abbrev Q1c(a:Nat):=J (((2*(a:Int))+1)+1)
abbrev Q1d(a:Nat)(b:Array Int)(c:Nat):=decide ((0<(a:Int))/\(¬((b[((a:Int)-1).toNat]!)<(b[c]!))))
abbrev Q1e(a:Array Int)(b:Nat)(c:Nat):=decide (¬((a[b]!)<(a[c]!)))
abbrev Q1f(a:List Int)(b:Nat)(c:List Int):=J (SA (a.getD b 0) (c.getD b 0))
abbrev Q1g:Array UInt8:=#[48,49,50,51,52,53,54,55,56,57]
abbrev Q1h(a:List Int)(b:List Ab)(c:List Int)(d:Nat):aV:=.agg (Bs (Fg a ((b.getD ((c.getD d 0).toNat) Ab.z).paid) 1))
abbrev Q1i(a:List Good)(b:Nat):=(a.getD b Good.z).cost
abbrev Q1j(a:List Ab)(b:List Int)(c:Nat):aV:=.agg (Bs ((a.getD ((b.getD c 0).toNat) Ab.z).paid))
abbrev Q1k(a:Nat)(b:Nat)(c:Nat)(d:Nat):Array aV:=#[Pt a,Pt b,Pt c,Pt d]
end Go.Ns
namespace Go.Ns
open Go.Conc Go.Proofs Go.Proofs.Tryz
theorem Ce:J4 prog 29 29=some (3,1,8):=aB
theorem JL:J4 prog 41 41=some (51,5,40):=aB
theorem UI:J4 prog 42 42=some (148,4,32):=aB
theorem Mx:J4 prog 93 93=some (29,1,24):=aB
theorem UJ:J4 prog 98 98=some (152,15,80):=aB
theorem RF:QB prog 132=some (4,false,1):=aB
theorem Yp:QB prog 150=some (6,false,1):=aB
theorem Yq:QB prog 203=some (4,false,1):=aB
theorem Yr:QB prog 222=some (5,false,1):=aB
theorem MH:Iq prog 120=some (6,1):=aB
theorem RG:Iq prog 130=some (4,1):=aB
theorem FH:Iq prog 132=some (4,1):=aB
theorem MI:Iq prog 149=some (3,1):=aB
theorem Gt:Iq prog 150=some (6,1):=aB
theorem Ys:Iq prog 201=some (5,2):=aB
theorem Yt:ME prog 132=true:=aB
theorem fx_bt3:Ob prog 3=some 8:=aB
theorem RH:AJ Tryz.f10=true:=aB
theorem V0:AJ Tryz.f100=true:=aB
theorem V1:AJ Tryz.f101=true:=aB
theorem Oo:AJ Tryz.f103=true:=aB
theorem Oq:AJ Tryz.f105=true:=aB
theorem V2:AJ Tryz.f106=true:=aB
theorem V3:AJ Tryz.f107=true:=aB
theorem KX:AJ Tryz.f108=true:=aB
theorem Or:AJ Tryz.f109=true:=aB
theorem C0:AJ Tryz.f11=true:=aB
theorem KY:AJ Tryz.f110=true:=aB
theorem V4:AJ Tryz.f111=true:=aB
theorem V5:AJ Tryz.f112=true:=aB
theorem V6:AJ Tryz.f113=true:=aB
theorem KZ:AJ Tryz.f114=true:=aB
theorem Ov:AJ Tryz.f115=true:=aB
theorem MJ:AJ Tryz.f12=true:=aB
theorem V7:AJ Tryz.f123=true:=aB
theorem V8:AJ Tryz.f124=true:=aB
theorem V9:AJ Tryz.f125=true:=aB
theorem WA:AJ Tryz.f126=true:=aB
theorem WB:AJ Tryz.f127=true:=aB
theorem WC:AJ Tryz.f128=true:=aB
theorem WD:AJ Tryz.f129=true:=aB
theorem MK:AJ Tryz.f13=true:=aB
theorem WE:AJ Tryz.f130=true:=aB
theorem WF:AJ Tryz.f131=true:=aB
theorem WG:AJ Tryz.f132=true:=aB
theorem WH:AJ Tryz.f133=true:=aB
theorem WI:AJ Tryz.f134=true:=aB
theorem Ca:AJ Tryz.f135=true:=aB
theorem WJ:AJ Tryz.f136=true:=aB
theorem WK:AJ Tryz.f137=true:=aB
theorem WL:AJ Tryz.f139=true:=aB
theorem WM:AJ Tryz.f148=true:=aB
theorem WN:AJ Tryz.f149=true:=aB
theorem ML:AJ Tryz.f15=true:=aB
theorem WO:AJ Tryz.f150=true:=aB
theorem Ow:AJ Tryz.f151=true:=aB
theorem WP:AJ Tryz.f152=true:=aB
theorem Ka:AJ Tryz.f153=true:=aB
theorem Ox:AJ Tryz.f154=true:=aB
theorem WQ:AJ Tryz.f155=true:=aB
theorem WR:AJ Tryz.f156=true:=aB
theorem Kb:AJ Tryz.f157=true:=aB
theorem Oy:AJ Tryz.f158=true:=aB
theorem Yu:AJ Tryz.f16=true:=aB
theorem WS:AJ Tryz.f160=true:=aB
theorem Kc:AJ Tryz.f161=true:=aB
theorem Ke:AJ Tryz.f162=true:=aB
theorem Yv:AJ Tryz.f17=true:=aB
theorem WT:AJ Tryz.f179=true:=aB
theorem Yw:AJ Tryz.f18=true:=aB
theorem Oz:AJ Tryz.f188=true:=aB
theorem Kf:AJ Tryz.f189=true:=aB
theorem FI:AJ Tryz.f19=true:=aB
theorem WU:AJ Tryz.f190=true:=aB
theorem WV:AJ Tryz.f191=true:=aB
theorem WW:AJ Tryz.f192=true:=aB
theorem WX:AJ Tryz.f193=true:=aB
theorem WY:AJ Tryz.f194=true:=aB
theorem WZ:AJ Tryz.f195=true:=aB
theorem Wa:AJ Tryz.f196=true:=aB
theorem O0:AJ Tryz.f197=true:=aB
theorem O1:AJ Tryz.f198=true:=aB
theorem Wb:AJ Tryz.f199=true:=aB
theorem Yx:AJ Tryz.f20=true:=aB
theorem Wc:AJ Tryz.f200=true:=aB
theorem Wd:AJ Tryz.f201=true:=aB
theorem We:AJ Tryz.f202=true:=aB
theorem Wf:AJ Tryz.f203=true:=aB
theorem Wg:AJ Tryz.f204=true:=aB
theorem O2:AJ Tryz.f205=true:=aB
theorem Wh:AJ Tryz.f206=true:=aB
theorem Yy:AJ Tryz.f23=true:=aB
theorem Yz:AJ Tryz.f24=true:=aB
theorem Y1:AJ Tryz.f25=true:=aB
theorem Y3:AJ Tryz.f26=true:=aB
theorem RI:AJ Tryz.f27=true:=aB
theorem Y4:AJ Tryz.f28=true:=aB
theorem Y5:AJ Tryz.f29=true:=aB
theorem Y6:AJ Tryz.f30=true:=aB
theorem Y7:AJ Tryz.f31=true:=aB
theorem Y8:AJ Tryz.f32=true:=aB
theorem Y9:AJ Tryz.f33=true:=aB
theorem ZA:AJ Tryz.f34=true:=aB
theorem ZB:AJ Tryz.f36=true:=aB
theorem Cq:AJ Tryz.f37=true:=aB
theorem H6:AJ Tryz.f38=true:=aB
theorem H7:AJ Tryz.f39=true:=aB
theorem Fu:AJ Tryz.f40=true:=aB
theorem Bz:AJ Tryz.f41=true:=aB
theorem H8:AJ Tryz.f42=true:=aB
theorem ZC:AJ Tryz.f43=true:=aB
theorem Jp:AJ Tryz.f44=true:=aB
theorem MM:AJ Tryz.f45=true:=aB
theorem ZD:AJ Tryz.f46=true:=aB
theorem ZE:AJ Tryz.f50=true:=aB
theorem ZF:AJ Tryz.f51=true:=aB
theorem RJ:AJ Tryz.f52=true:=aB
theorem ZG:AJ Tryz.f53=true:=aB
theorem ZH:AJ Tryz.f54=true:=aB
theorem RK:AJ Tryz.f55=true:=aB
theorem MN:AJ Tryz.f56=true:=aB
theorem ZI:AJ Tryz.f57=true:=aB
theorem ZJ:AJ Tryz.f58=true:=aB
theorem ZK:AJ Tryz.f59=true:=aB
theorem O3:AJ Tryz.f6=true:=aB
theorem Jq:AJ Tryz.f60=true:=aB
theorem ZL:AJ Tryz.f61=true:=aB
theorem MO:AJ Tryz.f62=true:=aB
theorem ZM:AJ Tryz.f66=true:=aB
theorem Jr:AJ Tryz.f67=true:=aB
theorem Gu:AJ Tryz.f68=true:=aB
theorem MP:AJ Tryz.f69=true:=aB
theorem RL:AJ Tryz.f70=true:=aB
theorem ZN:AJ Tryz.f71=true:=aB
theorem MQ:AJ Tryz.f72=true:=aB
theorem Js:AJ Tryz.f73=true:=aB
theorem ZO:AJ Tryz.f74=true:=aB
theorem RM:AJ Tryz.f75=true:=aB
theorem Jt:AJ Tryz.f76=true:=aB
theorem ZP:AJ Tryz.f77=true:=aB
theorem ZQ:AJ Tryz.f78=true:=aB
theorem MR:AJ Tryz.f79=true:=aB
theorem RN:AJ Tryz.f80=true:=aB
theorem ZR:AJ Tryz.f81=true:=aB
theorem RO:AJ Tryz.f82=true:=aB
theorem MS:AJ Tryz.f83=true:=aB
theorem ZS:AJ Tryz.f84=true:=aB
theorem ZT:AJ Tryz.f85=true:=aB
theorem ZU:AJ Tryz.f86=true:=aB
theorem ZV:AJ Tryz.f87=true:=aB
theorem fx_call9:AJ Tryz.f9=true:=aB
theorem ZW:AJ Tryz.f91=true:=aB
theorem ZX:AJ Tryz.f92=true:=aB
theorem ZY:AJ Tryz.f93=true:=aB
theorem ZZ:AJ Tryz.f94=true:=aB
theorem Za:AJ Tryz.f95=true:=aB
theorem Zb:AJ Tryz.f96=true:=aB
theorem FJ:AJ Tryz.f97=true:=aB
theorem Zc:AJ Tryz.f98=true:=aB
theorem RP:AJ Tryz.f99=true:=aB
theorem JM:prog.eqGuardType prog.depth 36=false:=aB
theorem RQ:DX prog 170=some 1:=aB
theorem fx_esz26:DX prog 26=some 1:=aB
theorem Zd:DX prog 287=some 1:=aB
theorem AK:DX prog 29=some 1:=aB
theorem HH:DX prog 40=some 5:=aB
theorem FV:DX prog 41=some 5:=aB
theorem O4:DX prog 42=some 4:=aB
theorem JN:DX prog 63=some 2:=aB
theorem LW:DX prog 64=some 3:=aB
theorem UK:DX prog 65=some 2:=aB
theorem UL:DX prog 66=some 3:=aB
theorem HI:DX prog 93=some 1:=aB
theorem LX:DX prog 98=some 15:=aB
theorem Hb:CF prog 101 0=some 0:=aB
theorem Cu:CF prog 101 1=some 5:=aB
theorem My:CF prog 101 2=some 6:=aB
theorem BW:CF prog 128 0=some 0:=aB
theorem JO:CF prog 136 0=some 0:=aB
theorem M0:CF prog 136 1=some 5:=aB
theorem M1:CF prog 148 0=some 0:=aB
theorem M3:CF prog 148 1=some 1:=aB
theorem JP:CF prog 148 2=some 2:=aB
theorem JQ:CF prog 152 0=some 0:=aB
theorem JR:CF prog 152 1=some 3:=aB
theorem EZ:CF prog 152 2=some 9:=aB
theorem GF:CF prog 185 0=some 0:=aB
theorem De:CF prog 185 1=some 1:=aB
theorem JS:CF prog 185 2=some 2:=aB
theorem M4:CF prog 188 0=some 0:=aB
theorem M5:CF prog 188 1=some 1:=aB
theorem M6:CF prog 191 0=some 0:=aB
theorem M7:CF prog 191 1=some 1:=aB
theorem UM:CF prog 200 1=some 1:=aB
theorem JT:CF prog 226 0=some 0:=aB
theorem JU:CF prog 226 1=some 4:=aB
theorem Cb:CF prog 36 0=some 0:=aB
theorem Cm:CF prog 36 1=some 1:=aB
theorem Kg:CF prog 38 0=some 0:=aB
theorem Kh:CF prog 38 1=some 1:=aB
theorem If:CF prog 38 2=some 2:=aB
theorem Ki:CF prog 38 3=some 3:=aB
theorem DP:CF prog 44 0=some 0:=aB
theorem Ig:CF prog 44 1=some 1:=aB
theorem Cn:CF prog 44 2=some 2:=aB
theorem Bf:CF prog 44 3=some 3:=aB
theorem Ea:CF prog 44 4=some 4:=aB
theorem Ih:CF prog 51 0=some 0:=aB
theorem Kj:CF prog 51 1=some 1:=aB
theorem EB:CF prog 51 2=some 2:=aB
theorem Ii:CF prog 51 3=some 3:=aB
theorem BM:CF prog 68 0=some 0:=aB
theorem DQ:CF prog 68 1=some 1:=aB
theorem Cc:CF prog 68 2=some 2:=aB
theorem Fv:CF prog 68 3=some 3:=aB
theorem Fw:CF prog 68 4=some 4:=aB
theorem At:CF prog 97 0=some 0:=aB
theorem Ze:(prog.info? 29).isSome=true:=aB
theorem RR:(prog.info? 29).map (·.zero)=some (some (.slice none 0 0)):=aB
theorem O5:L3 prog 211=some .u64:=aB
theorem Wi:L3 prog 254=some .u64:=aB
theorem D1:L3 prog 3=some .i64:=aB
theorem GG:L3 prog 5=some .u8:=aB
theorem RS:Hw prog 134=some (224,226):=aB
theorem MT:Hw prog 165=some (3,3):=aB
theorem UN:Hw prog 99=some (174,3):=aB
theorem RT:∀a:Oj,VE prog 3 224 (GT a)=true:=by intros;kernel_rfl
theorem UO:∀a:Key,VE prog 3 174 (Jy a)=true:=by intros;kernel_rfl
theorem MU:∀a:Int,VE prog 3 3 (EO a)=true:=by intros;kernel_rfl
theorem MV:∀a b:Int,Mh prog 3 3 (EO a) (EO b)=some (a==b):=by intros;kernel_rfl
theorem RU:∀a b:Oj,Mh prog 3 224 (GT a) (GT b)=some ((a.1.1==b.1.1 && (a.1.2.1==b.1.2.1 && (a.1.2.2.1==b.1.2.2.1 && (a.1.2.2.2==b.1.2.2.2 && true)))) && (a.2==b.2 && true)):=by intros;kernel_rfl
theorem UP:∀a b:Key,Mh prog 3 174 (Jy a) (Jy b)=some (a.1==b.1 && (a.2.1==b.2.1 && (a.2.2==b.2.2 && true))):=by intros;kernel_rfl
theorem AY:prog.follows .mixedOrders=true:=aB
theorem fx_mz134:(prog.info? 226).bind (·.zero)=some (UC ([],false)):=aB
theorem UQ:(prog.info? 3).bind (·.zero)=some (.int .i64 0):=aB
theorem fx_mz99:(prog.info? 3).bind (·.zero)=some (.int .i64 0):=aB
theorem GI:DY prog 101=some [(0,5),(5,1),(6,1)]:=aB
theorem O6:DY prog 128=some [(0,5)]:=aB
theorem fx_pl136:DY prog 136=some [(0,5),(5,1)]:=aB
theorem UR:DY prog 148=some [(0,1),(1,1),(2,2)]:=aB
theorem H9:DY prog 152=some [(0,3),(3,6),(9,6)]:=aB
theorem fx_pl174:DY prog 174=some [(0,1),(1,1),(2,1)]:=aB
theorem fx_pl224:DY prog 224=some [(0,4),(4,1)]:=aB
theorem Ij:DY prog 36=some [(0,1),(1,1)]:=aB
theorem Sf:DY prog 38=some [(0,1),(1,1),(2,1),(3,2)]:=aB
theorem Xp:DY prog 44=some [(0,1),(1,1),(2,1),(3,1),(4,1)]:=aB
theorem LY:DY prog 51=some [(0,1),(1,1),(2,1),(3,2)]:=aB
theorem ES:DY prog 97=some [(0,5)]:=aB
theorem US:s2bOf prog 9 287=some 5:=aB
theorem Fx:Dr prog 170=some (1,#[.int .i64 0],54):=aB
theorem B0:Dr prog 29=some (1,#[.int .i64 0],3):=aB
theorem UT:Dr prog 40=some (5,#[.string ⟨#[]⟩,.int .i64 0,.int .i64 0,.int .i64 0,.int .i64 0],38):=aB
theorem LZ:Dr prog 41=some (5,#[.int .i64 0,.int .i64 0,.int .i64 0,.int .i64 0,.int .i64 0],51):=aB
theorem UU:Dr prog 42=some (4,#[.int .i64 0,.int .i64 0,.int .i64 0,.int .i64 0],148):=aB
theorem La:Dr prog 93=some (1,#[.slice none 0 0],29):=aB
theorem fx_sel98:Dr prog 98=some (15,#[.int .i64 0,.int .i64 0,.int .i64 0,.int .i64 0,.int .i64 0,.int .i64 0,.int .i64 0,.int .i64 0,.int .i64 0,.bool false,.bool false,.bool false,.bool false,.bool false,.bool false],152):=aB
theorem UV:IH prog 170=true:=aB
theorem fx_sl26:IH prog 26=true:=aB
theorem fx_sl287:IH prog 287=true:=aB
theorem A3:IH prog 29=true:=aB
theorem Ez:IH prog 40=true:=aB
theorem E0:IH prog 41=true:=aB
theorem Lb:IH prog 42=true:=aB
theorem Ik:IH prog 63=true:=aB
theorem E1:IH prog 64=true:=aB
theorem Lc:IH prog 65=true:=aB
theorem Lf:IH prog 66=true:=aB
theorem Lg:IH prog 93=true:=aB
theorem Hc:IH prog 98=true:=aB
theorem F4:Mg prog 9=true:=aB
theorem A6:Bh prog 101=some (true,7):=aB
theorem fx_ty108:Bh prog 108=some (false,1):=aB
theorem EI:Bh prog 128=some (true,5):=aB
theorem Lh:Bh prog 130=some (true,4):=aB
theorem Ar:Bh prog 132=some (true,4):=aB
theorem UW:Bh prog 134=some (false,1):=aB
theorem O7:Bh prog 136=some (true,6):=aB
theorem IA:Bh prog 148=some (true,4):=aB
theorem fx_ty150:Bh prog 150=some (true,6):=aB
theorem Bc:Bh prog 152=some (true,15):=aB
theorem Li:Bh prog 168=some (false,1):=aB
theorem fx_ty169:Bh prog 169=some (false,1):=aB
theorem O8:Bh prog 174=some (true,3):=aB
theorem IB:Bh prog 185=some (true,3):=aB
theorem O9:Bh prog 188=some (true,2):=aB
theorem PA:Bh prog 191=some (true,3):=aB
theorem fx_ty203:Bh prog 203=some (true,4):=aB
theorem fx_ty205:Bh prog 205=some (false,1):=aB
theorem HJ:Bh prog 206=some (false,1):=aB
theorem fx_ty222:Bh prog 222=some (true,5):=aB
theorem PB:Bh prog 224=some (true,5):=aB
theorem UX:Bh prog 226=some (true,5):=aB
theorem fx_ty252:Bh prog 252=some (false,1):=aB
theorem Eb:Bh prog 254=some (false,1):=aB
theorem fx_ty263:Bh prog 263=some (false,1):=aB
theorem Lj:Bh prog 264=some (false,1):=aB
theorem BJ:Bh prog 29=some (false,1):=aB
theorem AH:Bh prog 3=some (false,1):=aB
theorem BS:Bh prog 36=some (true,2):=aB
theorem Gh:Bh prog 38=some (true,5):=aB
theorem Dp:Bh prog 4=some (false,1):=aB
theorem ET:Bh prog 40=some (false,1):=aB
theorem Co:Bh prog 41=some (false,1):=aB
theorem Hd:Bh prog 42=some (false,1):=aB
theorem A8:Bh prog 44=some (true,5):=aB
theorem Sg:Bh prog 46=some (false,1):=aB
theorem Nc:Bh prog 49=some (false,1):=aB
theorem fx_ty5:Bh prog 5=some (false,1):=aB
theorem He:Bh prog 51=some (true,5):=aB
theorem Xq:Bh prog 54=some (false,1):=aB
theorem FW:Bh prog 63=some (false,1):=aB
theorem EC:Bh prog 64=some (false,1):=aB
theorem Ju:Bh prog 65=some (false,1):=aB
theorem Jv:Bh prog 66=some (false,1):=aB
theorem Dt:Bh prog 68=some (true,5):=aB
theorem Wj:Bh prog 9=some (false,1):=aB
theorem Lk:Bh prog 93=some (false,1):=aB
theorem CC:Bh prog 97=some (true,5):=aB
theorem ED:Bh prog 98=some (false,1):=aB
theorem Xr:Bh prog 99=some (false,1):=aB
theorem Zf:(prog.underlying 169).isSome=true:=aB
theorem Zg:(prog.underlying 211).isSome=true:=aB
theorem FK:(prog.underlying 242).isSome=true:=aB
theorem Sh:(prog.underlying 3).isSome=true:=aB
theorem FX:(prog.underlying 5).isSome=true:=aB
theorem HK:prog.underlying 168=some (.chan .both 29):=aB
theorem BI:BT prog 101=some #[.int .i64 0,.int .i64 0,.slice none 0 0,.slice none 0 0,.slice none 0 0,.slice none 0 0,.map none]:=aB
theorem Il:BT prog 128=some #[.slice none 0 0,.slice none 0 0,.slice none 0 0,.slice none 0 0,.slice none 0 0]:=aB
theorem PC:BT prog 130=some #[.bool false,.bool false,.bool false,.bool false]:=aB
theorem Cp:BT prog 132=some #[.int .i64 0,.int .i64 0,.int .i64 0,.int .i64 0]:=aB
theorem PD:BT prog 136=some #[.slice none 0 0,.slice none 0 0,.slice none 0 0,.slice none 0 0,.slice none 0 0,.map none]:=aB
theorem Im:BT prog 148=some #[.int .i64 0,.int .i64 0,.int .i64 0,.int .i64 0]:=aB
theorem DR:BT prog 152=some #[.int .i64 0,.int .i64 0,.int .i64 0,.int .i64 0,.int .i64 0,.int .i64 0,.int .i64 0,.int .i64 0,.int .i64 0,.bool false,.bool false,.bool false,.bool false,.bool false,.bool false]:=aB
theorem Wl:BT prog 168=some #[.chan none]:=aB
theorem PE:BT prog 174=some #[.int .i64 0,.int .i64 0,.int .i64 0]:=aB
theorem Kk:BT prog 185=some #[.int .i64 0,.slice none 0 0,.int .i64 0]:=aB
theorem Wm:BT prog 188=some #[.int .i64 0,.int .i64 0]:=aB
theorem Wn:BT prog 191=some #[.int .i64 0,.int .i64 0,.int .i64 0]:=aB
theorem PG:BT prog 206=some #[.nilFunc]:=aB
theorem PH:BT prog 224=some #[.int .i64 0,.int .i64 0,.int .i64 0,.int .i64 0,.int .i64 0]:=aB
theorem Wo:BT prog 226=some #[.int .i64 0,.int .i64 0,.int .i64 0,.int .i64 0,.bool false]:=aB
theorem Wp:BT prog 254=some #[.int .u64 0]:=aB
theorem Wq:BT prog 264=some #[.nilFunc]:=aB
theorem Zh:BT prog 29=some #[.slice none 0 0]:=aB
theorem fx_zero3:BT prog 3=some #[.int .i64 0]:=aB
theorem B5:BT prog 36=some #[.int .i64 0,.int .i64 0]:=aB
theorem Fy:BT prog 38=some #[.string ⟨#[]⟩,.int .i64 0,.int .i64 0,.int .i64 0,.int .i64 0]:=aB
theorem UY:BT prog 4=some #[.bool false]:=aB
theorem IC:BT prog 44=some #[.int .i64 0,.int .i64 0,.slice none 0 0,.slice none 0 0,.slice none 0 0]:=aB
theorem Ej:BT prog 51=some #[.int .i64 0,.int .i64 0,.int .i64 0,.int .i64 0,.int .i64 0]:=aB
theorem fx_zero54:BT prog 54=some #[.int .i64 0]:=aB
theorem Zi:BT prog 93=some #[.slice none 0 0]:=aB
theorem B6:BT prog 97=some #[.int .i64 0,.int .i64 0,.slice none 0 0,.slice none 0 0,.slice none 0 0]:=aB
theorem Zj:BT prog 98=some #[.slice none 0 0]:=aB
end Go.Ns
namespace Go.Ns
open Go.Conc Go.Proofs Go.Proofs.Tryz
attribute [local irreducible] BK C5 Tr AT CG Bg
variable {W:Wk prog} {h:L} (d m:Int) (gs:List Good) (gsv:aV) (ms:List AD) (msv:aV) (cs:List AN) (csv:aV)
theorem BR(n:Int)(lo:Int)(hi:Int):AT W 41 #[J n,J lo,J hi] h (λv h'=>v=(.bool (decide (lo<=n/\n<=hi)):aV)/\h=h'):=by
 refine Ct func41 Z (Sr (I (.bool false) Z (M (BH (λσ' c h'=>c=[]/\h=h'/\σ' 6=.bool (Q13 lo n hi)) ?_ ?_))))
 ·refine Rg (Mz (J lo) Z (Mz (J n) Z (V Z (DI Z Z (Mz (Ql lo n) Z (BN (p:=lo<=n) ?_ ?_))))))
  ·intro a;exact Gg 3 10 (AB Z a) Z (Mo (J n) Z (Gg 3 10 (AB Z a) Z (Mo (J hi) Z (Gg 3 10 (AB Z a) Z (DI Z Z (Pk true (Ql n hi) Z (AB Z a) Z (I (Ql n hi) Z (M (⟨Z,Z,Et (b:=(.bool (decide (n<=hi)):aV)) Z (congrArg Value.bool (by (simp [a];done):decide (n<=hi)=(Q13 lo n hi)))⟩)))))))))
  ·intro a;exact Gs 3 10 (AA Z a) Z (Gs 3 10 (AA Z a) Z (Gs 3 10 (AA Z a) Z (Pk false (.bool false) Z (AA Z a) Z (I (.bool false) Z (M (⟨Z,Z,Et (b:=(.bool false:aV)) Z (congrArg Value.bool (by (simp [a];done):false=(Q13 lo n hi)))⟩))))))
 ·rintro _ _ _ ⟨e,f,g⟩;subst e;subst f;exact Rt (⟨Zr,J3 Z (v:=.bool (Q13 lo n hi)) g (⟨(by rfl),Z⟩)⟩)
theorem PI(xl:Int)(xh:Int)(lo:Int)(hi:Int):AT W 198 #[.agg #[J xl,J xh],J lo,J hi] h (λv h'=>v=(.bool (decide ((lo<=xl/\xl<=xh)/\xh<=hi)):aV)/\h.Le h'):=by
 refine Ct func198 Z (Sr (V Z (Bo #[J xl,J xh] Z Z λ_ g _ i e _=>I (.bool false) Z (M (BH (λσ' f h'=>f=[]/\g=h'/\σ' 6=.bool (Qk lo xl xh hi)) ?_ ?_)))))
 ·refine Rg (Mz (J lo) Z (Fz Cb Z (Lz (J xl) Z (Rd.one AH e Z) (V Z (DI Z Z (Mz (Ql lo xl) Z (BN (p:=lo<=xl) ?_ ?_)))))))
  ·intro a;refine Gg 4 11 (AB Z a) Z (AI Cb Z (Gg 4 11 (AB Z a) Z (Lo (J xl) Z (Rd.one AH e Z) (Gg 4 11 (AB Z a) Z (AI Cm Z (Gg 4 11 (AB Z a) Z (Lo (J xh) Z (Rd.one AH e Z) (Gg 4 11 (AB Z a) Z (DI Z Z (Pk true (Ql xl xh) Z (AB Z a) Z (Mz (Ql xl xh) Z (BN (p:=xl<=xh) ?_ ?_))))))))))))
   ·intro c;exact Gg 11 18 (AB Z c) Z (AI Cm Z (Gg 11 18 (AB Z c) Z (Lo (J xh) Z (Rd.one AH e Z) (Gg 11 18 (AB Z c) Z (Mo (J hi) Z (Gg 11 18 (AB Z c) Z (DI Z Z (Pk true (Ql xh hi) Z (AB Z c) Z (I (Ql xh hi) Z (M (⟨Z,Z,Et (b:=(.bool (decide (xh<=hi)):aV)) Z (congrArg Value.bool (by (simp [a,c];done):decide (xh<=hi)=(Qk lo xl xh hi)))⟩)))))))))))
   ·intro c;exact Gs 11 18 (AA Z c) Z (Gs 11 18 (AA Z c) Z (Gs 11 18 (AA Z c) Z (Gs 11 18 (AA Z c) Z (Pk false (.bool false) Z (AA Z c) Z (I (.bool false) Z (M (⟨Z,Z,Et (b:=(.bool false:aV)) Z (congrArg Value.bool (by (simp [a,c];done):false=(Qk lo xl xh hi)))⟩)))))))
  ·intro a;exact Gs 4 11 (AA Z a) Z (Gs 4 11 (AA Z a) Z (Gs 4 11 (AA Z a) Z (Gs 4 11 (AA Z a) Z (Gs 4 11 (AA Z a) Z (Pk false (.bool false) Z (AA Z a) Z (Mz (.bool false) Z (Gs 11 18 Z Z (Gs 11 18 Z Z (Gs 11 18 Z Z (Gs 11 18 Z Z (Pz false (.bool false) Z (I (.bool false) Z (M (⟨Z,Z,Et (b:=(.bool false:aV)) Z (congrArg Value.bool (by (simp [a];done):false=(Qk lo xl xh hi)))⟩))))))))))))))
 ·rintro _ _ _ ⟨j,k,l⟩;subst j;subst k;exact Rt (⟨Zr,J3 Z (v:=.bool (Qk lo xl xh hi)) l (⟨(by rfl),i⟩)⟩)
theorem UZ(xl:Int)(xh:Int):AT W 197 #[.agg #[J xl,J xh]] h (λv h'=>v=(.bool (decide (GQ xl xh)):aV)/\h.Le h'):=by
 refine Ct func197 Z (Sr (V Z (Bo #[J xl,J xh] Z Z λ_ i _ j f _=>I (.bool false) Z (M (BH (λσ' c h'=>c=[]/\L.Le i h'/\σ' 2=.bool (Qw xl xh)) ?_ ?_)))))
 ·refine Rg (Lz _ Z (AF BS (Bx f Z)) (V Z (Ag func198 O1 Z Z Z ((PI xl xh 0 99 ).mono λ_ _ k=>?_))));obtain ⟨rfl,e⟩:=k;refine Mz (.bool (decide ((0<=xl/\xl<=xh)/\xh<=99))) Z (BN (p:=(0<=xl/\xl<=xh)/\xh<=99) ?_ ?_)
  ·intro a;exact Gg 2 5 (AB Z a) Z (AI Cm Z (have g:=e.keep f Z;Gg 2 5 (AB Z a) Z (Lo (J xh) Z (Rd.one AH g Z) (Gg 2 5 (AB Z a) Z (AI Cb Z (Gg 2 5 (AB Z a) Z (Lo (J xl) Z (Rd.one AH g Z) (Gg 2 5 (AB Z a) Z (Ay Z Z Y (Gg 2 5 (AB Z a) Z (Ao Z Z (Pk true (.bool (decide ((xh-xl)<3))) Z (AB Z a) Z (I (.bool (decide ((xh-xl)<3))) Z (M (⟨Z,e,Et (b:=(.bool (decide ((xh-xl)<3)):aV)) Z (congrArg Value.bool (by (simp [a];done):decide ((xh-xl)<3)=(Qw xl xh)))⟩)))))))))))))))
  ·intro a;exact Gs 2 5 (AA Z a) Z (Gs 2 5 (AA Z a) Z (Gs 2 5 (AA Z a) Z (Gs 2 5 (AA Z a) Z (Gs 2 5 (AA Z a) Z (Gs 2 5 (AA Z a) Z (Pk false (.bool false) Z (AA Z a) Z (I (.bool false) Z (M (⟨Z,e,Et (b:=(.bool false:aV)) Z (congrArg Value.bool (by (simp [a];done):false=(Qw xl xh)))⟩)))))))))
 ·rintro _ _ _ ⟨l,n,o⟩;subst l;exact Rt (⟨Zr,J3 Z (v:=.bool (Qw xl xh)) o (⟨(by rfl),(j.trans n)⟩)⟩)
theorem FY(b:Bool):AT W 38 #[.bool b] h (λv h'=>v=(J (if b then (0:Int) else 6):aV)/\h=h'):=by
 refine Ct func38 Z (Sr (I (J 0) Z (M (S2 (Mz (.bool b) Z (V Z (Du Z (M (CK Z (λa=>?_) (λa=>?_))))))))))
 ·have hc1_:b=false:=by simpa using a
  exact Sr (I (J 6) Z (M (Rt (⟨Zr,Ot (J 6) Z (⟨aF,Z⟩)⟩))))
 ·have hc1_:b=true:=by simpa using a
  exact Sk (Sr (I (J 0) Z (M (Rt (⟨Zr,Ot (J 0) Z (⟨aF,Z⟩)⟩)))))
theorem FA(b:Bool):AT W 40 #[.bool b] h (λv h'=>v=(J (if b then (0:Int) else 1):aV)/\h=h'):=by
 refine Ct func40 Z (Sr (I (J 0) Z (M (S2 (Mz (.bool b) Z (V Z (Du Z (M (CK Z (λa=>?_) (λa=>?_))))))))))
 ·have hc1_:b=false:=by simpa using a
  exact Sr (I (J 1) Z (M (Rt (⟨Zr,Ot (J 1) Z (⟨aF,Z⟩)⟩))))
 ·have hc1_:b=true:=by simpa using a
  exact Sk (Sr (I (J 0) Z (M (Rt (⟨Zr,Ot (J 0) Z (⟨aF,Z⟩)⟩)))))
theorem GJ(n:Int)(hgs:AE h gsv 5 Bm gs)(hms:AE h msv 5 BE ms)(hcs:AE h csv 4 BF cs):AT W 39 #[.agg #[J d,J m,gsv,msv,csv],J n] h (λv h'=>v=(.bool (decide (0<=n/\n<=(gs.length:Int)-1)):aV)/\h.Le h'):=by
 have e:=hgs.len;have f:=hms.len;have g:=hcs.len;refine Ct func39 Z (Sr (V Z (Bo #[J d,J m,gsv,msv,csv] Z Z λ_ _ _ a b _=>I (.bool false) Z (M (Sr (Mz (J n) Z (Fz At Z (Fz Cn Z (Lz gsv Z (Rd.one ET b Z) (V Z (AO Ez (hgs.le a) Z (V Z (Ay Z Z Y (V Z (Ag func41 Bz Z Z Z ((BR n 0 ((gs.length:Int)-1) ).mono λ_ _ c=>?_))))))))))))))));obtain ⟨rfl,rfl⟩:=c;exact I (.bool (decide (0<=n/\n<=((gs.length:Int)-1)))) Z (M (Rt (⟨Zr,Ot (.bool (decide (0<=n/\n<=((gs.length:Int)-1)))) Z (⟨(by rfl),a⟩)⟩)))
theorem M8(n:Int)(hgs:AE h gsv 5 Bm gs)(hms:AE h msv 5 BE ms)(hcs:AE h csv 4 BF cs):AT W 70 #[.agg #[J d,J m,gsv,msv,csv],J n] h (λv h'=>v=(.bool (decide (0<=n/\n<=(ms.length:Int)-1)):aV)/\h.Le h'):=by
 have e:=hgs.len;have f:=hms.len;have g:=hcs.len;refine Ct func70 Z (Sr (V Z (Bo #[J d,J m,gsv,msv,csv] Z Z λ_ _ _ a b _=>I (.bool false) Z (M (Sr (Mz (J n) Z (Fz At Z (Fz Bf Z (Lz msv Z (Rd.one Co b Z) (V Z (AO E0 (hms.le a) Z (V Z (Ay Z Z Y (V Z (Ag func41 Bz Z Z Z ((BR n 0 ((ms.length:Int)-1) ).mono λ_ _ c=>?_))))))))))))))));obtain ⟨rfl,rfl⟩:=c;exact I (.bool (decide (0<=n/\n<=((ms.length:Int)-1)))) Z (M (Rt (⟨Zr,Ot (.bool (decide (0<=n/\n<=((ms.length:Int)-1)))) Z (⟨(by rfl),a⟩)⟩)))
theorem MW(p:AV)(i:Int)(hi0:0<=i)(hi1:i<6):AT W 72 #[.agg (Al p),J i] h (λv h'=>v=(J (CY p ((i).toNat)):aV)/\h.Le h'):=by
 refine Ct func72 Z (Sr (V Z (Bo (Al p) Z Z λ_ _ _ a b _=>I (J 0) Z (M (S2 (Mz (J i) Z (Fz EZ Z ?_)))))));have c:(0:Int)<=i:=Y
 have e:i<((6:Nat):Int):=Y
 refine V Z (Bj Gt Z Z c e (Lz (.bool (p.lies (i.toNat))) Z (Rd.one Dp b (KO (i:=i.toNat) Y)) (M (CK Z (λf=>?_) (λf=>?_)))))
 ·exact Sr (I (J 0) Z (M (Rt (⟨Zr,Ot (J 0) Z (⟨(by simp_all [CY]),a⟩)⟩))))
 ·refine Sk (Sr (Mz (J i) Z (Fz JR Z ?_)));have g:(0:Int)<=i:=Y
  have j:i<((6:Nat):Int):=Y
  exact V Z (Bj MH Z Z g j (Lz (J (p.many (i.toNat))) Z (Rd.one AH b (VI (i:=i.toNat) Y)) (I (J (p.many (i.toNat))) Z (M (Rt (⟨Zr,Ot (J (p.many (i.toNat))) Z (⟨(by simp_all [CY]),a⟩)⟩))))))
theorem Wr(p:AV):AT W 112 #[.agg (Al p)] h (λv h'=>v=(J (Bn p 6:Int):aV)/\h.Le h'):=by
 refine Ct func112 Z (Sr (V Z (Bo (Al p) Z Z λ_ l _ n q _=>I (J 0) Z (M (Sr (I (J 0) Z (M (S2 (Fz EZ Z (Lz (.agg #[.bool (p.lies 0),.bool (p.lies 1),.bool (p.lies 2),.bool (p.lies 3),.bool (p.lies 4),.bool (p.lies 5)]) Z (Fi (o:=9) (ws:=#[.bool (p.lies 0),.bool (p.lies 1),.bool (p.lies 2),.bool (p.lies 3),.bool (p.lies 4),.bool (p.lies 5)]) fx_ty150 (Bx q Z) (Nb Z) Z) (Mz (J 0) Z (M (Bk (Ai (λi σ' c h'=>∃(k:Nat),i=6-k/\(k<=6)/\c=[]/\L.Le l h'/\σ' 2=J 0/\σ' 7=.agg #[.bool (p.lies 0),.bool (p.lies 1),.bool (p.lies 2),.bool (p.lies 3),.bool (p.lies 4),.bool (p.lies 5)]/\σ' 3=J (Bn p k:Int)/\σ' 8=J k) ⟨0,Z,Y,Z,Lr,Z,Z,Z,Z⟩ (λi _ _ _ r=>?_)))))))))))))));obtain ⟨k,rfl,z,s,e,j,f,g,a⟩:=r;subst s;have t:=N5 p k;refine Sr (V Z (Ao a Z (M (Sq (AS Z (λu=>?_) (λu=>?_))))))
 ·refine Sk (Sq (Bk (Sq (Rg ?_))));have w:(0:Int)<=(k:Int):=Y
  have x:(k:Int)<((6:Nat):Int):=Y
  refine V Z (Hv Yp f a w x (TO Y) (I (.bool (p.lies k)) Z (M (Sr (Mz (.bool (p.lies k)) Z (M (CK Z (λy=>?_) (λy=>?_))))))))
  ·exact Rg (Mv (J (Bn p k:Int)) Z g (Yd Z Y (I (J ((Bn p k:Int)+1)) Z (M (Rg (Ad _ _ Z a Z Y (Mz (J ((k:Int)+1)) Z (M (⟨_,Y,k+1,Z,Y,Z,e,j,f,(Et (b:=(J ((Bn p k:Int)+1):aV)) Z (by congr 1;simp_all [Bn])),Z⟩)))))))))
  ·exact Sk (Rg (Ad _ _ Z a Z Y (Mz (J ((k:Int)+1)) Z (M (⟨_,Y,k+1,Z,Y,Z,e,j,f,(Et (b:=(J (Bn p k:Int):aV)) g (by congr 1;simp_all [Bn])),Z⟩)))))
 ·exact Xt (Sr (Mv (J (Bn p k:Int)) Z g (I (J (Bn p k:Int)) Z (M (Rt (⟨Zr,Ot (J (Bn p k:Int)) Z (⟨(by obtain rfl:k=6:=Y;rfl),(n.trans e)⟩)⟩))))))
theorem Hr(a:List Int)(av:aV)(b:List Int)(bv:aV)(ha:AE h av 1 eI a)(hb:AE h bv 1 eI b):AT W 15 #[av,bv] h (λv h'=>v=(.bool (decide (a=b)):aV)/\h.Le h'):=by
 have H:=ha.len;have K:=hb.len;refine Ct func15 Z (Sr (I (.bool false) Z (M (S2 (Mz av Z (V Z (AO A3 ha Z (Mz bv Z (V Z (AO A3 hb Z (V Z (Av Z Z (M (AS Z (λn=>?_) (λn=>?_)))))))))))))))
 ·exact Sr (I (.bool false) Z (M (Rt (⟨Zr,Ot (.bool false) Z (⟨(by (rw [decide_eq_false (ne_len Y)];done)),Lr⟩)⟩))))
 ·refine Sk (S2 (I (J 0) Z (M (Bk (Ai (λi σ' f h'=>∃(k:Nat),i=a.length-k/\(k<=a.length)/\(a.take k=b.take k)/\f=[]/\L.Le h h'/\σ' 0=av/\σ' 1=bv/\σ' 5=J k) ⟨0,Z,Y,(by rfl),Z,Lr,Z,Z,Z⟩ (λi _ _ _ o=>?_))))));obtain ⟨k,rfl,p,j,q,c,g,l,e⟩:=o;subst q;refine S2 (Mv (J k) Z e (Mv av Z g (V Z (AO A3 (ha.le c) Z (V Z (Ao Z Z (M (AS Z (λr=>?_) (λr=>?_)))))))))
  ·refine Sk (Sq (Bk (Sq (A9 8 false [1,6,10,16,21,26,30,36] AY aB (Rz Z (Mo av g vz) (Rz Z (Mo (J k) e vz) ?_))))));have s:(0:Int)<=(k:Int):=Y
   have t:(k:Int)<((a.length:Nat):Int):=Y
   refine tI Z Z AK ha Z Z s t λu w x=>have y:AR _ u w 1 (eI (a.getD k 0)):=AR.getD 0 x;Rl (Qm a k) Z (BA AH (y.le c) Z) (Rz Z (Mo bv l vz) (Rz Z (Mo (J k) e vz) ?_));have z:(0:Int)<=(k:Int):=Y
   have A:(k:Int)<((b.length:Nat):Int):=Y
   refine tI Z Z AK hb Z Z z A λB C D=>have E:AR _ B C 1 (eI (b.getD k 0)):=AR.getD 0 D;Rl (Qm b k) Z (BA AH (E.le c) Z) (tN (V Z (Av Z Z (M (AS Z (λF=>?_) (λF=>?_))))))
   ·exact Sr (I (.bool false) Z (M (Rt (⟨Zr,Ot (.bool false) Z (⟨(by (rw [decide_eq_false (ne_getD (k:=k) (d:=0) ‹_›)])),c⟩)⟩))))
   ·exact Sk (Rg (Mv (J k) Z e (Yd Z Y (I (J ((k:Int)+1)) Z (M (⟨_,Y,k+1,Z,Y,(by exact N6 0 j Y Y aF),Z,c,g,l,Z⟩))))))
  ·exact Xt (Sr (I (.bool true) Z (M (Rt (⟨Zr,Ot (.bool true) Z (⟨(by (rw [decide_eq_true (R0 j p ‹_› Y)];done)),c⟩)⟩)))))
theorem Hf(n:Int)(lo:Int)(hi:Int):AT W 19 #[J n,J lo,J hi] h (λv h'=>v=(.bool (decide (lo<=n/\n<=hi)):aV)/\h=h'):=by
 refine Ct func19 Z (Sr (I (.bool false) Z (M (BH (λσ' c h'=>c=[]/\h=h'/\σ' 6=.bool (Q13 lo n hi)) ?_ ?_))))
 ·refine Rg (Mz (J n) Z (Mz (J lo) Z (V Z (CX Z Z (Mz (Ql lo n) Z (BN (p:=lo<=n) ?_ ?_))))))
  ·intro a;exact Gg 3 10 (AB Z a) Z (Mo (J n) Z (Gg 3 10 (AB Z a) Z (Mo (J hi) Z (Gg 3 10 (AB Z a) Z (DI Z Z (Pk true (Ql n hi) Z (AB Z a) Z (I (Ql n hi) Z (M (⟨Z,Z,Et (b:=(.bool (decide (n<=hi)):aV)) Z (congrArg Value.bool (by (simp [a];done):decide (n<=hi)=(Q13 lo n hi)))⟩)))))))))
  ·intro a;exact Gs 3 10 (AA Z a) Z (Gs 3 10 (AA Z a) Z (Gs 3 10 (AA Z a) Z (Pk false (.bool false) Z (AA Z a) Z (I (.bool false) Z (M (⟨Z,Z,Et (b:=(.bool false:aV)) Z (congrArg Value.bool (by (simp [a];done):false=(Q13 lo n hi)))⟩))))))
 ·rintro _ _ _ ⟨e,f,g⟩;subst e;subst f;exact Rt (⟨Zr,J3 Z (v:=.bool (Q13 lo n hi)) g (⟨(by rfl),Z⟩)⟩)
theorem M9(xl:Int)(xh:Int)(lo:Int)(hi:Int):AT W 103 #[.agg #[J xl,J xh],J lo,J hi] h (λv h'=>v=(.bool (decide ((lo<=xl/\xl<=xh)/\xh<=hi)):aV)/\h.Le h'):=by
 refine Ct func103 Z (Sr (V Z (Bo #[J xl,J xh] Z Z λ_ g _ i e _=>I (.bool false) Z (M (BH (λσ' f h'=>f=[]/\g=h'/\σ' 6=.bool (Qk lo xl xh hi)) ?_ ?_)))))
 ·refine Rg (Fz Cb Z (Lz (J xl) Z (Rd.one AH e Z) (Mz (J lo) Z (V Z (CX Z Z (Mz (Ql lo xl) Z (BN (p:=lo<=xl) ?_ ?_)))))))
  ·intro a;refine Gg 4 11 (AB Z a) Z (AI Cm Z (Gg 4 11 (AB Z a) Z (Lo (J xh) Z (Rd.one AH e Z) (Gg 4 11 (AB Z a) Z (AI Cb Z (Gg 4 11 (AB Z a) Z (Lo (J xl) Z (Rd.one AH e Z) (Gg 4 11 (AB Z a) Z (CX Z Z (Pk true (Ql xl xh) Z (AB Z a) Z (Mz (Ql xl xh) Z (BN (p:=xl<=xh) ?_ ?_))))))))))))
   ·intro c;exact Gg 11 18 (AB Z c) Z (AI Cm Z (Gg 11 18 (AB Z c) Z (Lo (J xh) Z (Rd.one AH e Z) (Gg 11 18 (AB Z c) Z (Mo (J hi) Z (Gg 11 18 (AB Z c) Z (DI Z Z (Pk true (Ql xh hi) Z (AB Z c) Z (I (Ql xh hi) Z (M (⟨Z,Z,Et (b:=(.bool (decide (xh<=hi)):aV)) Z (congrArg Value.bool (by (simp [a,c];done):decide (xh<=hi)=(Qk lo xl xh hi)))⟩)))))))))))
   ·intro c;exact Gs 11 18 (AA Z c) Z (Gs 11 18 (AA Z c) Z (Gs 11 18 (AA Z c) Z (Gs 11 18 (AA Z c) Z (Pk false (.bool false) Z (AA Z c) Z (I (.bool false) Z (M (⟨Z,Z,Et (b:=(.bool false:aV)) Z (congrArg Value.bool (by (simp [a,c];done):false=(Qk lo xl xh hi)))⟩)))))))
  ·intro a;exact Gs 4 11 (AA Z a) Z (Gs 4 11 (AA Z a) Z (Gs 4 11 (AA Z a) Z (Gs 4 11 (AA Z a) Z (Gs 4 11 (AA Z a) Z (Pk false (.bool false) Z (AA Z a) Z (Mz (.bool false) Z (Gs 11 18 Z Z (Gs 11 18 Z Z (Gs 11 18 Z Z (Gs 11 18 Z Z (Pz false (.bool false) Z (I (.bool false) Z (M (⟨Z,Z,Et (b:=(.bool false:aV)) Z (congrArg Value.bool (by (simp [a];done):false=(Qk lo xl xh hi)))⟩))))))))))))))
 ·rintro _ _ _ ⟨j,k,l⟩;subst j;subst k;exact Rt (⟨Zr,J3 Z (v:=.bool (Qk lo xl xh hi)) l (⟨(by rfl),i⟩)⟩)
theorem EE(a:Int)(b:Int):AT W 11 #[J a,J b] h (λv h'=>v=(.agg #[J a,J b]:aV)/\h.Le h'):=by
 exact Ct func11 Z (Sr (V Z (AW B5 λ_ _ c e f _=>M (Sr (Mz (J a) Z (Mz (J b) Z (V Z (Ap (cells:=#[J a,J b]) Ij B5 aB (V Z (So (.agg #[J a,J b]) #[J a,J b] BS Z f Z aD Z λ_ g i=>M (Rt (⟨Zr,Gx Z (v:=.agg #[J a,J b]) Z (AF BS (Bx g Z)) (⟨Z,(e.upd (Ln Lr c) i)⟩)⟩))))))))))))
theorem Hg(n:Int)(hgs:AE h gsv 5 Bm gs)(hms:AE h msv 5 BE ms)(hcs:AE h csv 4 BF cs):AT W 73 #[.agg #[J d,J m,gsv,msv,csv],J n] h (λv h'=>v=(.bool (decide ((0<=n/\n<=(ms.length:Int)-1)/\(ms.getD (n).toNat AD.z).kind=0)):aV)/\h.Le h'):=by
 have x:=hgs.len;have y:=hms.len;have A:=hcs.len;refine Ct func73 Z (Sr (V Z (Bo #[J d,J m,gsv,msv,csv] Z Z λ_ i _ c g _=>I (.bool false) Z (M (BH (λσ' f h'=>f=[]/\L.Le i h'/\σ' 4=.bool (decide ((0<=n/\n<=(ms.length:Int)-1)/\(((ms.getD (n.toNat) AD.z).kind)=0)))) ?_ ?_)))))
 ·refine Rg (Lz _ Z (AF CC (Bx g Z)) (Mz (J n) Z (V Z (AQ func70 RL Z Z ((M8 d m gs gsv ms msv cs csv n (hgs.le c) (hms.le c) (hcs.le c) ).mono λ_ _ j=>?_)))));obtain ⟨rfl,e⟩:=j;refine Mz (.bool (decide (0<=n/\n<=(ms.length:Int)-1))) Z (BN (p:=0<=n/\n<=(ms.length:Int)-1) ?_ ?_)
  ·intro a;refine Gg 3 8 (AB Z a) Z (AI At Z (Gg 3 8 (AB Z a) Z (AI Bf Z (Gg 3 8 (AB Z a) Z (Lo msv Z (Rd.one Co (e.keep g Z) Z) (Gg 3 8 (AB Z a) Z (Mo (J n) Z ?_)))))));have k:(0:Int)<=n:=Y
   have l:n<((ms.length:Nat):Int):=Y
   exact Gg 3 8 (AB Z a) Z (Ae FV hms Z Z k l λo q r=>have s:AR _ o q 5 (BE (ms.getD (n.toNat) AD.z)):=AR.getD AD.z r;Gg 3 8 (AB Z a) Z (AI Ih Z (Gg 3 8 (AB Z a) Z (Lo (J ((ms.getD (n.toNat) AD.z).kind)) Z (BA Nc (s.le (c.trans e)) Z) (Gg 3 8 (AB Z a) Z (CL Z Z (Pk true (.bool (decide (((ms.getD (n.toNat) AD.z).kind)=0))) Z (AB Z a) Z (I (.bool (decide (((ms.getD (n.toNat) AD.z).kind)=0))) Z (M (⟨Z,e,Et (b:=(.bool (decide (((ms.getD (n.toNat) AD.z).kind)=0)):aV)) Z (congrArg Value.bool (by (simp [a];done):decide (((ms.getD (n.toNat) AD.z).kind)=0)=(decide ((0<=n/\n<=(ms.length:Int)-1)/\(((ms.getD (n.toNat) AD.z).kind)=0)))))⟩))))))))))
  ·intro a;exact Gs 3 8 (AA Z a) Z (Gs 3 8 (AA Z a) Z (Gs 3 8 (AA Z a) Z (Gs 3 8 (AA Z a) Z (Gs 3 8 (AA Z a) Z (Gs 3 8 (AA Z a) Z (Gs 3 8 (AA Z a) Z (Gs 3 8 (AA Z a) Z (Pk false (.bool false) Z (AA Z a) Z (I (.bool false) Z (M (⟨Z,e,Et (b:=(.bool false:aV)) Z (congrArg Value.bool (by (simp [a];done):false=(decide ((0<=n/\n<=(ms.length:Int)-1)/\(((ms.getD (n.toNat) AD.z).kind)=0)))))⟩)))))))))))
 ·rintro _ _ _ ⟨t,u,w⟩;subst t;exact Rt (⟨Zr,J3 Z (v:=.bool (decide ((0<=n/\n<=(ms.length:Int)-1)/\(((ms.getD (n.toNat) AD.z).kind)=0)))) w (⟨(by rfl),(c.trans u)⟩)⟩)
theorem Zk(hgs:AE h gsv 5 Bm gs)(hms:AE h msv 5 BE ms)(hcs:AE h csv 4 BF cs):AT W 190 #[.agg #[J d,J m,gsv,msv,csv]] h (λv h'=>v=(J (F9 d m):aV)/\h.Le h'):=by
 have q:=hgs.len;have r:=hms.len;have s:=hcs.len;refine Ct func190 Z (Sr (V Z (Bo #[J d,J m,gsv,msv,csv] Z Z λ_ g _ e f _=>I (J 0) Z (M (Sq (BH (λσ' c h'=>c=[]/\g=h'/\σ' 2=J 0/\σ' 14=.bool (Q1b d m)) ?_ ?_))))))
 ·refine Rg (Fz At Z (Fz DP Z (Lz (J d) Z (Rd.one AH f Z) (V Z (Ag func41 Bz Z Z Z ((BR d 1 99 ).mono λ_ _ i=>?_))))));obtain ⟨rfl,rfl⟩:=i;refine V Z (A4 Z (Mz (.bool (decide (¬(1<=d/\d<=99)))) Z (BN (p:=¬(1<=d/\d<=99)) ?_ ?_)))
  ·intro a;exact Gs 5 8 (AB Z a) Z (Gs 5 8 (AB Z a) Z (Gs 5 8 (AB Z a) Z (Gs 5 8 (AB Z a) Z (Gs 5 8 (AB Z a) Z (Pk true (.bool true) Z (AB Z a) Z (M (⟨Z,Z,Z,Et (b:=(.bool true:aV)) Z (congrArg Value.bool (by (simp [a];done):true=(Q1b d m)))⟩)))))))
  ·intro a;refine Gg 5 8 (AA Z a) Z (AI At Z (Gg 5 8 (AA Z a) Z (AI Ig Z (Gg 5 8 (AA Z a) Z (Lo (J m) Z (Rd.one AH f Z) (Gg 5 8 (AA Z a) Z (Ag func41 Bz Z Z Z ((BR m 0 2 ).mono λ_ _ j=>?_))))))));obtain ⟨rfl,rfl⟩:=j;exact Gg 5 8 (AA Z a) Z (A4 Z (Pk false (.bool (decide (¬(0<=m/\m<=2)))) Z (AA Z a) Z (M (⟨Z,Z,Z,Et (b:=(.bool (decide (¬(0<=m/\m<=2))):aV)) Z (congrArg Value.bool (by (simp [a];done):decide (¬(0<=m/\m<=2))=(Q1b d m)))⟩))))
 ·rintro _ _ _ ⟨k,l,t,n⟩;subst k;subst l;refine AS n (λo=>?_) (λo=>?_)
  ·exact Sr (I (J 1) Z (M (Rt (⟨Zr,Ot (J 1) Z (⟨(by simp_all [F9]),e⟩)⟩))))
  ·exact Sk (Sr (I (J 0) Z (M (Rt (⟨Zr,Ot (J 0) Z (⟨(by simp_all [F9]),e⟩)⟩)))))
theorem Pw(xs:List Int)(xsv:aV)(fv:aV)(p:Int->Bool)(hxs:AE h xsv 1 eI xs)(hf:∀x ∈ xs,∀h1,h.Le h1->CG W fv #[J x] h1 λv h2=>v=.bool (p x)/\h1.Le h2):AT W 107 #[xsv,fv] h (λv h'=>v=(J (idxOf p xs):aV)/\h.Le h'):=by
 have B:=hxs.len;refine Ct func107 Z (Sr (I (J 0) Z (M (S2 (Mz xsv Z (V Z (AO A3 hxs Z (Mz (J 0) Z (M (Bk (Ai (λf σ' b h'=>∃(k:Nat),f=xs.length-k/\(k<=xs.length)/\((xs.take k).any p=false)/\b=[]/\L.Le h h'/\σ' 0=xsv/\σ' 1=fv/\σ' 7=J (xs.length:Int)/\σ' 8=J k) ⟨0,Z,Y,aD,Z,Lr,Z,Z,Z,Z⟩ (λf _ _ _ n=>?_))))))))))));obtain ⟨k,rfl,C,c,o,a,g,i,j,e⟩:=n;subst o;refine Sr (V Z (Ao e j (M (Sq (AS Z (λq=>?_) (λq=>?_))))))
 ·refine Sk (Sq (Bk (Sr (Mv (J k) Z e (I (J k) Z (M (Sr (Mv fv Z i (Mv xsv Z g (Mz (J k) Z ?_))))))))));have r:(0:Int)<=(k:Int):=Y
  have s:(k:Int)<((xs.length:Nat):Int):=Y
  refine V Z (Ae AK hxs Z Z r s λt u w=>have y:AR _ t u 1 (eI (xs.getD k 0)):=AR.getD 0 w;Lz (Qm xs k) Z (BA AH (y.le a) Z) (V Z (IM Z (vs:=#[J (xs.getD k 0)]) (by simp only [List.map_toArray,List.map_cons,List.map_nil,AL] <;> rfl) ((hf (xs.getD k 0) (EF Y) _ a).mono λ_ _ z=>?_))));obtain ⟨rfl,l⟩:=z;refine M (CK Z (λA=>?_) (λA=>?_))
  ·exact Sr (Mz (J k) Z (I (J k) Z (M (Rt (⟨Zr,Ot (J k) Z (⟨(by (rw [Je (k:=k) Y c ‹_›];done)),(a.trans l)⟩)⟩)))))
  ·exact Sk (Rg (Ad _ _ Z e Z Y (Mz (J ((k:Int)+1)) Z (M (⟨_,Y,k+1,Z,Y,(by exact K6 (d:=0) Y c ‹_›),Z,(a.trans l),g,i,j,Z⟩)))))
 ·exact Xt (Sr (I (J (-1)) Z (M (Rt (⟨Zr,Ot (J (-1)) Z (⟨(by (rw [IQ (k:=k) Y c])),a⟩)⟩)))))
theorem Ek(xs:List Int)(xsv:aV)(fv:aV)(p:Int->Bool)(hxs:AE h xsv 1 eI xs)(hf:∀x ∈ xs,∀h1,h.Le h1->CG W fv #[J x] h1 λv h2=>v=.bool (p x)/\h1.Le h2):AT W 76 #[xsv,fv] h (λv h'=>v=(.bool (xs.any p):aV)/\h.Le h'):=by
 have f:=hxs.len;refine Ct func76 Z (Sr (I (.bool false) Z (M (Sr (Mz xsv Z (Mz fv Z (V Z (AQ func107 V3 Z Z ((Pw xs xsv fv p hxs (λx a h1 b=>hf x a h1 (L.Le.trans Lr b))).mono λ_ _ c=>?_)))))))));obtain ⟨rfl,e⟩:=c;exact V Z (CX Z Z (I (.bool (decide (0<=(idxOf p xs)))) Z (M (Rt (⟨Zr,Ot (.bool (decide (0<=(idxOf p xs)))) Z (⟨(by rw [show decide (0<=idxOf p xs)=xs.any p from by rw [Bool.eq_iff_iff];simp [Gp]]),e⟩)⟩)))))
theorem NI(xs:List AN)(xsv:aV)(fv:aV)(p:AN->Bool)(hxs:AE h xsv 4 BF xs)(hf:∀x ∈ xs,∀h1,h.Le h1->CG W fv #[.agg #[J x.good,J x.day,J x.low,J x.high]] h1 λv h2=>v=.bool (p x)/\h1.Le h2):AT W 152 #[xsv,fv] h (λv h'=>v=(J (idxOf p xs):aV)/\h.Le h'):=by
 have C:=hxs.len;refine Ct func152 Z (Sr (I (J 0) Z (M (S2 (Mz xsv Z (V Z (AO Lb hxs Z (Mz (J 0) Z (M (Bk (Ai (λf σ' b h'=>∃(k:Nat),f=xs.length-k/\(k<=xs.length)/\((xs.take k).any p=false)/\b=[]/\L.Le h h'/\σ' 0=xsv/\σ' 1=fv/\σ' 7=J (xs.length:Int)/\σ' 8=J k) ⟨0,Z,Y,aD,Z,Lr,Z,Z,Z,Z⟩ (λf _ _ _ n=>?_))))))))))));obtain ⟨k,rfl,D,c,o,a,g,i,j,e⟩:=n;subst o;refine Sr (V Z (Ao e j (M (Sq (AS Z (λq=>?_) (λq=>?_))))))
 ·refine Sk (Sq (Bk (Sr (Mv (J k) Z e (I (J k) Z (M (Sr (Mv fv Z i (Mv xsv Z g (Mz (J k) Z ?_))))))))));have r:(0:Int)<=(k:Int):=Y
  have s:(k:Int)<((xs.length:Nat):Int):=Y
  refine V Z (Ae O4 hxs Z Z r s λt u w=>have y:AR _ t u 4 (BF (xs.getD k AN.z)):=AR.getD AN.z w;Lz _ Z (AF IA (y.le a)) (V Z (IM Z (vs:=#[.agg (Qn xs k)]) (by simp only [List.map_toArray,List.map_cons,List.map_nil,AL] <;> rfl) ((hf (xs.getD k AN.z) (EF Y) _ a).mono λ_ _ A=>?_))));obtain ⟨rfl,l⟩:=A;refine M (CK Z (λB=>?_) (λB=>?_))
  ·exact Sr (Mz (J k) Z (I (J k) Z (M (Rt (⟨Zr,Ot (J k) Z (⟨(by (rw [Je (k:=k) Y c ‹_›];done)),(a.trans l)⟩)⟩)))))
  ·exact Sk (Rg (Ad _ _ Z e Z Y (Mz (J ((k:Int)+1)) Z (M (⟨_,Y,k+1,Z,Y,(by exact K6 (d:=AN.z) Y c ‹_›),Z,(a.trans l),g,i,j,Z⟩)))))
 ·exact Xt (Sr (I (J (-1)) Z (M (Rt (⟨Zr,Ot (J (-1)) Z (⟨(by (rw [IQ (k:=k) Y c])),a⟩)⟩)))))
theorem Km(xs:List AN)(xsv:aV)(fv:aV)(p:AN->Bool)(hxs:AE h xsv 4 BF xs)(hf:∀x ∈ xs,∀h1,h.Le h1->CG W fv #[.agg #[J x.good,J x.day,J x.low,J x.high]] h1 λv h2=>v=.bool (p x)/\h1.Le h2):AT W 126 #[xsv,fv] h (λv h'=>v=(.bool (xs.any p):aV)/\h.Le h'):=by
 have f:=hxs.len;refine Ct func126 Z (Sr (I (.bool false) Z (M (Sr (Mz xsv Z (Mz fv Z (V Z (AQ func152 WP Z Z ((NI xs xsv fv p hxs (λx a h1 b=>hf x a h1 (L.Le.trans Lr b))).mono λ_ _ c=>?_)))))))));obtain ⟨rfl,e⟩:=c;exact V Z (CX Z Z (I (.bool (decide (0<=(idxOf p xs)))) Z (M (Rt (⟨Zr,Ot (.bool (decide (0<=(idxOf p xs)))) Z (⟨(by rw [show decide (0<=idxOf p xs)=xs.any p from by rw [Bool.eq_iff_iff];simp [Gp]]),e⟩)⟩)))))
theorem PJ(xs:List Good)(xsv:aV)(fv:aV)(p:Good->Bool)(hxs:AE h xsv 5 Bm xs)(hf:∀x ∈ xs,∀h1,h.Le h1->CG W fv #[.agg #[.string x.name,J x.cost,J x.pack,J x.low,J x.high]] h1 λv h2=>v=.bool (p x)/\h1.Le h2):AT W 199 #[xsv,fv] h (λv h'=>v=(J (idxOf p xs):aV)/\h.Le h'):=by
 have C:=hxs.len;refine Ct func199 Z (Sr (I (J 0) Z (M (S2 (Mz xsv Z (V Z (AO Ez hxs Z (Mz (J 0) Z (M (Bk (Ai (λf σ' b h'=>∃(k:Nat),f=xs.length-k/\(k<=xs.length)/\((xs.take k).any p=false)/\b=[]/\L.Le h h'/\σ' 0=xsv/\σ' 1=fv/\σ' 7=J (xs.length:Int)/\σ' 8=J k) ⟨0,Z,Y,aD,Z,Lr,Z,Z,Z,Z⟩ (λf _ _ _ n=>?_))))))))))));obtain ⟨k,rfl,D,c,o,a,g,i,j,e⟩:=n;subst o;refine Sr (V Z (Ao e j (M (Sq (AS Z (λq=>?_) (λq=>?_))))))
 ·refine Sk (Sq (Bk (Sr (Mv (J k) Z e (I (J k) Z (M (Sr (Mv fv Z i (Mv xsv Z g (Mz (J k) Z ?_))))))))));have r:(0:Int)<=(k:Int):=Y
  have s:(k:Int)<((xs.length:Nat):Int):=Y
  refine V Z (Ae HH hxs Z Z r s λt u w=>have y:AR _ t u 5 (Bm (xs.getD k Good.z)):=AR.getD Good.z w;Lz _ Z (AF Gh (y.le a)) (V Z (IM Z (vs:=#[.agg (Qh xs k)]) (by simp only [List.map_toArray,List.map_cons,List.map_nil,AL] <;> rfl) ((hf (xs.getD k Good.z) (EF Y) _ a).mono λ_ _ A=>?_))));obtain ⟨rfl,l⟩:=A;refine M (CK Z (λB=>?_) (λB=>?_))
  ·exact Sr (Mz (J k) Z (I (J k) Z (M (Rt (⟨Zr,Ot (J k) Z (⟨(by (rw [Je (k:=k) Y c ‹_›];done)),(a.trans l)⟩)⟩)))))
  ·exact Sk (Rg (Ad _ _ Z e Z Y (Mz (J ((k:Int)+1)) Z (M (⟨_,Y,k+1,Z,Y,(by exact K6 (d:=Good.z) Y c ‹_›),Z,(a.trans l),g,i,j,Z⟩)))))
 ·exact Xt (Sr (I (J (-1)) Z (M (Rt (⟨Zr,Ot (J (-1)) Z (⟨(by (rw [IQ (k:=k) Y c])),a⟩)⟩)))))
theorem Ll(xs:List Good)(xsv:aV)(fv:aV)(p:Good->Bool)(hxs:AE h xsv 5 Bm xs)(hf:∀x ∈ xs,∀h1,h.Le h1->CG W fv #[.agg #[.string x.name,J x.cost,J x.pack,J x.low,J x.high]] h1 λv h2=>v=.bool (p x)/\h1.Le h2):AT W 195 #[xsv,fv] h (λv h'=>v=(.bool (xs.any p):aV)/\h.Le h'):=by
 have f:=hxs.len;refine Ct func195 Z (Sr (I (.bool false) Z (M (Sr (Mz xsv Z (Mz fv Z (V Z (AQ func199 Wb Z Z ((PJ xs xsv fv p hxs (λx a h1 b=>hf x a h1 (L.Le.trans Lr b))).mono λ_ _ c=>?_)))))))));obtain ⟨rfl,e⟩:=c;exact V Z (CX Z Z (I (.bool (decide (0<=(idxOf p xs)))) Z (M (Rt (⟨Zr,Ot (.bool (decide (0<=(idxOf p xs)))) Z (⟨(by rw [show decide (0<=idxOf p xs)=xs.any p from by rw [Bool.eq_iff_iff];simp [Gp]]),e⟩)⟩)))))
theorem Px(n:Int):AT W 125 #[J n] h (λv h'=>v=(.bool (decide (¬(0<=n/\n<=99))):aV)/\h=h'):=by
 refine Ct func125 Z (Sr (I (.bool false) Z (M (Sr (Mz (J n) Z (V Z (Ag func41 Bz Z Z Z ((BR n 0 99 ).mono λ_ _ a=>?_))))))));obtain ⟨rfl,rfl⟩:=a;exact V Z (A4 Z (I (Q16 n) Z (M (Rt (⟨Zr,Ot (Q16 n) Z (⟨Z,Z⟩)⟩)))))
theorem Lm(l:List Int)(lv:aV)(m:Int)(hl:AE h lv 1 eI l):AT W 105 #[lv,J m] h (λv h'=>v=(J (Aw l m):aV)/\h.Le h'):=by
 have k:=hl.len;refine Ct func105 Z (Sr (I (J 0) Z (M (Sq (Bk (Sr (Mz lv Z (V Z (AO A3 hl Z (Mz (J m) Z (V Z (Av Z Z (I (.bool (decide (¬(l.length:Int)=m))) Z (M (AS Z (λf=>?_) (λf=>?_))))))))))))))))
 ·exact Sr (I (J 2) Z (M (Rt (⟨Zr,Ot (J 2) Z (⟨(by simp_all [Aw]),Lr⟩)⟩))))
 ·refine Sr (Mz lv Z ?_);have g:∀x ∈ l,∀a,L.Le h a->CG W (.func (.func 125) #[] #[]) #[J x] a λv b=>v=.bool ((λx=>decide (¬(0<=x/\x<=99))) x)/\a.Le b:=by
   intro x n a _;exact BU func125 V9 Z ((Px x ).mono λv b c=>⟨c.1,by rw [<-c.2];exact L.Le.refl _⟩)
  refine V Z (AQ func76 Jt Z Z ((Ek l lv (.func (.func 125) #[] #[]) (λx=>decide (¬(0<=x/\x<=99))) hl g).mono λ_ _ i=>?_));obtain ⟨rfl,e⟩:=i;refine I (.bool (l.any (λx=>decide (¬(0<=x/\x<=99))))) Z (M (CK Z (λj=>?_) (λj=>?_)))
  ·exact Sr (I (J 1) Z (M (Rt (⟨Zr,Ot (J 1) Z (⟨(by simp_all [Aw]),e⟩)⟩))))
  ·exact Sk (Sr (I (J 0) Z (M (Rt (⟨Zr,Ot (J 0) Z (⟨(by simp_all [Aw]),e⟩)⟩)))))
theorem Ws(hgs:AE h gsv 5 Bm gs)(hms:AE h msv 5 BE ms)(hcs:AE h csv 4 BF cs):AT W 192 #[.agg #[J d,J m,gsv,msv,csv]] h (λv h'=>v=(J (DG d gs ms):aV)/\h.Le h'):=by
 have av:=hgs.len;have aw:=hms.len;have ax:=hcs.len;refine Ct func192 Z (Sr (V Z (Bo #[J d,J m,gsv,msv,csv] Z Z λy P _ i r _=>I (J 0) Z (M (S2 (Fz At Z (Fz Bf Z (Lz msv Z (Rd.one Co r Z) (have A:=hms.le i;V Z (AO E0 A Z (V Z (Ck Z Z (M (AS Z (λQ=>?_) (λQ=>?_)))))))))))))))
 ·exact Sr (I (J 2) Z (M (Rt (⟨Zr,Ot (J 2) Z (⟨(by (symm;congr 1;rw [DG,aU ‹_›];done)),i⟩)⟩))))
 ·refine Sk (Sr (I (J 0) Z (M (S2 (Fz At Z (Fz Bf Z (Lz msv Z (Rd.one Co r Z) (V Z (AO E0 A Z (Mz (J 0) Z (M (Bk (Ai (λB σ' s h'=>∃(k:Nat),B=ms.length-k/\(k<=ms.length)/\(∀j,j<k->Fl d gs ms j=0)/\s=[]/\L.Le P h'/\σ' 1=Pt y/\σ' 13=msv/\σ' 14=J (ms.length:Int)/\σ' 3=J (FQ ms k)/\σ' 15=J k) ⟨0,Z,Y,aK,Z,Lr,Z,Z,Z,Z,Z⟩ (λB _ _ _ R=>?_))))))))))))));obtain ⟨k,rfl,hk,a,S,f,t,C,D,T,u⟩:=R;subst S;refine Sr (V Z (Ao u D (M (Sq (AS Z (λU=>?_) (λU=>?_))))))
  ·refine Sk (Sq (Bk (Sq (Rg ?_))));have X:(0:Int)<=(k:Int):=Y
   have a5:(k:Int)<((ms.length:Nat):Int):=Y
   refine V Z (Ae FV hms C u X a5 λbk am a6=>have a7:AR _ bk am 5 (BE (ms.getD k AD.z)):=AR.getD AD.z a6;have g:=i.trans f;Lz _ Z (AF He (a7.le g)) (have E:=f.keep r Z;V Z (AW Ej λbl _ l n a8 _=>have a9:y≠bl:=B7 E l;V Z (So (.agg (Qa ms k)) (Qa ms k) He Z a8 Z aD Z λ_ w p=>M (Sq (Bk (Sr (Fz Ih Z (Lz (J ((ms.getD k AD.z).kind)) Z (Rd.one Nc w Z) (V Z (Ag func41 Bz Z Z Z ((BR ((ms.getD k AD.z).kind) 0 4 ).mono λ_ _ ba=>?_))))))))))));obtain ⟨rfl,rfl⟩:=ba;refine V Z (A4 Z (I (.bool (decide (¬(0<=((ms.getD k AD.z).kind)/\((ms.getD k AD.z).kind)<=4)))) Z (M (AS Z (λF=>?_) (λF=>?_)))))
   ·exact Sr (I (J 1) Z (M (Rt (⟨Zr,Ot (J 1) Z (⟨(by (symm;congr 1;rw [DG,aT ‹_›];exact CH (k:=k) a Y (by unfold Fl;(simp only [*,not_true_eq_false,not_false_eq_true,if_true,if_false,true_or,or_true,reduceCtorEq,Bool.false_eq_true];done)) aC)),((g.trans n).upd (Ln g l) p)⟩)⟩))))
   ·have hc48_:=Dn F;refine Sr (have H:=(p _ a9).trans (n.keep E Z);Ld _ Z t (AF CC (Bx H Z)) (Fz Kj Z (Lz (J ((ms.getD k AD.z).good)) Z (Rd.one AH w Z) (have c:=(g.trans n).upd (Ln g l) p;V Z (AQ func39 H7 Z Z ((GJ d m gs gsv ms msv cs csv ((ms.getD k AD.z).good) (hgs.le c) (hms.le c) (hcs.le c) ).mono λ_ _ bb=>?_))))));obtain ⟨rfl,e⟩:=bb;refine V Z (A4 Z (I (.bool (decide (¬(0<=((ms.getD k AD.z).good)/\((ms.getD k AD.z).good)<=(gs.length:Int)-1)))) Z (M (AS Z (λK=>?_) (λK=>?_)))))
    ·exact Sr (I (J 6) Z (M (Rt (⟨Zr,Ot (J 6) Z (⟨(by (symm;congr 1;rw [DG,aT ‹_›];exact CH (k:=k) a Y (by unfold Fl;(clear a;simp_all;done)) aC)),(c.trans e)⟩)⟩))))
    ·have hc59_:=Dn K;refine Sr (Fz EB Z (have q:=e.keep w Z;Lz (J ((ms.getD k AD.z).day)) Z (Rd.one AH q Z) (Fa At Z t (Fz DP Z (Lz (J d) Z (Rd.one AH (e.keep H Z) Z) (V Z (Ag func41 Bz Z Z Z ((BR ((ms.getD k AD.z).day) 1 d ).mono λ_ _ bc=>?_))))))));obtain ⟨rfl,rfl⟩:=bc;refine V Z (A4 Z (I (.bool (decide (¬(1<=((ms.getD k AD.z).day)/\((ms.getD k AD.z).day)<=d)))) Z (M (AS Z (λN=>?_) (λN=>?_)))))
     ·exact Sr (I (J 1) Z (M (Rt (⟨Zr,Ot (J 1) Z (⟨(by (symm;congr 1;rw [DG,aT ‹_›];exact CH (k:=k) a Y (by unfold Fl;(clear a;simp_all;done)) aC)),(c.trans e)⟩)⟩))))
     ·have hc67_:=Dn N;refine Sr (Fz EB Z (Lz (J ((ms.getD k AD.z).day)) Z (Rd.one AH q Z) (Mv (J (FQ ms k)) Z T (V Z (Ao Z Z (I (.bool (decide (((ms.getD k AD.z).day)<(FQ ms k)))) Z (M (AS Z (λbd=>?_) (λbd=>?_)))))))))
      ·exact Sr (I (J 7) Z (M (Rt (⟨Zr,Ot (J 7) Z (⟨(by (symm;congr 1;rw [DG,aT ‹_›];exact CH (k:=k) a Y (by unfold Fl;(clear a;simp_all;done)) aC)),(c.trans e)⟩)⟩))))
      ·refine Sr (Fz Ii Z (Lz (.agg #[J ((ms.getD k AD.z).low),J ((ms.getD k AD.z).high)]) Z (Fi (o:=3) (ws:=#[J ((ms.getD k AD.z).low),J ((ms.getD k AD.z).high)]) BS (Bx q Z) (Nb Z) Z) (V Z (Ak func197 O0 Z ((UZ ((ms.getD k AD.z).low) ((ms.getD k AD.z).high) ).mono λ_ _ be=>?_)))));obtain ⟨rfl,x⟩:=be;refine V Z (A4 Z (I (.bool (decide (¬(GQ ((ms.getD k AD.z).low) ((ms.getD k AD.z).high))))) Z (M (AS Z (λO=>?_) (λO=>?_)))))
       ·exact Sr (I (J 1) Z (M (Rt (⟨Zr,Ot (J 1) Z (⟨(by (symm;congr 1;rw [DG,aT ‹_›];exact CH (k:=k) a Y (by unfold Fl;(clear a;simp_all;done)) aC)),((c.trans e).trans x)⟩)⟩))))
       ·have hc75_:=Dn O;exact Sk (Rg (Fz EB Z (Lz (J ((ms.getD k AD.z).day)) Z (Rd.one AH (x.keep q Z) Z) (I (J ((ms.getD k AD.z).day)) Z (M (Rg (Ad _ _ Z u Z Y (Mz (J ((k:Int)+1)) Z (M (have bf:=(((f.trans n).upd (Ln f l) p).trans e).trans x;⟨_,Y,k+1,Z,Y,(by exact FD a (by unfold Fl;(clear a;simp_all;done))),Z,bf,t,C,D,(Et (b:=(J ((ms.getD k AD.z).day):aV)) Z (by simp [FQ])),Z⟩))))))))))
  ·exact Xt (Sr (I (J 0) Z (M (Rt (⟨Zr,Ot (J 0) Z (⟨(by (symm;congr 1;rw [DG,aT ‹_›];exact DZ (k:=k) a Y)),(i.trans f)⟩)⟩)))))
theorem Ua(hgs:AE h gsv 5 Bm gs)(hms:AE h msv 5 BE ms)(hcs:AE h csv 4 BF cs):AT W 193 #[.agg #[J d,J m,gsv,msv,csv]] h (λv h'=>v=(J (Dj d gs cs):aV)/\h.Le h'):=by
 have aw:=hgs.len;have ax:=hms.len;have ay:=hcs.len;refine Ct func193 Z (Sr (V Z (Bo #[J d,J m,gsv,msv,csv] Z Z λr O _ l s _=>I (J 0) Z (M (S2 (Fz At Z (Fz Ea Z (Lz csv Z (Rd.one Hd s Z) (have B:=hcs.le l;V Z (AO Lb B Z (V Z (Ck Z Z (M (AS Z (λP=>?_) (λP=>?_)))))))))))))))
 ·exact Sr (I (J 2) Z (M (Rt (⟨Zr,Ot (J 2) Z (⟨(by (symm;congr 1;rw [Dj,aU ‹_›];done)),l⟩)⟩))))
 ·refine Sk (S2 (Fz At Z (Fz Ea Z (Lz csv Z (Rd.one Hd s Z) (V Z (AO Lb B Z (Mz (J 0) Z (M (Bk (Ai (λC σ' c h'=>∃(k:Nat),C=cs.length-k/\(k<=cs.length)/\(∀j,j<k->HX d gs cs j=0)/\c=[]/\L.Le O h'/\σ' 1=Pt r/\σ' 12=csv/\σ' 13=J (cs.length:Int)/\σ' 14=J k) ⟨0,Z,Y,aK,Z,Lr,Z,Z,Z,Z⟩ (λC _ _ _ Q=>?_)))))))))));obtain ⟨k,rfl,hk,e,R,f,n,t,u,q⟩:=Q;subst R;refine Sr (V Z (Ao q u (M (Sq (AS Z (λS=>?_) (λS=>?_))))))
  ·refine Sk (Sq (Bk (Sq (Rg ?_))));have T:(0:Int)<=(k:Int):=Y
   have U:(k:Int)<((cs.length:Nat):Int):=Y
   refine V Z (Ae O4 hcs t q T U λX al a7=>have a8:AR _ X al 4 (BF (cs.getD k AN.z)):=AR.getD AN.z a7;have w:=l.trans f;Lz _ Z (AF IA (a8.le w)) (have D:=f.keep s Z;V Z (AW Im λbo _ x y a9 _=>have ba:r≠bo:=B7 D x;V Z (So (.agg (Qn cs k)) (Qn cs k) IA Z a9 Z aD Z λ_ E A=>M (Bk (Sr (have F:=(A _ ba).trans (y.keep D Z);Ld _ Z n (AF CC (Bx F Z)) (Fz M1 Z (Lz (J ((cs.getD k AN.z).good)) Z (Rd.one AH E Z) (have g:=(w.trans y).upd (Ln w x) A;V Z (AQ func39 H7 Z Z ((GJ d m gs gsv ms msv cs csv ((cs.getD k AN.z).good) (hgs.le g) (hms.le g) (hcs.le g) ).mono λ_ bp bb=>?_))))))))))));obtain ⟨rfl,i⟩:=bb;refine V Z (A4 Z (I (.bool (decide (¬(0<=((cs.getD k AN.z).good)/\((cs.getD k AN.z).good)<=(gs.length:Int)-1)))) Z (M (AS Z (λH=>?_) (λH=>?_)))))
   ·exact Sr (I (J 6) Z (M (Rt (⟨Zr,Ot (J 6) Z (⟨(by (symm;congr 1;rw [Dj,aT ‹_›];exact CH (k:=k) e Y (by unfold HX;(simp only [*,not_true_eq_false,not_false_eq_true,if_true,if_false,true_or,or_true,reduceCtorEq,Bool.false_eq_true];done)) aC)),(g.trans i)⟩)⟩))))
   ·have hc52_:=Dn H;refine BH (λσ' c h'=>c=[]/\L.Le bp h'/\σ' 1=Pt r/\σ' 12=csv/\σ' 13=J (cs.length:Int)/\σ' 14=J k/\σ' 24=.bool (decide ((¬(0<=((cs.getD k AN.z).day)/\((cs.getD k AN.z).day)<=d))\/(¬((0<=((cs.getD k AN.z).low)/\((cs.getD k AN.z).low)<=((cs.getD k AN.z).high))/\((cs.getD k AN.z).high)<=999))))) ?_ ?_
    ·refine Rg (Fz M3 Z (have K:=i.keep E Z;Lz (J ((cs.getD k AN.z).day)) Z (Rd.one AH K Z) (Fa At Z n (Fz DP Z (Lz (J d) Z (Rd.one AH (i.keep F Z) Z) (V Z (Ag func41 Bz Z Z Z ((BR ((cs.getD k AN.z).day) 0 d ).mono λ_ _ bc=>?_))))))));obtain ⟨rfl,rfl⟩:=bc;refine V Z (A4 Z (Mz (.bool (decide (¬(0<=((cs.getD k AN.z).day)/\((cs.getD k AN.z).day)<=d)))) Z (BN (p:=¬(0<=((cs.getD k AN.z).day)/\((cs.getD k AN.z).day)<=d)) ?_ ?_)))
     ·intro a;exact Gs 7 32 (AB Z a) Z (Gs 7 32 (AB Z a) Z (Gs 7 32 (AB Z a) Z (Gs 7 32 (AB Z a) Z (Pk true (.bool true) Z (AB Z a) Z (I (.bool true) Z (M (⟨Z,Lr,n,t,u,q,Et (b:=(.bool true:aV)) Z (congrArg Value.bool (by grind:true=(decide ((¬(0<=((cs.getD k AN.z).day)/\((cs.getD k AN.z).day)<=d))\/(¬((0<=((cs.getD k AN.z).low)/\((cs.getD k AN.z).low)<=((cs.getD k AN.z).high))/\((cs.getD k AN.z).high)<=999))))))⟩)))))))
     ·intro a;refine Gg 7 32 (AA Z a) Z (AI JP Z (Gg 7 32 (AA Z a) Z (Lo (.agg #[J ((cs.getD k AN.z).low),J ((cs.getD k AN.z).high)]) Z (Fi (o:=2) (ws:=#[J ((cs.getD k AN.z).low),J ((cs.getD k AN.z).high)]) BS (Bx K Z) (Nb Z) Z) (Gg 7 32 (AA Z a) Z (Ag func198 O1 Z Z Z ((PI ((cs.getD k AN.z).low) ((cs.getD k AN.z).high) 0 999 ).mono λ_ _ bd=>?_))))));obtain ⟨rfl,ar⟩:=bd;exact Gg 7 32 (AA Z a) Z (A4 Z (Pk false (.bool (decide (¬((0<=((cs.getD k AN.z).low)/\((cs.getD k AN.z).low)<=((cs.getD k AN.z).high))/\((cs.getD k AN.z).high)<=999)))) Z (AA Z a) Z (I (.bool (decide (¬((0<=((cs.getD k AN.z).low)/\((cs.getD k AN.z).low)<=((cs.getD k AN.z).high))/\((cs.getD k AN.z).high)<=999)))) Z (M (⟨Z,ar,n,t,u,q,Et (b:=(.bool (decide (¬((0<=((cs.getD k AN.z).low)/\((cs.getD k AN.z).low)<=((cs.getD k AN.z).high))/\((cs.getD k AN.z).high)<=999))):aV)) Z (congrArg Value.bool (by grind:decide (¬((0<=((cs.getD k AN.z).low)/\((cs.getD k AN.z).low)<=((cs.getD k AN.z).high))/\((cs.getD k AN.z).high)<=999))=(decide ((¬(0<=((cs.getD k AN.z).day)/\((cs.getD k AN.z).day)<=d))\/(¬((0<=((cs.getD k AN.z).low)/\((cs.getD k AN.z).low)<=((cs.getD k AN.z).high))/\((cs.getD k AN.z).high)<=999))))))⟩)))))
    ·rintro _ _ _ ⟨be,N,bf,bg,bh,bi,bj⟩;subst be;refine AS bj (λbk=>?_) (λbk=>?_)
     ·exact Sr (I (J 1) Z (M (Rt (⟨Zr,Ot (J 1) Z (⟨(by (symm;congr 1;rw [Dj,aT ‹_›];exact CH (k:=k) e Y (by unfold HX;(clear e;simp_all;done)) aC)),((g.trans i).trans N)⟩)⟩))))
     ·exact Sk (Rg (Ad _ _ Z bi Z Y (Mz (J ((k:Int)+1)) Z (M (have bl:=(((f.trans y).upd (Ln f x) A).trans i).trans N;⟨_,Y,k+1,Z,Y,(by exact FD e (by unfold HX;(clear e;simp_all;done))),Z,bl,bf,bg,bh,Z⟩)))))
  ·exact Xt (Sr (I (J 0) Z (M (Rt (⟨Zr,Ot (J 0) Z (⟨(by (symm;congr 1;rw [Dj,aT ‹_›];exact DZ (k:=k) e Y)),(l.trans f)⟩)⟩)))))
theorem Ub(s:aX)(hsz:s.size<=1000):AT W 194 #[.string s] h (λv h'=>v=(.bool (GO s):aV)/\h.Le h'):=by
 have x:=DJ s;refine Ct func194 Z (Sr (I (.bool false) Z (M (S2 (Mz (.string s) Z (V Z (ok_convS US Z Y λq y t u=>V Z (AO fx_sl287 u Z (Mz (J 0) Z (M (Bk (Ai (λw σ' e h'=>∃(k:Nat),w=(bytesOf s).length-k/\(k<=(bytesOf s).length)/\(∀j,j<k->KP s j=0)/\e=[]/\L.Le y h'/\σ' 0=.string s/\σ' 6=q/\σ' 7=J ((bytesOf s).length:Int)/\σ' 8=J k) ⟨0,Z,Y,aK,Z,Lr,Z,Z,Z,Z⟩ (λw _ _ z A=>?_)))))))))))));obtain ⟨k,rfl,hk,o,B,g,i,l,n,f⟩:=A;subst B;have C:=Pc s k;refine Sr (V Z (Ao f n (M (Sq (AS Z (λD=>?_) (λD=>?_))))))
 ·refine Sk (Sq (Bk (Sr (Mv (J k) Z f ?_))));have E:(0:Int)<=(k:Int):=Y
  have F:(k:Int)<(((bytesOf s).length:Nat):Int):=Y
  refine V Z (Ae Zd u l f E F λH K N=>have O:AR _ H K 1 (eB ((bytesOf s).getD k 0)):=AR.getD 0 N;Lz (.int .u8 ((bytesOf s).getD k 0)) Z (BA fx_ty5 (O.le g) Z) (I (J k) Z (I (.int .u8 ((bytesOf s).getD k 0)) Z (M (BH (λσ' e h'=>e=[]/\z=h'/\σ' 0=.string s/\σ' 6=q/\σ' 7=J ((bytesOf s).length:Int)/\σ' 8=J k/\σ' 26=.bool (decide ((¬(97<=((bytesOf s).getD k 0)/\((bytesOf s).getD k 0)<=122))/\(((k:Int)=0)\/(¬(48<=((bytesOf s).getD k 0)/\((bytesOf s).getD k 0)<=57)))))) ?_ ?_)))))
  ·refine Rg (Mz (.int .u8 ((bytesOf s).getD k 0)) Z (V Z (Ba (r:=(bytesOf s).getD k 0) FX D1 Z (by rw [IntWalk.i64_in _ Y]) (V Z (Ag func41 Bz Z Z Z ((BR ((bytesOf s).getD k 0) 97 122 ).mono λ_ _ P=>?_))))));obtain ⟨rfl,rfl⟩:=P;refine V Z (A4 Z (Mz (.bool (decide (¬(97<=((bytesOf s).getD k 0)/\((bytesOf s).getD k 0)<=122)))) Z (BN (p:=¬(97<=((bytesOf s).getD k 0)/\((bytesOf s).getD k 0)<=122)) ?_ ?_)))
   ·intro a;refine Gg 4 17 (AB Z a) Z (Mo (J k) Z (Gg 4 17 (AB Z a) Z (CL Z Z (Gg 4 17 (AB Z a) Z (Mo (.bool (decide ((k:Int)=0))) Z (BN (p:=(k:Int)=0) ?_ ?_))))))
    ·intro c;exact Gs 7 20 (AB Z c) Z (Gs 7 20 (AB Z c) Z (Gs 7 20 (AB Z c) Z (Gs 7 20 (AB Z c) Z (Gg 4 17 (AB Z a) Z (BO (v:=.bool true) (AB Z c) Z (Pk true (.bool true) Z (AB Z a) Z (M (⟨Z,Z,i,l,n,f,Et (b:=(.bool true:aV)) Z (congrArg Value.bool (by grind:true=(decide ((¬(97<=((bytesOf s).getD k 0)/\((bytesOf s).getD k 0)<=122))/\(((k:Int)=0)\/(¬(48<=((bytesOf s).getD k 0)/\((bytesOf s).getD k 0)<=57)))))))⟩))))))))
    ·intro c;refine Gg 7 20 (AA Z c) Z (Mo (.int .u8 ((bytesOf s).getD k 0)) Z (Gg 7 20 (AA Z c) Z (Ba (r:=(bytesOf s).getD k 0) FX D1 Z (by rw [IntWalk.i64_in _ Y]) (Gg 7 20 (AA Z c) Z (Ag func41 Bz Z Z Z ((BR ((bytesOf s).getD k 0) 48 57 ).mono λ_ _ Q=>?_))))));obtain ⟨rfl,rfl⟩:=Q;exact Gg 7 20 (AA Z c) Z (A4 Z (Gg 4 17 (AB Z a) Z (BO (v:=.bool (decide (¬(48<=((bytesOf s).getD k 0)/\((bytesOf s).getD k 0)<=57)))) (AA Z c) Z (Pk true (.bool (decide (¬(48<=((bytesOf s).getD k 0)/\((bytesOf s).getD k 0)<=57)))) Z (AB Z a) Z (M (⟨Z,Z,i,l,n,f,Et (b:=(.bool (decide (¬(48<=((bytesOf s).getD k 0)/\((bytesOf s).getD k 0)<=57))):aV)) Z (congrArg Value.bool (by grind:decide (¬(48<=((bytesOf s).getD k 0)/\((bytesOf s).getD k 0)<=57))=(decide ((¬(97<=((bytesOf s).getD k 0)/\((bytesOf s).getD k 0)<=122))/\(((k:Int)=0)\/(¬(48<=((bytesOf s).getD k 0)/\((bytesOf s).getD k 0)<=57)))))))⟩))))))
   ·intro a;exact Gs 4 17 (AA Z a) Z (Gs 4 17 (AA Z a) Z (Gs 4 17 (AA Z a) Z (C4 (j:=7) (d:=20) Z Z Z Z Z Z (C4 (j:=7) (d:=20) Z Z Z Z Z Z (C4 (j:=7) (d:=20) Z Z Z Z Z Z (C4 (j:=7) (d:=20) Z Z Z Z Z Z (Gs 4 17 (AA Z a) Z (Pk false (.bool false) Z (AA Z a) Z (M (⟨Z,Z,i,l,n,f,Et (b:=(.bool false:aV)) Z (congrArg Value.bool (by grind:false=(decide ((¬(97<=((bytesOf s).getD k 0)/\((bytesOf s).getD k 0)<=122))/\(((k:Int)=0)\/(¬(48<=((bytesOf s).getD k 0)/\((bytesOf s).getD k 0)<=57)))))))⟩))))))))))
  ·rintro _ _ _ ⟨R,S,T,U,X,ax,ay⟩;subst R;subst S;refine AS ay (λaz=>?_) (λaz=>?_)
   ·exact Sr (I (.bool false) Z (M (Rt (⟨Zr,Ot (.bool false) Z (⟨(by (symm;congr 1;exact VJ o Y (by unfold KP;simp only [K5,NS, *,not_true_eq_false,not_false_eq_true,if_true,if_false,or_self,or_true,true_or,and_self,and_true,true_and];simp_all;done))),(t.trans g)⟩)⟩))))
   ·exact Sk (Rg (Ad _ _ Z ax Z Y (Mz (J ((k:Int)+1)) Z (M (⟨_,Y,k+1,Z,Y,(by exact FD o (by unfold KP;simp only [K5,NS];simp_all;done)),Z,g,T,U,X,Z⟩)))))
 ·refine Xt (Sr (Mv (.string s) Z i (V Z (ok_lenS F4 Z (V Z (Ag func41 Bz Z Z Z ((BR (s.size:Int) 1 10 ).mono λ_ _ a0=>?_)))))));obtain ⟨rfl,rfl⟩:=a0;exact I (.bool (decide (1<=(s.size:Int)/\(s.size:Int)<=10))) Z (M (Rt (⟨Zr,Ot (.bool (decide (1<=(s.size:Int)/\(s.size:Int)<=10))) Z (⟨(by (symm;congr 1;exact VK o Y)),(t.trans g)⟩)⟩)))
theorem Uc(o:Good)(x:Good)(rx:Nat)(hrx:AR h rx 0 5 #[.string x.name,J x.cost,J x.pack,J x.low,J x.high]):AT W 196 #[.agg #[.string o.name,J o.cost,J o.pack,J o.low,J o.high],Pt rx] h (λv h'=>v=(.bool ((o.name).toList==(x.name).toList):aV)/\h.Le h'):=by
 exact Ct func196 Z (Sr (V Z (Bo #[.string o.name,J o.cost,J o.pack,J o.low,J o.high] Z Z λ_ _ _ a b _=>I (.bool false) Z (M (Sr (Fz Kg Z (Lz (.string o.name) Z (Rd.one Wj b Z) (Fz Kg Z (Lz (.string x.name) Z (Bl (o:=0) Wj (hrx.le a) Z) (V Z (ok_eqlS Z Z (I (.bool ((o.name).toList==(x.name).toList)) Z (M (Rt (⟨Zr,Ot (.bool ((o.name).toList==(x.name).toList)) Z (⟨Z,a⟩)⟩)))))))))))))))
theorem Wt(hgs:AE h gsv 5 Bm gs)(hms:AE h msv 5 BE ms)(hcs:AE h csv 4 BF cs)(hnm:∀k,(gs.getD k Good.z).name.size<=1000):AT W 191 #[.agg #[J d,J m,gsv,msv,csv]] h (λv h'=>v=(J (Dv gs):aV)/\h.Le h'):=by
 have a2:=hgs.len;have a3:=hms.len;have a4:=hcs.len;refine Ct func191 Z (Sr (V Z (Bo #[J d,J m,gsv,msv,csv] Z Z λD h5 _ q E _=>I (J 0) Z (M (S2 (Fz At Z (Fz Cn Z (Lz gsv Z (Rd.one ET E Z) (have O:=hgs.le q;V Z (AO Ez O Z (V Z (Ag func41 Bz Z Z Z ((BR (gs.length:Int) 1 3 ).mono λ_ _ a6=>?_)))))))))))));obtain ⟨rfl,rfl⟩:=a6;refine V Z (A4 Z (M (AS Z (λP=>?_) (λP=>?_))))
 ·exact Sr (I (J 2) Z (M (Rt (⟨Zr,Ot (J 2) Z (⟨(by (symm;congr 1;rw [Dv,aU ‹_›];done)),q⟩)⟩))))
 ·have hc16_:=Dn P;refine Sk (S2 (Fz At Z (Fz Cn Z (Lz gsv Z (Rd.one ET E Z) (V Z (AO Ez O Z (Mz (J 0) Z (M (Bk (Ai (λQ σ' e h'=>∃(k:Nat),Q=gs.length-k/\(k<=gs.length)/\(∀j,j<k->IR gs j=0)/\e=[]/\L.Le h5 h'/\σ' 1=Pt D/\σ' 13=gsv/\σ' 14=J (gs.length:Int)/\σ' 15=J k) ⟨0,Z,Y,aK,Z,Lr,Z,Z,Z,Z⟩ (λQ _ _ _ a7=>?_)))))))))));obtain ⟨k,rfl,hk,i,bx,l,r,s,t,f⟩:=a7;subst bx;have hnk:=hnm k;refine Sr (V Z (Ao f t (M (Sq (AS Z (λa8=>?_) (λa8=>?_))))))
  ·refine Sk (Sq (Bk (Sr (Mv (J k) Z f ?_))));have a9:(0:Int)<=(k:Int):=Y
   have ba:(k:Int)<((gs.length:Nat):Int):=Y
   refine V Z (Ae HH hgs s f a9 ba λbz au bb=>have bc:AR _ bz au 5 (Bm (gs.getD k Good.z)):=AR.getD Good.z bb;have n:=q.trans l;Lz _ Z (AF Gh (bc.le n)) (have R:=l.keep E Z;V Z (AW Fy λu _ w y bd _=>have be:D≠u:=B7 R w;I (J k) Z (V Z (So (.agg (Qh gs k)) (Qh gs k) Gh Z bd Z aD Z λ_ F A=>M (Bk (Sr (Fz Kg Z (Lz (.string ((gs.getD k Good.z).name)) Z (Rd.one Wj F Z) (V Z (Ak func194 WY Z ((Ub ((gs.getD k Good.z).name) Y).mono λ_ S bf=>?_))))))))))));obtain ⟨rfl,g⟩:=bf;refine V Z (Du Z (I (.bool (!(GO ((gs.getD k Good.z).name)))) Z (M (CK Z (λH=>?_) (λH=>?_)))))
   ·have hc51_:(GO ((gs.getD k Good.z).name))=false:=by simpa using H
    exact Sr (I (J 4) Z (M (Rt (⟨Zr,Ot (J 4) Z (⟨(by (symm;congr 1;rw [Dv,aT ‹_›];exact CH (k:=k) i Y (by unfold IR;(simp only [*,not_true_eq_false,not_false_eq_true,if_true,if_false,true_or,or_true,reduceCtorEq,Bool.false_eq_true];done)) aC)),(((n.trans y).upd (Ln n w) A).trans g)⟩)⟩))))
   ·have hc51_:(GO ((gs.getD k Good.z).name))=true:=by simpa using H
    refine Sr (Fa At Z r (Fz Cn Z (Lz gsv Z (Rd.one ET (g.keep ((A _ be).trans (y.keep R Z)) Z) Z) (Mz (J k) Z (have K:=((n.trans y).upd (Ln n w) A).trans g;V Z (ok_slice (0) k HH (hgs.le K) Z Z (⟨_,Z⟩) Y Y λT bg=>?_))))));have bh:AE S T 5 Bm (gs.take k):=by simpa using bg
    refine V Z (Rq Z ?_);have bi:∀x ∈ (gs.take k),∀B,L.Le S B->CG W (.func (.func 196) #[] #[Pt u]) #[.agg #[.string x.name,J x.cost,J x.pack,J x.low,J x.high]] B λv U=>v=.bool ((λx=>(x.name).toList==((gs.getD k Good.z).name).toList) x)/\B.Le U:=by
     intro x hx B l1;exact BU func196 Wa Z ((Uc x (gs.getD k Good.z) u (Bx (l1.keep (g.keep F Z) Z) Z) ).mono λv U X=>⟨X.1,X.2⟩)
    refine V Z (AQ func195 WZ Z Z ((Ll (gs.take k) T (.func (.func 196) #[] #[Pt u]) (λx=>(x.name).toList==((gs.getD k Good.z).name).toList) bh bi).mono λ_ b0 bj=>?_));obtain ⟨rfl,C⟩:=bj;refine I (.bool ((gs.take k).any (λx=>(x.name).toList==((gs.getD k Good.z).name).toList))) Z (M (CK Z (λbk=>?_) (λbk=>?_)))
    ·exact Sr (I (J 5) Z (M (Rt (⟨Zr,Ot (J 5) Z (⟨(by (symm;congr 1;rw [Dv,aT ‹_›];exact CH (k:=k) i Y (by unfold IR;(simp only [*,not_true_eq_false,not_false_eq_true,if_true,if_false,true_or,or_true,reduceCtorEq,Bool.false_eq_true];done)) aC)),(K.trans C)⟩)⟩))))
    ·refine BH (λσ' e h'=>e=[]/\L.Le b0 h'/\σ' 1=Pt D/\σ' 13=gsv/\σ' 14=J (gs.length:Int)/\σ' 15=J k/\σ' 33=.bool (Q6 gs k)) ?_ ?_
     ·refine Rg (Fz Kh Z (have N:=C.keep (g.keep F Z) Z;Lz (J (Q1i gs k)) Z (Rd.one AH N Z) (V Z (Ag func41 Bz Z Z Z ((BR (Q1i gs k) 0 999 ).mono λ_ _ bl=>?_)))));obtain ⟨rfl,rfl⟩:=bl;refine V Z (A4 Z (Mz (.bool (decide (¬(0<=(Q1i gs k)/\(Q1i gs k)<=999)))) Z (BN (p:=¬(0<=(Q1i gs k)/\(Q1i gs k)<=999)) ?_ ?_)))
      ·intro a;exact Gs 4 38 (AB Z a) Z (Gs 4 38 (AB Z a) Z (Gs 4 38 (AB Z a) Z (Gs 4 38 (AB Z a) Z (Pk true (.bool true) Z (AB Z a) Z (Mz (.bool true) Z (Gs 10 44 Z Z (Gs 10 44 Z Z (Gs 10 44 Z Z (Gs 10 44 Z Z (Pz true (.bool true) Z (I (.bool true) Z (M (⟨Z,Lr,r,s,t,f,Et (b:=(.bool true:aV)) Z (congrArg Value.bool (by grind:true=(Q6 gs k)))⟩)))))))))))))
      ·intro a;refine Gg 4 38 (AA Z a) Z (AI If Z (Gg 4 38 (AA Z a) Z (Lo (J (Q17 gs k)) Z (Rd.one AH N Z) (Gg 4 38 (AA Z a) Z (Ag func41 Bz Z Z Z ((BR (Q17 gs k) 1 20 ).mono λ_ _ bm=>?_))))));obtain ⟨rfl,rfl⟩:=bm;refine Gg 4 38 (AA Z a) Z (A4 Z (Pk false (.bool (decide (¬(1<=(Q17 gs k)/\(Q17 gs k)<=20)))) Z (AA Z a) Z (Mz (.bool (decide (¬(1<=(Q17 gs k)/\(Q17 gs k)<=20)))) Z (BN (p:=¬(1<=(Q17 gs k)/\(Q17 gs k)<=20)) ?_ ?_))))
       ·intro c;exact Gs 10 44 (AB Z c) Z (Gs 10 44 (AB Z c) Z (Gs 10 44 (AB Z c) Z (Gs 10 44 (AB Z c) Z (Pk true (.bool true) Z (AB Z c) Z (I (.bool true) Z (M (⟨Z,Lr,r,s,t,f,Et (b:=(.bool true:aV)) Z (congrArg Value.bool (by grind:true=(Q6 gs k)))⟩)))))))
       ·intro c;refine Gg 10 44 (AA Z c) Z (AI Ki Z (Gg 10 44 (AA Z c) Z (Lo (.agg #[J ((gs.getD k Good.z).low),J ((gs.getD k Good.z).high)]) Z (Fi (o:=3) (ws:=#[J ((gs.getD k Good.z).low),J ((gs.getD k Good.z).high)]) BS (Bx N Z) (Nb Z) Z) (Gg 10 44 (AA Z c) Z (Ak func197 O0 Z ((UZ ((gs.getD k Good.z).low) ((gs.getD k Good.z).high) ).mono λ_ _ bn=>?_))))));obtain ⟨rfl,ax⟩:=bn;exact Gg 10 44 (AA Z c) Z (A4 Z (Pk false (.bool (decide (¬(Qu gs k)))) Z (AA Z c) Z (I (.bool (decide (¬(Qu gs k)))) Z (M (⟨Z,ax,r,s,t,f,Et (b:=(.bool (decide (¬(Qu gs k))):aV)) Z (congrArg Value.bool (by grind:decide (¬(Qu gs k))=(Q6 gs k)))⟩)))))
     ·rintro _ _ _ ⟨bo,aj,bp,bq,br,bs,bt⟩;subst bo;refine AS bt (λbu=>?_) (λbu=>?_)
      ·exact Sr (I (J 1) Z (M (Rt (⟨Zr,Ot (J 1) Z (⟨(by (symm;congr 1;rw [Dv,aT ‹_›];exact CH (k:=k) i Y (by unfold IR;(simp only [*,not_true_eq_false,not_false_eq_true,if_true,if_false,true_or,or_true,reduceCtorEq,Bool.false_eq_true];done)) aC)),((K.trans C).trans aj)⟩)⟩))))
      ·exact Sk (Rg (Ad _ _ Z bs Z Y (Mz (J ((k:Int)+1)) Z (M (have bv:=((((l.trans y).upd (Ln l w) A).trans g).trans C).trans aj;⟨_,Y,k+1,Z,Y,(by exact FD i (by unfold IR;(simp only [*,not_true_eq_false,not_false_eq_true,if_true,if_false,or_self,reduceCtorEq,Bool.false_eq_true];done))),Z,bv,bp,bq,br,Z⟩)))))
  ·exact Xt (Sr (I (J 0) Z (M (Rt (⟨Zr,Ot (J 0) Z (⟨(by (symm;congr 1;rw [Dv,aT ‹_›];exact DZ (k:=k) i Y)),(q.trans l)⟩)⟩)))))
def Si:Array aV:=#[.func (.func 190) #[] #[],.func (.func 191) #[] #[],.func (.func 192) #[] #[],.func (.func 193) #[] #[]]
def Sj:Array aV:=#[.string ⟨#[99,97,109,101]⟩,.func (.func 188) #[] #[],.string ⟨#[115,111,108,100]⟩,.func (.func 189) #[] #[],.string ⟨#[108,111,115,116]⟩,.func (.func 189) #[] #[],.string ⟨#[103,105,118,101,110]⟩,.func (.func 189) #[] #[],.string ⟨#[98,97,99,107]⟩,.func (.func 188) #[] #[]]
def Df(h:L):Prop:=AR h 2 0 4 Si/\AR h 1 0 10 Sj
variable {W:Wk prog} {h:L} (d m:Int) (gs:List Good) (gsv:aV) (ms:List AD) (msv:aV) (cs:List AN) (csv:aV)
theorem Df.le{h h':L}(g:Df h)(l:h.Le h'):Df h':=⟨g.1.le l,g.2.le l⟩
def Nd(k:Nat):aV:=Si.getD k undef
def Wu(k:Nat):aV:=Sj.getD (k*2+1) undef
theorem Wv{k:Nat}(h:k<4):(if false=true then some (Value.agg ((#[.func (.func 190) #[] #[],.func (.func 191) #[] #[],.func (.func 192) #[] #[],.func (.func 193) #[] #[]]:Array aV).extract (k*1) (k*1+1))) else (#[.func (.func 190) #[] #[],.func (.func 191) #[] #[],.func (.func 192) #[] #[],.func (.func 193) #[] #[]]:Array aV)[k*1]?)=some (Nd k):=by
 match k,h with
 | 0,_=>rfl
 | 1,_=>rfl
 | 2,_=>rfl
 | 3,_=>rfl
theorem Zl{k:Nat}(h:k<5):Sj[0+k*2+1]? =some (Wu k):=by
 match k,h with
 | 0,_=>rfl
 | 1,_=>rfl
 | 2,_=>rfl
 | 3,_=>rfl
 | 4,_=>rfl
theorem Sm(d m:Int)(gs:List Good)(gsv:aV)(ms:List AD)(msv:aV)(cs:List AN)(csv:aV)(hgs:AE h gsv 5 Bm gs)(hms:AE h msv 5 BE ms)(hcs:AE h csv 4 BF cs)(hnm:∀k,(gs.getD k Good.z).name.size<=1000){k:Nat}(hk:k<4) :
  CG W (Nd k) #[.agg #[J d,J m,gsv,msv,csv]] h λv h'=>v=J (Eh d m gs ms cs k)/\h.Le h':=by
 match k,hk with
 | 0,_=>exact BU (first:=#[]) (cap:=#[]) func190 WU rfl (Zk (W:=W) (h:=h) d m gs gsv ms msv cs csv hgs hms hcs)
 | 1,_=>exact BU (first:=#[]) (cap:=#[]) func191 WV rfl (Wt (W:=W) (h:=h) d m gs gsv ms msv cs csv hgs hms hcs hnm)
 | 2,_=>exact BU (first:=#[]) (cap:=#[]) func192 WW rfl (Ws (W:=W) (h:=h) d m gs gsv ms msv cs csv hgs hms hcs)
 | 3,_=>exact BU (first:=#[]) (cap:=#[]) func193 WX rfl (Ua (W:=W) (h:=h) d m gs gsv ms msv cs csv hgs hms hcs)
theorem RV(n:Int):AT W 188 #[J n] h (λv h'=>v=(J n:aV)/\h=h'):=by
 exact Ct func188 Z (Sr (I (J 0) Z (M (Sr (Mz (J n) Z (I (J n) Z (M (Rt (⟨Zr,Ot (J n) Z (⟨Z,Z⟩)⟩)))))))))
theorem MX(n:Int)(hn:0<=n/\n<=99):AT W 189 #[J n] h (λv h'=>v=(J (-n):aV)/\h=h'):=by
 exact Ct func189 Z (Sr (I (J 0) Z (M (Sr (Mz (J n) Z (V Z (ok_neg Z Y (I (J (-n)) Z (M (Rt (⟨Zr,Ot (J (-n)) Z (⟨Z,Z⟩)⟩)))))))))))
theorem D2(hgs:AE h gsv 5 Bm gs)(hms:AE h msv 5 BE ms)(hcs:AE h csv 4 BF cs)(hG:Df h)(hnm:∀k,(gs.getD k Good.z).name.size<=1000):AT W 68 #[.agg #[J d,J m,gsv,msv,csv]] h (λv h'=>v=(J (An d m gs ms cs):aV)/\h.Le h'):=by
 have B:=hgs.len;have C:=hms.len;have D:=hcs.len;refine Ct func68 Z (Sr (V Z (Bo #[J d,J m,gsv,msv,csv] Z Z λp q _ c r _=>I (J 0) Z (M (S2 (Lz _ Z (AF fx_ty203 (hG.le c).1) (Mz (J 0) Z (M (Bk (Ai (λi σ' e h'=>∃(k:Nat),i=4-k/\(k<=4)/\(∀j,j<k->Eh d m gs ms cs j=0)/\e=[]/\L.Le q h'/\σ' 1=Pt p/\σ' 6=.agg #[.func (.func 190) #[] #[],.func (.func 191) #[] #[],.func (.func 192) #[] #[],.func (.func 193) #[] #[]]/\σ' 7=J k) ⟨0,Z,Y,aK,Z,Lr,Z,Z,Z⟩ (λi _ _ _ s=>?_)))))))))));obtain ⟨k,rfl,E,f,t,a,l,n,g⟩:=s;subst t;refine Sr (V Z (Ao g Z (M (Sq (AS Z (λu=>?_) (λu=>?_))))))
 ·refine Sk (Sq (Bk (Sq (Rg ?_))));have w:(0:Int)<=(k:Int):=Y
  have x:(k:Int)<((4:Nat):Int):=Y
  refine V Z (Hv Yq n g w x (Wv Y) (I (Nd k) Z (M (Sr (Mz (Nd k) Z (Ld _ Z l (AF A8 (Bx (a.keep r Z) Z)) (V Z (Ap (cells:=#[J d,J m,gsv,msv,csv]) ES B6 aB (have b:=c.trans a;V Z (FB Z Z ((Sm d m gs gsv ms msv cs csv (hgs.le b) (hms.le b) (hcs.le b) hnm (k:=k) Y).mono λ_ _ y=>?_)))))))))));obtain ⟨rfl,o⟩:=y;refine I (J (Eh d m gs ms cs k)) Z (M (Sr (Mz (J (Eh d m gs ms cs k)) Z (V Z (Av Z Z (M (AS Z (λA=>?_) (λA=>?_))))))))
  ·exact Sr (Mz (J (Eh d m gs ms cs k)) Z (I (J (Eh d m gs ms cs k)) Z (M (Rt (⟨Zr,Ot (J (Eh d m gs ms cs k)) Z (⟨(by (symm;congr 1;exact CH (k:=k) f Y Z ‹_›)),(b.trans o)⟩)⟩)))))
  ·exact Sk (Rg (Ad _ _ Z g Z Y (Mz (J ((k:Int)+1)) Z (M (⟨_,Y,k+1,Z,Y,(by exact FD f (Dn ‹_›)),Z,(a.trans o),l,n,Z⟩)))))
 ·exact Xt (Sr (I (J 0) Z (M (Rt (⟨Zr,Ot (J 0) Z (⟨(by (symm;congr 1;exact DZ (k:=k) f Y)),(c.trans a)⟩)⟩)))))
theorem Ud(n:Int)(hn:0<=n/\n<=99){k:Nat}(hk:k<5):CG W (Wu k) #[J n] h λv h'=>v=J (signed k n)/\h.Le h':=by
 match k,hk with
 | 0,_=>exact BU (first:=#[]) (cap:=#[]) func188 Oz rfl ((RV (W:=W) (h:=h) n).mono λv h' a=>⟨a.1,by rw [<-a.2];exact L.Le.refl _⟩)
 | 1,_=>exact BU (first:=#[]) (cap:=#[]) func189 Kf rfl ((MX (W:=W) (h:=h) n hn).mono λv h' a=>⟨a.1,by rw [<-a.2];exact L.Le.refl _⟩)
 | 2,_=>exact BU (first:=#[]) (cap:=#[]) func189 Kf rfl ((MX (W:=W) (h:=h) n hn).mono λv h' a=>⟨a.1,by rw [<-a.2];exact L.Le.refl _⟩)
 | 3,_=>exact BU (first:=#[]) (cap:=#[]) func189 Kf rfl ((MX (W:=W) (h:=h) n hn).mono λv h' a=>⟨a.1,by rw [<-a.2];exact L.Le.refl _⟩)
 | 4,_=>exact BU (first:=#[]) (cap:=#[]) func188 Oz rfl ((RV (W:=W) (h:=h) n).mono λv h' a=>⟨a.1,by rw [<-a.2];exact L.Le.refl _⟩)
theorem In(p:AV)(g:Int)(dy:Int)(hgs:AE h gsv 5 Bm gs)(hms:AE h msv 5 BE ms)(hcs:AE h csv 4 BF cs)(hG:Df h)(hg0:0<=g)(hg1:g<3)(hp:Bd p)(hml:ms.length<=6)(hkind:∀k,0<=(ms.getD k AD.z).kind/\(ms.getD k AD.z).kind<=4):AT W 67 #[.agg #[J d,J m,gsv,msv,csv],.agg (Al p),J g,J dy] h (λv h'=>v=(.tuple #[J ((AP ms p g dy).1),J ((AP ms p g dy).2)]:aV)/\h.Le h'):=by
 have hpf:=hp.1 g.toNat;have ez:=hgs.len;have e0:=hms.len;have e1:=hcs.len;refine Ct func67 Z (Sr (V Z (Bo #[J d,J m,gsv,msv,csv] Z Z λw _ _ e2 hu _=>V Z (Bo (Al p) Z Z λhl hv _ a2 bs _=>I (J 0) Z (I (J 0) Z (M (Sr (Mz (J g) Z (Fz JQ Z ?_)))))))));have e3:(0:Int)<=g:=Y
 have e4:g<((3:Nat):Int):=Y
 refine V Z (Bj MI Z Z e3 e4 (Lz (J (p.first (g.toNat))) Z (Rd.one AH bs (Rx (i:=g.toNat) Y)) (I (J (p.first (g.toNat))) Z (M (Sr (Mz (J (p.first (g.toNat))) Z (I (J (p.first (g.toNat))) Z (M (S2 (Fz At Z (Fz Bf Z (have bt:=a2.keep hu Z;Lz msv Z (Rd.one Co bt Z) (have a7:=e2.trans a2;V Z (AO E0 (hms.le a7) Z (Mz (J 0) Z (M (Bk (Ai (λnn σ' ds' h'=>∃(k:Nat)(n:Int)(a:Int),nn=ms.length-k/\(k<=ms.length)/\(-99*((k:Int)+1)<=n/\n<=99*((k:Int)+1))/\(Cx ms p g dy (ms.length-k) k n a=Cx ms p g dy ms.length 0 (p.first g.toNat) (p.first g.toNat))/\ds'=[]/\L.Le hv h'/\σ' 2=J g/\σ' 3=J dy/\σ' 4=Pt w/\σ' 5=Pt hl/\σ' 19=msv/\σ' 20=J (ms.length:Int)/\σ' 8=J n/\σ' 9=J a/\σ' 21=J k) ⟨0,p.first g.toNat,p.first g.toNat,Z,Y,Y,(by rfl),Z,Lr,Z,Z,Z,Z,Z,Z,Z,Z,Z⟩ (λnn _ _ _ e5=>?_)))))))))))))))))));obtain ⟨k,n,a,rfl,hk,hn,j,hw,r,O,P,x,Q,R,S,K,N,y⟩:=e5;subst hw;have hkd:=hkind k;have hre:=Ga hp k;have hsg:=K7 (k:=(ms.getD k AD.z).kind.toNat) hre;refine Sr (V Z (Ao y S (M (Sq (AS Z (λe6=>?_) (λe6=>?_))))))
 ·refine Sk (Sq (Bk (Sr (Mv (J k) Z y ?_))));have e7:(0:Int)<=(k:Int):=Y
  have e8:(k:Int)<((ms.length:Nat):Int):=Y
  refine V Z (Ae FV hms R y e7 e8 λhx bu e9=>have fa:AR _ hx bu 5 (BE (ms.getD k AD.z)):=AR.getD AD.z e9;have A:=a7.trans r;Lz _ Z (AF He (fa.le A)) (have au:=r.keep bt Z;have bv:=r.keep bs Z;V Z (AW Ej λey _ u s fb _=>have a0:w≠ey:=B7 au u;have fc:hl≠ey:=B7 bv u;I (J k) Z (V Z (So (.agg (Qa ms k)) (Qa ms k) He Z fb Z aD Z λ_ av t=>M (S2 (Fz EB Z (Lz (J ((ms.getD k AD.z).day)) Z (Rd.one AH av Z) (Mv (J dy) Z P (V Z (Ck Z Z (M (AS Z (λfd=>?_) (λfd=>?_))))))))))))))
  ·exact Xt (Sr (Mv (J n) Z K (Mv (J a) Z N (I (J n) Z (I (J a) Z (M (Rt (have fe:=(A.trans s).upd (Ln A u) t;⟨Zr,Ou (J n) (J a) Z (⟨(by (rw [AP,<-j,Pd (ms:=ms) (k:=k) (dy:=dy) Y ‹_›])),fe⟩)⟩))))))))
  ·refine Sk (S2 (Fz Kj Z (Lz (J ((ms.getD k AD.z).good)) Z (Rd.one AH av Z) (Mv (J g) Z O (V Z (CL Z Z (M (AS Z (λff=>?_) (λff=>?_)))))))))
   ·refine A9 10 false [0,5,11,15,20,26,31,36,42,47] AY aB (Py Z (λ_=>Mo (J n) K vz) (Py Z (λ_=>AI Ih Z vz) (Rl (J ((ms.getD k AD.z).kind)) Z (Rd.one Nc av Z) ?_)));have fg:(0:Int)<=(ms.getD k AD.z).kind:=Y
    have fh:(ms.getD k AD.z).kind<((5:Nat):Int):=Y
    refine Py Z (λ_=>Bj Ys Z Z fg fh vz) (Py Z (λ_=>AI UM Z vz) (have bd:=(A.trans s).upd (Ln A u) t;Rl (Wu (((ms.getD k AD.z).kind).toNat)) Z (rd_at0 fx_ty108 (hG.le bd).2 (Zl Y)) (Rz Z (Lo (.agg (Al p)) Q (AF Bc (Bx ((t _ fc).trans (s.keep bv Z)) Z)) vz) (Rm (J k) Z (tE Z Z (AQ func72 MQ Z Z ((MW p (k:Int) Y Y).mono λ_ _ fi=>?_)))))));obtain ⟨rfl,B⟩:=fi;refine eT B (tE Z Z (FB Z Z ((Ud (CY p k) Y (k:=(((ms.getD k AD.z).kind).toNat)) Y).mono λ_ _ fj=>?_)));obtain ⟨rfl,C⟩:=fj;refine eT C (tN (Yd Z Y (I (J (n+(signed (((ms.getD k AD.z).kind).toNat) (CY p k)))) Z (M (Sq (KM 18 [[],[0],[],[2],[2,3],[2,3,4],[0,1,2,3,4,5],[0,1,2,3,4,5,6],[0,1,2,3,4,5,6,7],[0,1,2,3,4,5,6,7,8],[0,1,2,3,4,5,6,7,8,9],[0,1,2,3,4,5,6,7],[0,1,2,3,4,5,6,7,11],[0,1,2,3,4,5,6,7,8,9,10,11,12],[0,1,2,3,4,5,6,7,8,9,10,11,12,13],[0,1,2,3,4,5,6,7,8,9,10,11,12,13,14],[0,1,2,3,4,5,6,7],[0,1,2,3,4,5,6,7,16]] [(lF (J k)),(lF (J ((k:Int)+1))),(lF (Pt w)),(lF (.pointer (some ⟨w,3,none⟩))),(lF msv),(lF (J (ms.length:Int))),(lF (.bool (decide (((k:Int)+1)=(ms.length:Int))))),(lF (.bool (decide (((k:Int)+1)=(ms.length:Int))))),(lF (Pt w)),(lF (.pointer (some ⟨w,3,none⟩))),(lF msv),(lF (J k)),(lF (J ((k:Int)+1))),(λv h=>∃(D:Nat)(E:Nat),v=(.pointer (some ⟨D,E,none⟩):aV)/\AR h D E 5 (Q7 ms k)),(λv h=>∃(D:Nat)(E:Nat),v=(.pointer (some ⟨D,E+2,none⟩):aV)/\AR h D E 5 (Q7 ms k)),(lF (J ((ms.getD (k+1) AD.z).day))),(lF (.pointer (some ⟨ey,2,none⟩))),(lF (J ((ms.getD k AD.z).day)))] AY aB (K8 (K4 (K1 ⟨(λ_ _ _ l ⟨D,E,e,f0⟩=>⟨D,E,e,f0.le l⟩),(λ_ _ _ l ⟨D,E,e,f0⟩=>⟨D,E,e,f0.le l⟩),K2 (K1 trivial)⟩))) ⟨?_,?_,?_,?_,?_,?_,?_,?_,?_,?_,?_,?_,?_,?_,?_,?_,?_,?_,?_⟩))))))
    ·intro _ _ _ fk _ _;exact (Mo (J k) (Et (fk 10 Z) Z) (fL Z))
    ·intro _ _ _ _ fl _;obtain ⟨hy,_⟩:=fl;exact (CW (hy trivial) Z Y (fL Z))
    ·intro _ _ _ fm _ _;exact (AI At (Et (fm 4 Z) x) (fL Z))
    ·intro _ _ _ _ bw _;obtain ⟨fn,_⟩:=bw;exact (AI Bf (fn trivial) (fL Z))
    ·intro _ _ be _ bx _;obtain ⟨_,fo,_⟩:=bx;have bz:=(be.keep (C.keep (B.keep ((t _ a0).trans (s.keep au Z)) Z) Z) Z);exact (Lo msv (fo trivial) (Rd.one Co bz Z) (fL Z))
    ·intro _ _ bf _ b0 _;obtain ⟨_,_,fp,_⟩:=b0;exact (AO E0 (hms.le (((bd.trans B).trans C).trans bf)) (fp trivial) (fL Z))
    ·intro _ _ _ _ b1 _;obtain ⟨_,fq,_,_,_,fr,_⟩:=b1;exact (CL (fq trivial) (fr trivial) (fL Z))
    ·intro _ _ _ _ b2 _;obtain ⟨_,_,_,_,_,_,fs,_⟩:=b2;exact (Mo (.bool (decide (((k:Int)+1)=(ms.length:Int)))) (fs trivial) (fL Z))
    ·intro _ _ _ b3 b4 b5;obtain ⟨_,_,_,_,_,_,_,ft,_⟩:=b4;have hm:=B1 (ft trivial) b5;exact (AI At (Et (b3 4 Z) x) (fL Z))
    ·intro _ _ _ _ b6 b7;obtain ⟨_,_,_,_,_,_,_,fu,fv,_⟩:=b6;have b8:=fu trivial;have b9:=B1 b8 b7;exact (AI Bf (fv (AA b8 b9)) (fL Z))
    ·intro _ _ bg _ ca cb;obtain ⟨_,_,_,_,_,_,_,fw,_,fx,_⟩:=ca;have cc:=fw trivial;have cd:=B1 cc cb;have ce:=(bg.keep (C.keep (B.keep ((t _ a0).trans (s.keep au Z)) Z) Z) Z);exact (Lo msv (fx (AA cc cd)) (Rd.one Co ce Z) (fL Z))
    ·intro _ _ _ cf cg ch;obtain ⟨_,_,_,_,_,_,_,fy,_⟩:=cg;have ho:=B1 (fy trivial) ch;exact (Mo (J k) (Et (cf 10 Z) Z) (fL Z))
    ·intro _ _ _ _ ci cj;obtain ⟨_,_,_,_,_,_,_,fz,f1,_⟩:=ci;have ck:=fz trivial;have cl:=B1 ck cj;exact (CW (f1 (AA ck cl)) Z Y (fL Z))
    ·intro _ _ bh _ cm cn;obtain ⟨_,_,_,_,_,_,_,f2,_,_,f3,_,f4,_⟩:=cm;have bi:=f2 trivial;have a5:=B1 bi cn;have co:(0:Int)<=(k:Int)+1:=Y
     have cp:(k:Int)+1<((ms.length:Nat):Int):=Y
     exact (Ae FV hms (f3 (AA bi a5)) (f4 (AA bi a5)) co cp λcq aw cr=>have ct:AR _ cq aw 5 (BE (ms.getD (k+1) AD.z)):=AR.getD AD.z cr;fL ⟨cq,aw,Z,(ct.le (((bd.trans B).trans C).trans bh))⟩)
    ·intro _ _ _ _ cu cv;obtain ⟨_,_,_,_,_,_,_,f5,_,_,_,_,_,f6,_⟩:=cu;have cw:=f5 trivial;have cx:=B1 cw cv;obtain ⟨f7,bj,f8,f9⟩:=f6 (AA cw cx);exact (AI EB f8 (fL ⟨f7,bj,Z,f9⟩))
    ·intro _ _ _ _ cy cz;obtain ⟨_,_,_,_,_,_,_,ga,_,_,_,_,_,_,gb,_⟩:=cy;have c0:=ga trivial;have c1:=B1 c0 cz;obtain ⟨_,_,gc,gd⟩:=gb (AA c0 c1);exact (Lo (J ((ms.getD (k+1) AD.z).day)) gc (Bl (o:=2) AH gd Z) (fL Z))
    ·intro _ _ _ c2 c3 c4;obtain ⟨_,_,_,_,_,_,_,ge,_⟩:=c3;have hq:=B1 (ge trivial) c4;exact (AI EB (Et (c2 11 Z) Z) (fL Z))
    ·intro _ _ bk _ c5 c6;obtain ⟨_,_,_,_,_,_,_,gf,gg,_⟩:=c5;have c7:=gf trivial;have c8:=B1 c7 c6;exact (Lo (J ((ms.getD k AD.z).day)) (gg (AA c7 c8)) (Rd.one AH (bk.keep (C.keep (B.keep av Z) Z) Z) Z) (fL Z))
    ·intro _ _ ao c c9;obtain ⟨_,_,_,_,_,_,_,gi,_,_,_,_,_,_,_,gj,_,gk,_⟩:=c9;have X:=gi trivial;refine BN (p:=((k:Int)+1)=(ms.length:Int)) ?_ ?_
     ·intro T;exact Gs 7 52 (AB X T) Z (Pk true (.bool true) Z (AB X T) Z (M (D5 Z (Rg (Mv (J a) Z (Et (c 9 Z) N) (Mv (J (n+(signed (((ms.getD k AD.z).kind).toNat) (CY p k)))) Z (Et (c 8 Z) Z) (V Z (Nn Z Z (I (J (min a (n+(signed (((ms.getD k AD.z).kind).toNat) (CY p k))))) Z (M (Rg (Ad _ _ Z (Et (c 21 Z) y) Z Y (Mz (J ((k:Int)+1)) Z (M (have da:=((((r.trans s).upd (Ln r u) t).trans B).trans C).trans ao;⟨_,Y,k+1,n+(signed (((ms.getD k AD.z).kind).toNat) (CY p k)),min a (n+(signed (((ms.getD k AD.z).kind).toNat) (CY p k))),Z,Y,Y,(by rw [<-j,EK (ms:=ms) (k:=k) (dy:=dy) Y ‹_›];unfold G3 F3;repeat (first | rw [aU ‹_›] | rw [aU (.inl ‹_›)])),Z,da,(Et (c 2 Z) O),(Et (c 3 Z) P),(Et (c 4 Z) x),(Et (c 5 Z) Q),(Et (c 19 Z) R),(Et (c 20 Z) S),(Et (c 8 Z) Z),Z,Z⟩)))))))))))))))
     ·intro T;refine Gg 7 52 (AA X T) Z (Ck (gj (AA X T)) (gk (AA X T)) (Pk false (.bool (decide (((ms.getD k AD.z).day)<((ms.getD (k+1) AD.z).day)))) Z (AA X T) Z (M (AS Z (λdb=>?_) (λdb=>?_)))))
      ·exact Rg (Mv (J a) Z (Et (c 9 Z) N) (Mv (J (n+(signed (((ms.getD k AD.z).kind).toNat) (CY p k)))) Z (Et (c 8 Z) Z) (V Z (Nn Z Z (I (J (min a (n+(signed (((ms.getD k AD.z).kind).toNat) (CY p k))))) Z (M (Rg (Ad _ _ Z (Et (c 21 Z) y) Z Y (Mz (J ((k:Int)+1)) Z (M (have dc:=((((r.trans s).upd (Ln r u) t).trans B).trans C).trans ao;⟨_,Y,k+1,n+(signed (((ms.getD k AD.z).kind).toNat) (CY p k)),min a (n+(signed (((ms.getD k AD.z).kind).toNat) (CY p k))),Z,Y,Y,(by rw [<-j,EK (ms:=ms) (k:=k) (dy:=dy) Y ‹_›];unfold G3 F3;repeat (first | rw [aU ‹_›] | rw [aU (.inr ‹_›)])),Z,dc,(Et (c 2 Z) O),(Et (c 3 Z) P),(Et (c 4 Z) x),(Et (c 5 Z) Q),(Et (c 19 Z) R),(Et (c 20 Z) S),(Et (c 8 Z) Z),Z,Z⟩)))))))))))
      ·exact Sk (Rg (Ad _ _ Z (Et (c 21 Z) y) Z Y (Mz (J ((k:Int)+1)) Z (M (have dd:=((((r.trans s).upd (Ln r u) t).trans B).trans C).trans ao;⟨_,Y,k+1,n+(signed (((ms.getD k AD.z).kind).toNat) (CY p k)),a,rfl,Y,Y,(by rw [<-j,EK (ms:=ms) (k:=k) (dy:=dy) Y ‹_›];unfold G3 F3;repeat (first | rw [aU ‹_›] | rw [aT (by rintro (q | q) <;> contradiction)])),rfl,dd,(Et (c 2 rfl) O),(Et (c 3 rfl) P),(Et (c 4 rfl) x),(Et (c 5 rfl) Q),(Et (c 19 rfl) R),(Et (c 20 rfl) S),(Et (c 8 rfl) rfl),(Et (c 9 rfl) N),(Et (b:=(J ((k:Int)+1):aV)) rfl (by rfl))⟩)))))
   ·refine Sk (Sq (KM 18 [[],[0],[],[2],[2,3],[2,3,4],[0,1,2,3,4,5],[0,1,2,3,4,5,6],[0,1,2,3,4,5,6,7],[0,1,2,3,4,5,6,7,8],[0,1,2,3,4,5,6,7,8,9],[0,1,2,3,4,5,6,7],[0,1,2,3,4,5,6,7,11],[0,1,2,3,4,5,6,7,8,9,10,11,12],[0,1,2,3,4,5,6,7,8,9,10,11,12,13],[0,1,2,3,4,5,6,7,8,9,10,11,12,13,14],[0,1,2,3,4,5,6,7],[0,1,2,3,4,5,6,7,16]] [(lF (J k)),(lF (J ((k:Int)+1))),(lF (Pt w)),(lF (.pointer (some ⟨w,3,none⟩))),(lF msv),(lF (J (ms.length:Int))),(lF (.bool (decide (((k:Int)+1)=(ms.length:Int))))),(lF (.bool (decide (((k:Int)+1)=(ms.length:Int))))),(lF (Pt w)),(lF (.pointer (some ⟨w,3,none⟩))),(lF msv),(lF (J k)),(lF (J ((k:Int)+1))),(λv h=>∃(F:Nat)(H:Nat),v=(.pointer (some ⟨F,H,none⟩):aV)/\AR h F H 5 (Q7 ms k)),(λv h=>∃(F:Nat)(H:Nat),v=(.pointer (some ⟨F,H+2,none⟩):aV)/\AR h F H 5 (Q7 ms k)),(lF (J ((ms.getD (k+1) AD.z).day))),(lF (.pointer (some ⟨ey,2,none⟩))),(lF (J ((ms.getD k AD.z).day)))] AY aB (K8 (K4 (K1 ⟨(λ_ _ _ l ⟨F,H,e,f0⟩=>⟨F,H,e,f0.le l⟩),(λ_ _ _ l ⟨F,H,e,f0⟩=>⟨F,H,e,f0.le l⟩),K2 (K1 trivial)⟩))) ⟨?_,?_,?_,?_,?_,?_,?_,?_,?_,?_,?_,?_,?_,?_,?_,?_,?_,?_,?_⟩))
    ·intro _ _ _ de _ _;exact (Mo (J k) (Et (de 10 Z) Z) (fL Z))
    ·intro _ _ _ _ df _;obtain ⟨gl,_⟩:=df;exact (CW (gl trivial) Z Y (fL Z))
    ·intro _ _ _ dg _ _;exact (AI At (Et (dg 4 Z) x) (fL Z))
    ·intro _ _ _ _ dh _;obtain ⟨gm,_⟩:=dh;exact (AI Bf (gm trivial) (fL Z))
    ·intro _ _ bl _ di _;obtain ⟨_,gn,_⟩:=di;exact (Lo msv (gn trivial) (Rd.one Co (bl.keep ((t _ a0).trans (s.keep au Z)) Z) Z) (fL Z))
    ·intro _ _ bm _ dj _;obtain ⟨_,_,gp,_⟩:=dj;have dk:=hms.le (((A.trans s).upd (Ln A u) t).trans bm);exact (AO E0 dk (gp trivial) (fL Z))
    ·intro _ _ _ _ dl _;obtain ⟨_,gq,_,_,_,gr,_⟩:=dl;exact (CL (gq trivial) (gr trivial) (fL Z))
    ·intro _ _ _ _ dm _;obtain ⟨_,_,_,_,_,_,gt,_⟩:=dm;exact (Mo (.bool (decide (((k:Int)+1)=(ms.length:Int)))) (gt trivial) (fL Z))
    ·intro _ _ _ dn dp dq;obtain ⟨_,_,_,_,_,_,_,gu,_⟩:=dp;have hr:=B1 (gu trivial) dq;exact (AI At (Et (dn 4 Z) x) (fL Z))
    ·intro _ _ _ _ dr ds;obtain ⟨_,_,_,_,_,_,_,gv,gw,_⟩:=dr;have dt:=gv trivial;have du:=B1 dt ds;exact (AI Bf (gw (AA dt du)) (fL Z))
    ·intro _ _ bn _ dv dw;obtain ⟨_,_,_,_,_,_,_,gx,_,gy,_⟩:=dv;have dx:=gx trivial;have dz:=B1 dx dw;exact (Lo msv (gy (AA dx dz)) (Rd.one Co (bn.keep ((t _ a0).trans (s.keep au Z)) Z) Z) (fL Z))
    ·intro _ _ _ d0 d1 d2;obtain ⟨_,_,_,_,_,_,_,gz,_⟩:=d1;have hs:=B1 (gz trivial) d2;exact (Mo (J k) (Et (d0 10 Z) Z) (fL Z))
    ·intro _ _ _ _ d3 d4;obtain ⟨_,_,_,_,_,_,_,g0,g1,_⟩:=d3;have d5:=g0 trivial;have d6:=B1 d5 d4;exact (CW (g1 (AA d5 d6)) Z Y (fL Z))
    ·intro _ _ bo _ d7 d8;obtain ⟨_,_,_,_,_,_,_,g2,_,_,g3,_,g4,_⟩:=d7;have bp:=g2 trivial;have a6:=B1 bp d8;have d9:(0:Int)<=(k:Int)+1:=Y
     have ea:(k:Int)+1<((ms.length:Nat):Int):=Y
     exact (Ae FV hms (g3 (AA bp a6)) (g4 (AA bp a6)) d9 ea λeb ax ec=>have ed:AR _ eb ax 5 (BE (ms.getD (k+1) AD.z)):=AR.getD AD.z ec;have ee:=ed.le (((A.trans s).upd (Ln A u) t).trans bo);fL ⟨eb,ax,Z,ee⟩)
    ·intro _ _ _ _ ef eg;obtain ⟨_,_,_,_,_,_,_,g5,_,_,_,_,_,g6,_⟩:=ef;have eh:=g5 trivial;have ei:=B1 eh eg;obtain ⟨g7,bq,g8,g9⟩:=g6 (AA eh ei);exact (AI EB g8 (fL ⟨g7,bq,Z,g9⟩))
    ·intro _ _ _ _ ej ek;obtain ⟨_,_,_,_,_,_,_,ha,_,_,_,_,_,_,hb,_⟩:=ej;have el:=ha trivial;have em:=B1 el ek;obtain ⟨_,_,hc,hd⟩:=hb (AA el em);exact (Lo (J ((ms.getD (k+1) AD.z).day)) hc (Bl (o:=2) AH hd Z) (fL Z))
    ·intro _ _ _ en eo ep;obtain ⟨_,_,_,_,_,_,_,he,_⟩:=eo;have ht:=B1 (he trivial) ep;exact (AI EB (Et (en 11 Z) Z) (fL Z))
    ·intro _ _ br _ eq er;obtain ⟨_,_,_,_,_,_,_,hf,hg,_⟩:=eq;have es:=hf trivial;have et:=B1 es er;exact (Lo (J ((ms.getD k AD.z).day)) (hg (AA es et)) (Rd.one AH (br.keep av Z) Z) (fL Z))
    ·intro _ _ ap f eu;obtain ⟨_,_,_,_,_,_,_,hh,_,_,_,_,_,_,_,hi,_,hj,_⟩:=eu;have ar:=hh trivial;refine BN (p:=((k:Int)+1)=(ms.length:Int)) ?_ ?_
     ·intro U;exact Gs 7 52 (AB ar U) Z (Pk true (.bool true) Z (AB ar U) Z (M (D5 Z (Rg (Mv (J a) Z (Et (f 9 Z) N) (Mv (J n) Z (Et (f 8 Z) K) (V Z (Nn Z Z (I (J (min a n)) Z (M (Rg (Ad _ _ Z (Et (f 21 Z) y) Z Y (Mz (J ((k:Int)+1)) Z (M (have ev:=((r.trans s).upd (Ln r u) t).trans ap;⟨_,Y,k+1,n,min a n,Z,Y,Y,(by rw [<-j,EK (ms:=ms) (k:=k) (dy:=dy) Y ‹_›];unfold G3 F3;repeat (first | rw [aT ‹_›] | rw [aU (.inl ‹_›)])),Z,ev,(Et (f 2 Z) O),(Et (f 3 Z) P),(Et (f 4 Z) x),(Et (f 5 Z) Q),(Et (f 19 Z) R),(Et (f 20 Z) S),(Et (f 8 Z) K),Z,Z⟩)))))))))))))))
     ·intro U;refine Gg 7 52 (AA ar U) Z (Ck (hi (AA ar U)) (hj (AA ar U)) (Pk false (.bool (decide (((ms.getD k AD.z).day)<((ms.getD (k+1) AD.z).day)))) Z (AA ar U) Z (M (AS Z (λew=>?_) (λew=>?_)))))
      ·exact Rg (Mv (J a) Z (Et (f 9 Z) N) (Mv (J n) Z (Et (f 8 Z) K) (V Z (Nn Z Z (I (J (min a n)) Z (M (Rg (Ad _ _ Z (Et (f 21 Z) y) Z Y (Mz (J ((k:Int)+1)) Z (M (have ex:=((r.trans s).upd (Ln r u) t).trans ap;⟨_,Y,k+1,n,min a n,Z,Y,Y,(by rw [<-j,EK (ms:=ms) (k:=k) (dy:=dy) Y ‹_›];unfold G3 F3;repeat (first | rw [aT ‹_›] | rw [aU (.inr ‹_›)])),Z,ex,(Et (f 2 Z) O),(Et (f 3 Z) P),(Et (f 4 Z) x),(Et (f 5 Z) Q),(Et (f 19 Z) R),(Et (f 20 Z) S),(Et (f 8 Z) K),Z,Z⟩)))))))))))
      ·exact Sk (Rg (Ad _ _ Z (Et (f 21 Z) y) Z Y (Mz (J ((k:Int)+1)) Z (M (⟨_,Y,k+1,n,a,rfl,Y,Y,(by rw [<-j,EK (ms:=ms) (k:=k) (dy:=dy) Y ‹_›];unfold G3 F3;repeat (first | rw [aT ‹_›] | rw [aT (by rintro (q | q) <;> contradiction)])),rfl,(((r.trans s).upd (Ln r u) t).trans ap),(Et (f 2 rfl) O),(Et (f 3 rfl) P),(Et (f 4 rfl) x),(Et (f 5 rfl) Q),(Et (f 19 rfl) R),(Et (f 20 rfl) S),(Et (f 8 rfl) K),(Et (f 9 rfl) N),(Et (b:=(J ((k:Int)+1):aV)) rfl (by rfl))⟩)))))
 ·exact Xt (Sr (Mv (J n) Z K (Mv (J a) Z N (I (J n) Z (I (J a) Z (M (Rt (⟨Zr,Ou (J n) (J a) Z (⟨(by (rw [AP,<-j,R1 (ms:=ms) (k:=k) ‹_›];done)),(a7.trans r)⟩)⟩))))))))
theorem Sn(c:AN)(d:Int)(m:Int)(gs:List Good)(gsv:aV)(ms:List AD)(msv:aV)(cs:List AN)(csv:aV)(r:Nat)(p:AV)(rp:Nat)(hgs:AE h gsv 5 Bm gs)(hms:AE h msv 5 BE ms)(hcs:AE h csv 4 BF cs)(hr:AR h r 0 5 #[J d,J m,gsv,msv,csv])(hrp:AR h rp 0 15 (Al p))(hG:Df h)(hc0:0<=c.good)(hc1:c.good<3)(hp:Bd p)(hml:ms.length<=6)(hkind:∀k,0<=(ms.getD k AD.z).kind/\(ms.getD k AD.z).kind<=4):AT W 127 #[.agg #[J c.good,J c.day,J c.low,J c.high],Pt r,Pt rp] h (λv h'=>v=(.bool (decide (¬(c.low<=(AP ms p c.good c.day).1/\(AP ms p c.good c.day).1<=c.high))):aV)/\h.Le h'):=by
 have j:=hgs.len;have l:=hms.len;have n:=hcs.len;refine Ct func127 Z (Sr (V Z (Bo #[J c.good,J c.day,J c.low,J c.high] Z Z λ_ _ _ a b _=>I (.bool false) Z (M (Sr (Lz _ Z (AF CC (hr.le a)) (Lz (.agg (Al p)) Z (AF Bc (hrp.le a)) (Fz M1 Z (Lz (J c.good) Z (Rd.one AH b Z) (Fz M3 Z (Lz (J c.day) Z (Rd.one AH b Z) (V Z (CA func67 Jr Z Z Z Z ((In d m gs gsv ms msv cs csv p c.good c.day (hgs.le a) (hms.le a) (hcs.le a) (hG.le a) Y Y Y Y Y).mono λ_ _ g=>?_))))))))))))));obtain ⟨rfl,e⟩:=g;refine Mz (.tuple #[J (Qv ms p c),J ((AP ms p c.good c.day).2)]) Z (V Z (Ex (J (Qv ms p c)) Z (V Z (Ex (J ((AP ms p c.good c.day).2)) Z (I (J (Qv ms p c)) Z (I (J ((AP ms p c.good c.day).2)) Z (M (Sr (Mz (J (Qv ms p c)) Z (Fz JP Z (Fz Cb Z (have f:=e.keep b Z;Lz (J c.low) Z (Rd.one AH f Z) (Fz JP Z (Fz Cm Z (Lz (J c.high) Z (Rd.one AH f Z) (V Z (Ag func41 Bz Z Z Z ((BR (Qv ms p c) c.low c.high ).mono λ_ _ i=>?_))))))))))))))))));obtain ⟨rfl,rfl⟩:=i;exact V Z (A4 Z (I (.bool (decide (¬(c.low<=(Qv ms p c)/\(Qv ms p c)<=c.high)))) Z (M (Rt (⟨Zr,Ot (.bool (decide (¬(c.low<=(Qv ms p c)/\(Qv ms p c)<=c.high)))) Z (⟨(by rfl),(a.trans e)⟩)⟩)))))
theorem Ue(p:AV)(hgs:AE h gsv 5 Bm gs)(hms:AE h msv 5 BE ms)(hcs:AE h csv 4 BF cs)(hG:Df h)(hp:Bd p)(hml:ms.length<=6)(hkind:∀k,0<=(ms.getD k AD.z).kind/\(ms.getD k AD.z).kind<=4)(hgl:gs.length<=3)(hcg:∀x ∈ cs,0<=x.good/\x.good<3):AT W 111 #[.agg #[J d,J m,gsv,msv,csv],.agg (Al p)] h (λv h'=>v=(.bool (BB d gs.length ms cs p):aV)/\h.Le h'):=by
 have ao:=hgs.len;have ap:=hms.len;have aq:=hcs.len;refine Ct func111 Z (Sr (V Z (Bo #[J d,J m,gsv,msv,csv] Z Z λe _ _ H K _=>V Z (Bo (Al p) Z Z λf N _ u w _=>I (.bool false) Z (M (S2 (Fz At Z (Fz Cn Z (have l:=u.keep K Z;Lz gsv Z (Rd.one ET l Z) (have n:=H.trans u;V Z (AO Ez (hgs.le n) Z (Mz (J 0) Z (M (Bk (Ai (λy σ' o h'=>∃(k:Nat),y=gs.length-k/\(k<=gs.length)/\(∀j,j<k->¬(AP ms p (j:Int) d).2<0)/\o=[]/\L.Le N h'/\σ' 2=Pt e/\σ' 3=Pt f/\σ' 11=J (gs.length:Int)/\σ' 12=J k) ⟨0,Z,Y,aK,Z,Lr,Z,Z,Z,Z⟩ (λy _ _ O P=>?_))))))))))))))));obtain ⟨k,rfl,hk,A,Q,a,b,q,B,r⟩:=P;subst Q;refine Sr (V Z (Ao r B (M (Sq (AS Z (λR=>?_) (λR=>?_))))))
 ·refine Sk (Sq (Bk (Sr (Mv (J k) Z r (I (J k) Z (M (Sr (have C:=a.keep l Z;Ld _ Z b (AF CC (Bx C Z)) (Ld (.agg (Al p)) Z q (AF Bc (Bx (a.keep w Z) Z)) (Mz (J k) Z (Fa At Z b (Fz DP Z (Lz (J d) Z (Rd.one AH C Z) (have c:=n.trans a;V Z (CA func67 Jr Z Z Z Z ((In d m gs gsv ms msv cs csv p (k:Int) d (hgs.le c) (hms.le c) (hcs.le c) (hG.le c) Y Y Y Y Y).mono λ_ _ S=>?_))))))))))))))));obtain ⟨rfl,D⟩:=S;refine Mz (.tuple #[J ((AP ms p (k:Int) d).1),J ((AP ms p (k:Int) d).2)]) Z (V Z (Ex (J ((AP ms p (k:Int) d).1)) Z (V Z (Ex (J ((AP ms p (k:Int) d).2)) Z (I (J ((AP ms p (k:Int) d).1)) Z (I (J ((AP ms p (k:Int) d).2)) Z (M (Sr (Mz (J ((AP ms p (k:Int) d).2)) Z (V Z (Ao Z Z (M (AS Z (λT=>?_) (λT=>?_))))))))))))))
  ·exact Sr (I (.bool false) Z (M (Rt (⟨Zr,Ot (.bool false) Z (⟨(by (symm;congr 1;exact VL (k:=k) Y ‹_›)),(c.trans D)⟩)⟩))))
  ·exact Sk (Rg (Ad _ _ Z r Z Y (Mz (J ((k:Int)+1)) Z (M (⟨_,Y,k+1,Z,Y,(by exact Fm A ‹_›),Z,(a.trans D),b,q,B,Z⟩)))))
 ·refine Xt (Sr (Fa At Z b (Fz Ea Z (have E:=a.keep l Z;Lz csv Z (Rd.one Hd E Z) (V Z (GV b q ?_))))));have s:=n.trans a;have U:∀x ∈ cs,∀g,L.Le O g->CG W (.func (.func 127) #[] #[Pt e,Pt f]) #[.agg #[J x.good,J x.day,J x.low,J x.high]] g λv F=>v=.bool ((λx=>decide (¬(x.low<=(AP ms p x.good x.day).1/\(AP ms p x.good x.day).1<=x.high))) x)/\g.Le F:=by
   intro x X g t;have hcx:=hcg x X;have i:=s.trans t;exact BU func127 WB Z ((Sn x d m gs gsv ms msv cs csv e p f (hgs.le i) (hms.le i) (hcs.le i) (Bx (t.keep E Z) Z) (Bx (t.keep (a.keep w Z) Z) Z) (hG.le i) Y Y Y Y Y).mono λv F hp=>⟨hp.1,hp.2⟩)
  refine V Z (AQ func126 WA Z Z ((Km cs csv (.func (.func 127) #[] #[Pt e,Pt f]) (λx=>decide (¬(x.low<=(AP ms p x.good x.day).1/\(AP ms p x.good x.day).1<=x.high))) (hcs.le s) U).mono λ_ _ a1=>?_));obtain ⟨rfl,am⟩:=a1;exact V Z (Du Z (I (.bool (!(cs.any (λx=>decide (¬(x.low<=(AP ms p x.good x.day).1/\(AP ms p x.good x.day).1<=x.high)))))) Z (M (Rt (⟨Zr,Ot (.bool (!(cs.any (λx=>decide (¬(x.low<=(AP ms p x.good x.day).1/\(AP ms p x.good x.day).1<=x.high)))))) Z (⟨(by (symm;congr 1;exact TP (k:=k) Y A)),(s.trans am)⟩)⟩)))))
theorem Uf(f:List Int)(fv:aV)(y:List Int)(yv:aV)(l:List Int)(lv:aV)(hgs:AE h gsv 5 Bm gs)(hms:AE h msv 5 BE ms)(hcs:AE h csv 4 BF cs)(hf:AE h fv 1 eI f)(hy:AE h yv 1 eI y)(hl:AE h lv 1 eI l)(hG:Df h)(hnm:∀k,(gs.getD k Good.z).name.size<=1000):AT W 66 #[.agg #[J d,J m,gsv,msv,csv],fv,yv,lv] h (λv h'=>v=(.tuple #[.agg (Al (BV d m gs ms cs f y l)),J (A5 d m gs ms cs f y l)]:aV)/\h.Le h'):=by
 have br:=hgs.len;have bs:=hms.len;have bt:=hcs.len;have bu:=hf.len;have bv:=hy.len;have bw:=hl.len;refine Ct func66 Z (Sr (V Z (Bo #[J d,J m,gsv,msv,csv] Z Z λr7 _ _ b bx _=>V Z (AW DR λN cm q x bz _=>have A:cm N=some (true,.cells Qq 152 (0,0)):=bz;I (J 0) Z (M (S2 (have O:=x.keep bx Z;Lz _ Z (AF A8 (Bx O Z)) (have r:=b.trans x;V Z (Ak func68 Gu Z ((D2 d m gs gsv ms msv cs csv (hgs.le r) (hms.le r) (hcs.le r) (hG.le r) Y).mono λ_ _ b0=>?_))))))))));obtain ⟨rfl,c⟩:=b0;refine I (UH d m gs ms cs) Z (M (Sr (Mz (UH d m gs ms cs) Z (V Z (Av Z Z (M (AS Z (λP=>?_) (λP=>?_))))))))
 ·exact Sr (V Z (Ap (cells:=Q0) H9 DR aB (Mz (UH d m gs ms cs) Z (V Z (So (.agg Q0) Qq Bc Z (c.keep A Z) Z (Nb Z) Z λ_ b1 b2=>I (UH d m gs ms cs) Z (M (Rt (⟨Zr,Di Z (v:=.agg Qq) (v':=J (An d m gs ms cs)) Z (AF Bc (Bx b1 Z)) Z (⟨(by exact G6 (R4 ‹_›) ‹_›),((r.trans c).upd (Ln b q) b2)⟩)⟩))))))))
 ·have a:=I5 (Dn P);have hgl:=a.glen;have hml:=a.mlen;have hcl:=a.clen;have hdy:=a.days;have hmo:=a.most;have hkind:=a.kind;refine Sk (S2 (Mz fv Z (Fz Cn Z (have Q:=c.keep O Z;Lz gsv Z (Rd.one ET Q Z) (have B:=r.trans c;V Z (AO Ez (hgs.le B) Z (V Z (AQ func105 Oq Z Z ((Lm f fv (gs.length:Int) (hf.le B) ).mono λ_ _ b3=>?_)))))))));obtain ⟨rfl,n⟩:=b3;refine I (J (Aw f (gs.length:Int))) Z (M (Sr (Mz (J (Aw f (gs.length:Int))) Z (V Z (Av Z Z (M (AS Z (λR=>?_) (λR=>?_))))))))
  ·exact Sr (V Z (Ap (cells:=Q0) H9 DR aB (Mz (J (Aw f (gs.length:Int))) Z (V Z (So (.agg Q0) Qq Bc Z (n.keep (c.keep A Z) Z) Z (Nb Z) Z λ_ b4 b5=>I (J (Aw f (gs.length:Int))) Z (M (Rt (⟨Zr,Di Z (v:=.agg Qq) (v':=J (Aw f (gs.length:Int))) Z (AF Bc (Bx b4 Z)) Z (⟨(by exact G6 (R5 ‹_› ‹_›) ‹_›),((B.trans n).upd (Ln b q) b5)⟩)⟩))))))))
  ·obtain ⟨_,hnb51_⟩:=GA (Dn R);refine Sk (S2 (Mz yv Z (Fz Bf Z (have S:=n.keep Q Z;Lz msv Z (Rd.one Co S Z) (have s:=B.trans n;V Z (AO E0 (hms.le s) Z (V Z (AQ func105 Oq Z Z ((Lm y yv (ms.length:Int) (hy.le s) ).mono λ_ cn b6=>?_)))))))));obtain ⟨rfl,g⟩:=b6;refine I (J (Aw y (ms.length:Int))) Z (M (Sr (Mz (J (Aw y (ms.length:Int))) Z (V Z (Av Z Z (M (AS Z (λT=>?_) (λT=>?_))))))))
   ·exact Sr (V Z (Ap (cells:=Q0) H9 DR aB (Mz (J (Aw y (ms.length:Int))) Z (V Z (So (.agg Q0) Qq Bc Z (g.keep (n.keep (c.keep A Z) Z) Z) Z (Nb Z) Z λ_ b7 b8=>I (J (Aw y (ms.length:Int))) Z (M (Rt (⟨Zr,Di Z (v:=.agg Qq) (v':=J (Aw y (ms.length:Int))) Z (AF Bc (Bx b7 Z)) Z (⟨(by exact G6 (R6 ‹_› ‹_› ‹_›) ‹_›),((s.trans g).upd (Ln b q) b8)⟩)⟩))))))))
   ·obtain ⟨_,hnb66_⟩:=GA (Dn T);refine Sk (Sr (have D:=(g.keep (n.keep (c.keep A Z) Z) Z);V Z (AW DR λE co w U ca _=>have cb:co E=some (true,.cells Qq 152 (0,0)):=ca;M (Sr (Fz JQ Z (V Z (I2 MI Z (Mz fv Z (have X:=(s.trans g).trans U;V Z (Ny (enc:=eI) (ys:=f) (c':=Al (AV.zero.setFirsts f)) AK Z Z cb (Nb Z) (hf.le X) Y aJ aJ (NF Y) λ_ cc a3=>M (Sr (Fz JR Z (V Z (I2 MH Z (Mz yv Z (have a4:=X.upd (Ln ((((b.trans x).trans c).trans n).trans g) w) a3;V Z (Ny (enc:=eI) (ys:=y) (c':=Al (Qj f y)) AK Z Z cc (Nb Z) (hy.le a4) Y aJ aJ (N9 Y) λ_ cd a5=>M (Sr (I (J (-1)) Z (M (S2 (Mz lv Z (have ce:=a4.upd (Ln ((((b.trans x).trans c).trans n).trans g) w) a5;V Z (AO A3 (hl.le ce) Z (Mz (J 0) Z (M (Bk (have cf:=(U.upd (Ln Lr w) a3).upd (Ln Lr w) a5;Ai (λnn σ' F h'=>∃(k:Nat),nn=l.length-k/\(k<=l.length)/\(∀j,j<k->LA ms l j=0)/\F=[]/\L.Le cn h'/\σ' 4=Pt r7/\σ' 8=Pt N/\σ' 13=Pt E/\σ' 49=lv/\σ' 50=J (l.length:Int)/\σ' 14=J (Jf l k)/\σ' 51=J k/\h' E=some (true,.cells (Al (En (Qj f y) l k)) 152 (0,0))) ⟨0,Z,Y,aK,Z,cf,Z,Z,Z,Z,Z,Z,Z,(by have e:(Al (En (Qj f y) l 0):Array aV)=Al (Qj f y):=(by rfl);rw [e];exact cd)⟩ (λnn _ _ _ cg=>?_)))))))))))))))))))))))))))));obtain ⟨k,rfl,hk,C,cp,o,cl,p,H,a6,a7,ci,K,a8⟩:=cg;subst cp;refine Sr (V Z (Ao K a7 (M (Sq (AS Z (λa9=>?_) (λa9=>?_))))))
    ·refine Sk (Sq (Bk (Sq (Rg ?_))));have ba:(0:Int)<=(k:Int):=Y
     have bb:(k:Int)<((l.length:Nat):Int):=Y
     refine V Z (Ae AK hl a6 K ba bb λcj av bc=>have bd:AR _ cj av 1 (eI (l.getD k 0)):=AR.getD 0 bc;have t:=(s.trans g).trans o;Lz (Qm l k) Z (BA AH (bd.le t) Z) (I (Qm l k) Z (M (Sq (Bk (Sr (Ld _ Z cl (AF A8 (Bx (o.keep (g.keep S Z) Z) Z)) (V Z (Ap (cells:=#[J d,J m,gsv,msv,csv]) ES B6 aB (Mz (Qm l k) Z (V Z (AQ func73 Js Z Z ((Hg d m gs gsv ms msv cs csv (l.getD k 0) (hgs.le t) (hms.le t) (hcs.le t) ).mono λ_ _ be=>?_)))))))))))));obtain ⟨rfl,u⟩:=be;refine V Z (A4 Z (I (.bool (decide (¬((0<=(l.getD k 0)/\(l.getD k 0)<=(ms.length:Int)-1)/\(ms.getD ((l.getD k 0)).toNat AD.z).kind=0)))) Z (M (AS Z (λao=>?_) (λao=>?_)))))
     ·exact Sr (V Z (Ap (cells:=Q0) H9 DR aB (V Z (AZ (v:=.agg Q0) (c':=Al AV.zero) Bc p Z (u.keep (o.keep D Z) Z) Z Z (Nb Z) Z λ_ bf bg=>I (J 6) Z (M (Rt (⟨Zr,Di Z (v:=.agg Qq) (v':=J 6) p (AF Bc (Bx bf Z)) Z (⟨(by exact G6 (IS ‹_› ‹_› ‹_› (CH (k:=k) C Y (lieAt_6 ‹_›) aC)) aC),((t.trans u).upd (Ln b q) bg)⟩)⟩)))))))
     ·have hc122_:=Dn ao;refine Sr (Mz (Qm l k) Z (Mv (J (Jf l k)) Z ci (V Z (DI Z Z (I (.bool (decide ((l.getD k 0)<=(Jf l k)))) Z (M (AS Z (λbh=>?_) (λbh=>?_))))))))
      ·exact Sr (V Z (Ap (cells:=Q0) H9 DR aB (V Z (AZ (v:=.agg Q0) (c':=Al AV.zero) Bc p Z (u.keep (o.keep D Z) Z) Z Z (Nb Z) Z λ_ bi bj=>I (J 7) Z (M (Rt (⟨Zr,Di Z (v:=.agg Qq) (v':=J 7) p (AF Bc (Bx bi Z)) Z (⟨(by exact G6 (IS ‹_› ‹_› ‹_› (CH (k:=k) C Y (lieAt_7 ‹_› ‹_›) aC)) aC),((t.trans u).upd (Ln b q) bj)⟩)⟩)))))))
      ·refine Sk (Rg (Mz (Qm l k) Z (Mz (Qm l k) Z (Fa EZ Z H ?_))));have bk:(0:Int)<=l.getD k 0:=Y
       have bl:l.getD k 0<((6:Nat):Int):=Y
       exact V Z (Bj Gt Z Z bk bl (V Z (So (.bool true) (Al ((En (Qj f y) l k).setLie ((l.getD k 0).toNat) true)) Dp Z (u.keep a8 Z) Z (by show _<=15;omega) (IP (i:=(l.getD k 0).toNat) Y) λ_ bm bn=>I (Qm l k) Z (M (Rg (Ad _ _ Z K Z Y (Mz (J ((k:Int)+1)) Z (M (⟨_,Y,k+1,Z,Y,(by exact FD C (lieAt_0 ‹_› ‹_›)),Z,((o.trans u).upd (Ln Lr w) bn),cl,p,H,a6,a7,Z,Z,(by have e:(Al (En (Qj f y) l (k+1)):Array aV)=Al ((En (Qj f y) l k).setLie ((l.getD k 0).toNat) true):=(by rw [TU Y]);rw [e];exact bm)⟩)))))))))
    ·exact Xt (Sr (Ld (.agg (Al (En (Qj f y) l k))) Z H (AF Bc (Bx a8 Z)) (V Z (AZ (v:=.agg (Al (En (Qj f y) l k))) (c':=Al (En (Qj f y) l k)) Bc p Z (o.keep D Z) (IT _) (IU _) (Jg _) (Jh _ _) λ_ bo bp=>I (J 0) Z (M (Rt (have bq:=((s.trans g).trans o).upd (Ln b q) bp;⟨Zr,Di Z (v:=.agg (Al (En (Qj f y) l k))) (v':=J 0) p (AF Bc (Bx bo Z)) Z (⟨(by exact TV (IS ‹_› ‹_› ‹_› (DZ (k:=k) C Y)) ‹_› hk),bq⟩)⟩)))))))
theorem Zm(f:List Int)(fv:aV)(y:List Int)(yv:aV)(l:List Int)(lv:aV)(hgs:AE h gsv 5 Bm gs)(hms:AE h msv 5 BE ms)(hcs:AE h csv 4 BF cs)(hf:AE h fv 1 eI f)(hy:AE h yv 1 eI y)(hl:AE h lv 1 eI l)(hG:Df h)(hnm:∀k,(gs.getD k Good.z).name.size<=1000):AT W 24 #[.agg #[J d,J m,gsv,msv,csv],fv,yv,lv] h (λv h'=>∃(w1:aV)(w2:aV),v=(.tuple #[w1,w2,J (A5 d m gs ms cs f y l)]:aV)/\AE h' w1 1 eI (G7 d m gs ms cs f y l)/\AE h' w2 1 eI (IV d m gs ms cs f y l)/\h.Le h'):=by
 have ba:=hgs.len;have bb:=hms.len;have bc:=hcs.len;have bd:=hf.len;have be:=hy.len;have bf:=hl.len;refine Ct func24 Z (Sr (V Z (Bo #[J d,J m,gsv,msv,csv] Z Z λQ _ _ a R _=>I Q9 Z (I Q9 Z (I (J 0) Z (M (Sr (Lz _ Z (AF A8 (Bx R Z)) (Mz fv Z (Mz yv Z (Mz lv Z (V Z (CA func66 ZM Z Z Z Z ((Uf d m gs gsv ms msv cs csv f fv y yv l lv (hgs.le a) (hms.le a) (hcs.le a) (hf.le a) (hy.le a) (hl.le a) (hG.le a) Y).mono λ_ _ bg=>?_))))))))))))));obtain ⟨rfl,o⟩:=bg;refine Mz (.tuple #[.agg (Al (BV d m gs ms cs f y l)),J (A5 d m gs ms cs f y l)]) Z (V Z (Ex (.agg (Al (BV d m gs ms cs f y l))) Z (V Z (Ex (J (A5 d m gs ms cs f y l)) Z (have S:=o.keep R Z;V Z (AW DR λu b4 w x bi _=>have bj:b4 u=some (true,.cells Qq 152 (0,0)):=bi;have bk:Q≠u:=B7 S w;V Z (AZ (v:=.agg (Al (BV d m gs ms cs f y l))) (c':=Al (BV d m gs ms cs f y l)) Bc Z Z bj (IT _) (IU _) (Jg _) (Jh _ _) λp bl A=>I (J (A5 d m gs ms cs f y l)) Z (M (S2 (Mz (J (A5 d m gs ms cs f y l)) Z (V Z (Av Z Z (M (AS Z (λT=>?_) (λT=>?_)))))))))))))))
 ·exact Sr (Mz (J (A5 d m gs ms cs f y l)) Z (I Q9 Z (I Q9 Z (I (J (A5 d m gs ms cs f y l)) Z (M (Rt (have bm:=((a.trans o).trans x).upd (Ln (a.trans o) w) A;⟨Zr,Np Z (v:=.slice none 0 0) (v':=.slice none 0 0) (v2:=J (A5 d m gs ms cs f y l)) Z Z Z (⟨.slice none 0 0,.slice none 0 0,(by rfl),(by have e:G7 d m gs ms cs f y l=[]:=(by exact R7 ‹_›);rw [e];exact AE.nil _ _ _),(by have e:IV d m gs ms cs f y l=[]:=(by exact TW ‹_›);rw [e];exact AE.nil _ _ _),bm⟩)⟩)))))))
 ·obtain ⟨g,hpo⟩:=YB (Dn T);have hgl:=g.glen;have hml:=g.mlen;have hdy:=g.days;have hkind:=g.kind;refine Sk (S2 (Fz Cn Z (have U:=(A _ bk).trans (x.keep S Z);Lz gsv Z (Rd.one ET U Z) (have B:=((a.trans o).trans x).upd (Ln (a.trans o) w) A;V Z (AO Ez (hgs.le B) Z (Mz (J 0) Z (M (Bk (Ai (λX σ' C h'=>∃(k:Nat)(j:aV)(c:aV),X=gs.length-k/\(k<=gs.length)/\C=[]/\L.Le p h'/\σ' 4=Pt Q/\σ' 10=J 0/\σ' 11=Pt u/\σ' 29=J (gs.length:Int)/\σ' 30=J k/\σ' 8=j/\σ' 9=c/\AM p h' j 3 1 eI ((List.range k).map (λ(i:Nat)=>(AP ms (BV d m gs ms cs f y l) (i:Int) d).1))/\AM p h' c 3 1 eI ((List.range k).map (λ(i:Nat)=>(AP ms (BV d m gs ms cs f y l) (i:Int) d).2))/\Apart c j) ⟨0,.slice none 0 0,.slice none 0 0,Z,Y,Z,Lr,Z,Z,Z,Z,Z,Z,Z,(by have e:(List.range 0).map (λ(i:Nat)=>(AP ms (BV d m gs ms cs f y l) (i:Int) d).1)=[]:=(by rfl);rw [e];exact AM.nil _ _ _ _ _),(by have e:(List.range 0).map (λ(i:Nat)=>(AP ms (BV d m gs ms cs f y l) (i:Int) d).2)=[]:=(by rfl);rw [e];exact AM.nil _ _ _ _ _),Apart.nil⟩ (λX _ _ _ bn=>?_))))))))));obtain ⟨k,j,c,rfl,hk,b5,r,D,b6,bw,bx,E,bz,b0,b1,b2,b3⟩:=bn;subst b5;refine Sr (V Z (Ao E bx (M (Sq (AS Z (λbq=>?_) (λbq=>?_))))))
  ·refine Sk (Sq (Bk (Sr (Mv (J k) Z E (I (J k) Z (M (Sr (have az:=r.keep U Z;Ld _ Z D (AF A8 (Bx az Z)) (V Z (Ap (cells:=#[J d,J m,gsv,msv,csv]) ES B6 aB (Ld (.agg (Al (BV d m gs ms cs f y l))) Z bw (AF Bc (Bx (r.keep bl Z) Z)) (Mz (J k) Z (Fa DP Z D (Lz (J d) Z (Rd.one AH az Z) (have s:=B.trans r;V Z (CA func67 Jr Z Z Z Z ((In d m gs gsv ms msv cs csv (BV d m gs ms cs f y l) (k:Int) d (hgs.le s) (hms.le s) (hcs.le s) (hG.le s) Y Y Y Y Y).mono λ_ _ br=>?_)))))))))))))))));obtain ⟨rfl,F⟩:=br;exact Mz (.tuple #[J ((AP ms (BV d m gs ms cs f y l) (k:Int) d).1),J ((AP ms (BV d m gs ms cs f y l) (k:Int) d).2)]) Z (V Z (Ex (J ((AP ms (BV d m gs ms cs f y l) (k:Int) d).1)) Z (V Z (Ex (J ((AP ms (BV d m gs ms cs f y l) (k:Int) d).2)) Z (I (J ((AP ms (BV d m gs ms cs f y l) (k:Int) d).1)) Z (I (J ((AP ms (BV d m gs ms cs f y l) (k:Int) d).2)) Z (M (Rg (Mv j Z bz (Mz (J ((AP ms (BV d m gs ms cs f y l) (k:Int) d).1)) Z (V Z (AX (cells:=#[J ((AP ms (BV d m gs ms cs f y l) (k:Int) d).1)]) B0 aC aC aB λ_ _ bs H bt _=>have bu:=AM.built (enc:=eI) (xs:=[(AP ms (BV d m gs ms cs f y l) (k:Int) d).1]) (n:=1) bs bt Z Z aI Z;have a0:=(b1.le F).le H;have a1:=(r.trans F).trans H;have a2:=(b2.le F).le H;V Z (B8 (h0:=p) Ce Z Z a0 (bu.sl) (λ_ q=>Ln a1 q) aH aJ λt _ bv K=>have ai:Apart t c:=Apart.grown K a2 (Apart.symm b3);Mv c Z b0 (Mz (J ((AP ms (BV d m gs ms cs f y l) (k:Int) d).2)) Z (V Z (AX (cells:=#[J ((AP ms (BV d m gs ms cs f y l) (k:Int) d).2)]) B0 aC aC aB λ_ _ a3 N a4 _=>have a5:=AM.built (enc:=eI) (xs:=[(AP ms (BV d m gs ms cs f y l) (k:Int) d).2]) (n:=1) a3 a4 Z Z aI Z;have aj:=((AM.grown K a2 (Apart.symm b3)).le N);have ak:=(L.Le.grown K a1 λb e=>Ln Lr (a0.fresh b e)).trans N;have al:=bv.le N;V Z (B8 (h0:=p) Ce Z Z aj (a5.sl) (λ_ q=>Ln ak q) aH aJ λO _ a6 P=>have a7:Apart O t:=Apart.grown P al (Apart.symm ai);I t Z (I O Z (M (Rg (Ad _ _ Z E Z Y (Mz (J ((k:Int)+1)) Z (M (have a8:=L.Le.grown P ak λb e=>Ln Lr (aj.fresh b e);⟨_,Y,k+1,t,O,Z,Y,Z,a8,D,b6,bw,bx,Z,Z,Z,(by have e:(List.range (k+1)).map (λ(i:Nat)=>(AP ms (BV d m gs ms cs f y l) (i:Int) d).1)=((List.range k).map (λ(i:Nat)=>(AP ms (BV d m gs ms cs f y l) (i:Int) d).1))++[(AP ms (BV d m gs ms cs f y l) (k:Int) d).1]:=(by exact FR _ _);rw [e];exact (AM.grown P al (Apart.symm ai))),(by have e:(List.range (k+1)).map (λ(i:Nat)=>(AP ms (BV d m gs ms cs f y l) (i:Int) d).2)=((List.range k).map (λ(i:Nat)=>(AP ms (BV d m gs ms cs f y l) (i:Int) d).2))++[(AP ms (BV d m gs ms cs f y l) (k:Int) d).2]:=(by exact FR _ _);rw [e];exact a6),a7⟩))))))))))))))))))))))))
  ·exact Xt (Sr (Mv j Z bz (Mv c Z b0 (I j Z (I c Z (I (J 0) Z (M (Rt (⟨Zr,Np Z (v:=j) (v':=c) (v2:=J 0) Z Z Z (⟨j,c,(by (rw [Dn (aG:¬¬A5 d m gs ms cs f y l=0)])),(by have e:G7 d m gs ms cs f y l=(List.range k).map (λ(i:Nat)=>(AP ms (BV d m gs ms cs f y l) (i:Int) d).1):=(by exact Pg ‹_› hk ‹_›);rw [e];exact b1.sl),(by have e:IV d m gs ms cs f y l=(List.range k).map (λ(i:Nat)=>(AP ms (BV d m gs ms cs f y l) (i:Int) d).2):=(by exact R8 ‹_› hk ‹_›);rw [e];exact b2.sl),(B.trans r)⟩)⟩)))))))))
end Go.Ns
