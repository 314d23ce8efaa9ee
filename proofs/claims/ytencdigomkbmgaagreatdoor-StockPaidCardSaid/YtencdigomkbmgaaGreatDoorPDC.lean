/- Rules and walks, part 3 of 6. No conditions. -/
import Derived.Carry
import Derived.Conc.LeavingOf
import Derived.LaidMore
import Derived.OpenShut
import Derived.ProofKit
import Derived.Test.YtencdigomkbmgaaGreatDoorPDA
import Derived.Test.YtencdigomkbmgaaGreatDoorPDB
import Derived.Test.YtencdigomkbmgaaGreatDoorProg
set_option linter.unusedVariables false
set_option linter.unusedSimpArgs false
set_option linter.unnecessarySimpa false
set_option linter.unusedSectionVars false
set_option linter.constructorNameAsVariable false
namespace Go.Ns
open Go.Conc
section
variable {P:Program} {M:Type}
structure PD(P:Program)(M:Type) where
 W:Wk P
 Rep:Nat->M->aU->L->Prop
 main:Bool
 fn:FuncId
 rd:Option Nat
 N:Nat
def PD.wk(F:PD P M):Option (E3 M)->Wk P
 | none=>F.W
 | some s=>⟨F.main,Ed P F.main (Hk P F.Rep F.W.K s F.main),Kg _ _⟩
abbrev PD.env(F:PD P M)(i:Option (E3 M)):Fl P:=⟨F.wk i,F.fn,F.rd,F.N⟩
abbrev TE(M:Type):=Option (E3 M)->Exit->(Nat->aU)->List Deferred->L->Prop
def Kc(F:PD P M)(c:Code)(i:Option (E3 M))(O:Nat->aU)(ds:List Deferred)(h:L)(Q:TE M):Prop:=
 ∀(b:Frame)(k:List Item)(cs:List Frame)(aO:Option (E3 M)->Lv)(t:Array aU),b.fn=F.fn->b.roundOf=F.rd->(∀i,Ke (F.wk i) b cs (aO i))->BU t F.N O->
  (∀i e σ' ds' h',Q i e σ' ds' h'->∀t',BU t' F.N σ'->Cw (F.wk i) (aO i) b k cs e t' ds' h')->(F.wk i).K (G (CY b t ds (.code c ::k)) cs) h
def LB(F:PD P M)(ops:Array Oper)(l:List Oper)(i:Option (E3 M))(O:Nat->aU)(ds:List Deferred)(h:L)(Q:TE M):Prop:=
 ∀(n:Nat)(b:Frame)(k:List Item)(cs:List Frame)(aO:Option (E3 M)->Lv)(t:Array aU),(∀j,l[j]? =ops[n+j]?)->b.fn=F.fn->b.roundOf=F.rd->(∀i,Ke (F.wk i) b cs (aO i))->BU t F.N O->
  (∀i e σ' ds' h',Q i e σ' ds' h'->∀t',BU t' F.N σ'->Cw (F.wk i) (aO i) b k cs e t' ds' h')->(F.wk i).K (G (CY b t ds (.inRegion ops (List.range' n l.length) ::k)) cs) h
variable {F:PD P M} {i:Option (E3 M)} {O:Nat->aU} {ds:List Deferred} {h:L} {Q:TE M}
theorem H8{c:Code}(x:Tr (F.env i) c O ds h (Q i)):Kc F c i O ds h Q:=λb k a d t e f g j l=>x b k a (d i) t e f (g i) j (l i)
theorem LC{x y:Code}(a:Kc F x i O ds h (λi e σ' ds' h'=>match e with | .normal=>Kc F y i σ' ds' h' Q | e=>Q i e σ' ds' h')):Kc F (.seq x y) i O ds h Q:=by
 intro b k g j t m n o p d;refine Wk.go (CY b t ds (.code x ::.code y ::k)) (λw=>by rw [Ay];simp [stepG.exec,CY,G]) ?_;refine a b (.code y ::k) g j t m n o p λi e σ' ds' h' q f c=>?_;cases e with
 | normal=>exact q b k g j f m n o c d
 | exit id=>exact Cw.push rfl aD (d _ _ _ _ _ q f c)
 | ret=>exact Cw.push rfl aD (d _ _ _ _ _ q f c)
 | goto l=>exact Cw.push rfl aD (d _ _ _ _ _ q f c)
 | panic l=>exact Cw.push rfl aD (d _ _ _ _ _ q f c)
 | outgrown=>exact Cw.push rfl aD (d _ _ _ _ _ q f c)
theorem Ca{x y:Code}(a:Tr (F.env i) x O ds h (λe σ' ds' h'=>match e with | .normal=>Kc F y i σ' ds' h' Q | e=>Q i e σ' ds' h')):Kc F (.seq x y) i O ds h Q:=
 LC (H8 (Q:=λi e σ' ds' h'=>match e with | .normal=>Kc F y i σ' ds' h' Q | e=>Q i e σ' ds' h') a)
theorem TF{c:Operand}{x y:Code}{t:Bool}(hc:AL O c=.bool t)(a:Kc F (if t then x else y) i O ds h Q):Kc F (.cond c x y) i O ds h Q:=by
 intro b k g j d l m n e o;refine Wk.go (CY b d ds (.code (if t then x else y) ::k)) (λw=>?_) (a b k g j d l m n e o);have f:(CY b d ds (.code (.cond c x y) ::k)).eval c=.bool t:=by rw [Ix e];exact hc
 simp only [CY] at f;rw [Ay];simp [stepG.exec,CY,G,f]
theorem trI_true{c:Operand}{x y:Code}(hc:AL O c=.bool true)(a:Kc F x i O ds h Q):Kc F (.cond c x y) i O ds h Q:=TF hc a
theorem Xw{c:Operand}{x y:Code}(hc:AL O c=.bool false)(a:Kc F y i O ds h Q):Kc F (.cond c x y) i O ds h Q:=TF hc a
theorem trI_ifb{c:Operand}{x y:Code}{t:Bool}(hc:AL O c=.bool t)(a:t=true->Kc F x i O ds h Q)(a':t=false->Kc F y i O ds h Q):Kc F (.cond c x y) i O ds h Q:=by
 cases t with
 | true=>exact trI_true hc (a rfl)
 | false=>exact Xw hc (a' rfl)
theorem Jg{id:Nat}{c:Code}(a:Kc F c i O ds h (λi e σ' ds' h'=>match e with | .normal=>Q i .normal σ' ds' h' | .exit id'=>if id'=id then Q i .normal σ' ds' h' else Q i (.exit id') σ' ds' h' | e=>Q i e σ' ds' h')) :
  Kc F (.block id c) i O ds h Q:=by
 intro b k n o t p r s u j;refine Wk.go (CY b t ds (.code c ::.inBlock id ::k)) (λw=>by rw [Ay];simp [stepG.exec,CY,G]) ?_;refine a b (.inBlock id ::k) n o t p r s u λi e σ' ds' h' q g d=>?_;cases e with
 | normal=>exact Wk.go (CY b g ds' k) (λw=>by rw [Ay];simp [stepG.exec,CY,G]) (j _ _ _ _ _ q g d)
 | exit id'=>
  by_cases f:id'=id
  ·simp only [f,if_true] at q
   have:=j _ _ _ _ _ q g d
   simp only [Cw,exitTo,f,beq_self_eq_true,if_true];exact this
  ·simp only [f,if_false] at q
   have:=j _ _ _ _ _ q g d
   have m:(id==id')=false:=by simp;exact λh=>f h.symm
   simp only [Cw,exitTo,m] at this ⊢;exact this
 | ret=>exact j _ _ _ _ _ q g d
 | goto l=>exact j _ _ _ _ _ q g d
 | panic l=>exact j _ _ _ _ _ q g d
 | outgrown=>exact j _ _ _ _ _ q g d
theorem TG{c:Code}(aQ:Nat->Option (E3 M)->(Nat->aU)->List Deferred->L->Prop){n:Nat}(i0:aQ n i O ds h)
  (round:∀n i O ds h,aQ n i O ds h->Kc F c i O ds h (λi e σ' ds' h'=>match e with | .normal=>∃m,m<n/\aQ m i σ' ds' h' | e=>Q i e σ' ds' h')):Kc F (.loop c) i O ds h Q:=by
 intro b k p r t s u v g f;refine Wk.go (CY b t ds (.code c ::.inLoop c ::k)) (λw=>by rw [Ay];simp [stepG.exec,CY,G]) ?_;have j:∀n i O ds h t,aQ n i O ds h->BU t F.N O->(F.wk i).K (G (CY b t ds (.code c ::.inLoop c ::k)) p) h:=by
  intro n
  induction n using Nat.strongRecOn with
  | ind n x=>
   intro i O ds h t y g;refine round n i O ds h y b (.inLoop c ::k) p r t s u v g λi e σ' ds' h' q d a=>?_;cases e with
   | normal=>
    obtain ⟨m,z,o⟩:=q;exact Wk.go (CY b d ds' (.code c ::.inLoop c ::k)) (λw=>by rw [Ay];simp [stepG.exec,CY,G]) (x m z _ _ _ _ _ o a)
   | exit id=>exact Cw.push rfl aD (f _ _ _ _ _ q d a)
   | ret=>exact Cw.push rfl aD (f _ _ _ _ _ q d a)
   | goto l=>exact Cw.push rfl aD (f _ _ _ _ _ q d a)
   | panic l=>exact Cw.push rfl aD (f _ _ _ _ _ q d a)
   | outgrown=>exact Cw.push rfl aD (f _ _ _ _ _ q d a)
 exact j n i O ds h t i0 g
theorem KF{id:Nat}{l:List Oper}(a:LB F l.toArray l i O ds h Q):Kc F (.region id l.toArray false) i O ds h Q:=by
 intro b k c d t e f g j m;refine Wk.go (CY b t ds (.inRegion l.toArray (List.range' 0 l.length) ::k)) (λw=>?_) (a 0 b k c d t aD e f g j m);rw [Ay];simp [stepG.exec,CY,G,List.range_eq_range']
theorem LD{ops:Array Oper}(q:Q i .normal O ds h):LB F ops [] i O ds h Q:=by
 intro n b k d e t f g j l a c;exact Wk.go (CY b t ds k) (λw=>by rw [Ay];simp [stepG.exec,CY,G]) (c _ _ _ _ _ q t a)
theorem HC{ops:Array Oper}{o:Oper}{l:List Oper}(hg:o.guard=none)(hdf:F.rd=none\/EA o.op=false)(hd:DI o.dst F.N=true)
  (x:BS (F.env i) o O ds h λσ' ds' h'=>LB F ops l i σ' ds' h' Q):LB F ops (o ::l) i O ds h Q:=by
 intro n b k e f t c g d m p q;have r:ops[n]? =some o:=by simpa using (c 0).symm
 refine M4 (E:=F.env i) (rest:=List.range' (n+1) l.length) r (by simp [Region.wanted,hg]) (d▸hdf) hd p x λσ' ds' h' y s a=>?_;exact y (n+1) b k e f s (λj=>by have:=c (j+1);simpa [Nat.add_assoc,Nat.add_comm 1 j] using this) g d m a q
theorem TH{main:Bool}{b:Frame}{t:Array aU}{ops:Array Oper}{n:Nat}{rest:List Nat}{k:List Item}{cs:List Frame}{o:Oper}{N:Nat}(hs:BU t N O)(ho:ops[n]? =some o)(hw:Region.wanted o (yielded ops t)=true)
  (hdf:b.roundOf=none\/EA o.op=false) (w:World):stepG P main (G (CY b t ds (.inRegion ops (n ::rest) ::k)) cs) w=stepG.apply P true (CY b t ds (.inRegion ops (n ::rest) ::k)) cs none (execOp (AL O) o) w:=by
 have a:=Ix (b:=b) (ds:=ds) (k:=.inRegion ops (n ::rest) ::k) hs;rw [<-a];have c:((ops[n]?).map (Region.wanted · (yielded ops t))).getD false=true:=by simp [ho,hw]
 rw [Ay];unfold stepG.exec;simp only [CY,c,↓reduceIte];unfold stepG.oper;simp only [Frame.oper?,ho];rcases hdf with e | e
 ·simp only [e]
 ·cases d:o.op <;> first | rfl | (rw [d] at e;cases e;done) | (cases b.roundOf <;> rfl)
theorem XH{main:Bool}{b:Frame}{t:Array aU}{ops:Array Oper}{n:Nat}{rest:List Nat}{k:List Item}{cs:List Frame}{o:Oper}{N:Nat}{w:World}{cc:Array CommCase}{bl:Bool}{sh:CommShape}(hs:BU t N O)(ho:ops[n]? =some o)(hw:Region.wanted o (yielded ops t)=true)
  (hdf:b.roundOf=none\/EA o.op=false) (hr:(execOp (AL O) o).runT P w #[]=(.ok (.comm cc bl sh) w,#[])) :
  stepG P main (G (CY b t ds (.inRegion ops (n ::rest) ::k)) cs) w=.comm (G (CY b t ds (.inRegion ops (n ::rest) ::k)) cs) cc bl sh w #[]:=by
 rw [TH hs ho hw hdf];simp only [stepG.apply,hr,if_true,ite_self,seen_none];rfl
theorem spawn_at{main:Bool}{b:Frame}{t:Array aU}{ops:Array Oper}{n:Nat}{rest:List Nat}{k:List Item}{cs:List Frame}{o:Oper}{N:Nat}{w:World}{f:Fn}{cap args:Array aU}(hs:BU t N O)(ho:ops[n]? =some o)(hw:Region.wanted o (yielded ops t)=true)
  (hdf:b.roundOf=none\/EA o.op=false) (hr:(execOp (AL O) o).runT P w #[]=(.ok (.spawn { target:=.fn f cap,args:=args }) w,#[])) :
  stepG P main (G (CY b t ds (.inRegion ops (n ::rest) ::k)) cs) w=.spawn (G ((CY b t ds (.inRegion ops (n ::rest) ::k)).finish undef) cs) (born P { target:=.fn f cap,args:=args }) w #[]:=by
 rw [TH hs ho hw hdf];simp only [stepG.apply,hr,if_true,ite_self,seen_none];simp [GStep.after,G,born]
variable {ops:Array Oper} {o:Oper} {l:List Oper}
theorem KG(hl:l≠[]):LB F ops l (some .never) O ds h Q:=λn b k a c t d e f _ g j=>Ed.stop rfl
theorem Xx{c:Nat}{m:M}{nx:E3 M}{v z:aU}{hm h1:L}(hg:o.guard=none)(hdf:EA o.op=false)(hd:DI o.dst F.N=true)
  (hr:∀w,(execOp (AL O) o).runT P w #[]=(.ok (.comm #[scase c v z] true .send) w,#[])) (hsp:L.Split h h1 hm) (hrep:F.Rep c m v hm) (hnx:¬nx.isDone)
  (x:LB F ops l (some nx) (putS O o.dst undef) ds h1 Q):LB F ops (o ::l) (some (.send c m nx)) O ds h Q:=by
 intro n b k d q t e r a s g u;have p:ops[n]? =some o:=by simpa using (e 0).symm
 refine Ed.stop ⟨_,d,v,z,hm,h1,rfl,⟨λw f=>?_,hsp,hrep,?_⟩⟩
 ·rw [List.length_cons,List.range'_succ];exact XH g p (by simp [Region.wanted,hg]) (.inr hdf) (hr w)
 ·rw [Gt hnx,List.length_cons,List.range'_succ,DE p];exact x (n+1) b k d q _ (λj=>by have:=e (j+1);simpa [Nat.add_assoc,Nat.add_comm 1 j] using this) r a s (g.putS hd undef) u
theorem Pu{c:Nat}{f:Option M->E3 M}{z:aU}{ok:Bool}(hg:o.guard=none)(hdf:EA o.op=false)(hd:DI o.dst F.N=true)
  (hr:∀w,(execOp (AL O) o).runT P w #[]=(.ok (.comm #[rcase c z] true (.recv ok)) w,#[])) (hnx:∀o,¬(f o).isDone)
  (x:∀m v hm,F.Rep c m v hm->h.Compat hm->LB F ops l (some (f (some m))) (putS O o.dst (recvd ok v true)) ds (h.join hm) Q)
  (y:LB F ops l (some (f none)) (putS O o.dst (recvd ok z false)) ds h Q):LB F ops (o ::l) (some (.recv c f)) O ds h Q:=by
 intro n b k e s t g u a A p B;have q:ops[n]? =some o:=by simpa using (g 0).symm
 refine Ed.stop ⟨_,e,z,ok,rfl,⟨λw C=>?_,λm v hm d r=>?_,?_⟩⟩
 ·rw [List.length_cons,List.range'_succ];exact XH p q (by simp [Region.wanted,hg]) (.inr hdf) (hr w)
 ·show FG P F.Rep F.W.K (f (some m)) F.main _ _;rw [Gt (hnx _),List.length_cons,List.range'_succ,DE q];exact x m v hm d r (n+1) b k e s _ (λj=>by have:=g (j+1);simpa [Nat.add_assoc,Nat.add_comm 1 j] using this) u a A (p.putS hd _) B
 ·show FG P F.Rep F.W.K (f none) F.main _ _;rw [Gt (hnx _),List.length_cons,List.range'_succ,DE q];exact y (n+1) b k e s _ (λj=>by have:=g (j+1);simpa [Nat.add_assoc,Nat.add_comm 1 j] using this) u a A (p.putS hd _) B
theorem trLI_go{ch nx:E3 M}{f:Fn}{cap args:Array aU}{hc h1:L}(hg:o.guard=none)(hdf:EA o.op=false)(hd:DI o.dst F.N=true)
  (hr:∀w,(execOp (AL O) o).runT P w #[]=(.ok (.spawn { target:=.fn f cap,args:=args }) w,#[])) (hsp:L.Split h h1 hc) (hnx:¬nx.isDone)
  (child:FG P F.Rep F.W.K ch false (born P { target:=.fn f cap,args:=args }) hc) (x:LB F ops l (some nx) (putS O o.dst undef) ds h1 Q):LB F ops (o ::l) (some (.spawn ch nx)) O ds h Q:=by
 intro n b k c m t d p a q e r;have g:ops[n]? =some o:=by simpa using (d 0).symm
 refine Ed.stop ⟨_,c,(CY b t ds (.inRegion ops (List.range' n (o ::l).length) ::k)).finish undef,_,hc,h1,rfl,⟨λw s=>?_,hsp,?_,child⟩⟩
 ·rw [List.length_cons,List.range'_succ];exact spawn_at e g (by simp [Region.wanted,hg]) (.inr hdf) (hr w)
 ·rw [Gt hnx,List.length_cons,List.range'_succ,DE g];exact x (n+1) b k c m _ (λj=>by have:=d (j+1);simpa [Nat.add_assoc,Nat.add_comm 1 j] using this) p a q (e.putS hd undef) r
def KH(tys:Array aV)(ty:aV)(cs:Array Bool)(c:Nat):Deferred:={ target:=.builtin .close tys ty cs,args:=#[.chan (some c)] }
theorem Rk{f:FuncId}{fn:Func}{args:Array aU}(hf:P.funcs[f]? =some fn)(hc:AK fn=true)(w:World):(callFunc f args).runT P w #[]=(.ok (.enter f args) w,#[]):=by
 unfold AK at hc;simp only [Bool.and_eq_true,Bool.not_eq_true'] at hc;unfold callFunc;show (match P.funcs[f]? with | none=>_ | some fn=>_:Sem Next).runT P w #[]=_;rw [hf];simp only [];rw [aS (by rw [hc.1];simp),aS (by cases a:fn.body with | none=>rw [a] at hc;simp at hc | some c=>simp)];rfl
theorem VE{tys:Array aV}{ty:aV}{cs:Array Bool}{ch s r:Nat}{w:World}(hw:w.heap[ch]? =some (.chan 0 #[] false s r false)) :
  (invoke (.builtin .close tys ty cs) #[.chan (some ch)]).runT P w #[]=(.ok (.value (.tuple #[])) { w with heap:=w.heap.setIfInBounds ch (.chan 0 #[] true s r false) },#[⟨.obj ch,false,true⟩,⟨.obj ch,true,true⟩]):=by
 show ((do pure (.value (<-Builtin.close_ tys ty #[.chan (some ch)])):Sem Next)).runT P w #[]=_;show Sem.runT P (.getObj ch λo=>_) w #[]=_;unfold Sem.runT;rw [hw];show Sem.runT P (.setObj ch (.chan 0 #[] true s r false) _) w _=_;unfold Sem.runT;rw [hw];rfl
theorem VF{fn:FuncId}{ch:Nat}:seen P fn #[⟨.obj ch,false,true⟩,⟨.obj ch,true,true⟩]=#[⟨.obj ch,false,true⟩,⟨.obj ch,true,true⟩]:=by
 rw [seen_def];simp [seenStep]
theorem Xy{fn:Func}{c:Code}{s:E3 M}{ars cap args:Array aU}(hm:F.main=false)(hrd:F.rd=none)(ha:ars++cap=args)(hf:P.funcs[F.fn]? =some fn)(hc:AK fn=true)(hb:fn.body=some c)(hN:F.N=fn.ntmps)(hres:fn.results=#[])(hsz:args.size<=fn.ntmps)(hs:¬s.isDone)
  (x:Kc F c (some s) (λi=>args.getD i undef) [] h λi e O ds h=>(e=.normal\/e=.ret)/\∃ch tys ty cs,i=some (.close ch .done)/\ds=[KH tys ty cs ch]):FG P F.Rep F.W.K s false (born P { target:=.fn (.func F.fn) cap,args:=ars }) h:=by
 let a:Frame:={ (default:Frame) with fn:=P.funcs.size,defers:=[],mode:=.panicking [goexitEntry] };have m:∀s,(F.wk (some s)).K=Ed P false (Hk P F.Rep F.W.K s false):=λs=>by show Ed P F.main (Hk P F.Rep F.W.K s F.main)=_;rw [hm]
 rw [Gt hs];refine Kg _ _ _ _ rfl λw f=>⟨G (Frame.enter P F.fn args .deferred) [a],w,#[],h,?_,Bd.refl f,?_⟩
 ·subst ha;have n:(invoke (.fn (.func F.fn) cap) ars).runT P w #[]=(.ok (.enter F.fn (ars++cap)) w,#[]):=Rk hf hc w;show callDeferred P a [] none { target:=.fn (.func F.fn) cap,args:=ars } w=_;unfold callDeferred;rw [aS aD];simp only [n,seen_none];rfl
 have y:Frame.enter P F.fn args .deferred=CY (Frame.enter P F.fn args .deferred) (args++Array.replicate (fn.ntmps-args.size) undef) [] [.code c]:=by simp [Frame.enter,CY,hf,hb]
 rw [y,<-m s];let z:Option (E3 M)->Lv:=λi j t ds b=>(j=none\/j=some .ret)/\∃ch tys ty cs,i=some (.close ch .done)/\ds=[KH tys ty cs ch];have d:∀ch tys ty cs b t k,(F.wk (some (.close ch .done))).K (G (Da (Frame.enter P F.fn args .deferred) t [KH tys ty cs ch] k) [a]) b:=by
  intro ch tys ty cs b t k;rw [m];refine Ed.stop ⟨_,_,Da (Frame.enter P F.fn args .deferred) t [] k,[a],rfl,⟨λw s r _ A=>?_,rfl,?_⟩⟩
  ·have n:=VE (P:=P) (tys:=tys) (ty:=ty) (cs:=cs) A;show callDeferred P (Da (Frame.enter P F.fn args .deferred) t [] k) [a] none (KH tys ty cs ch) w=_;unfold callDeferred KH;rw [aS aD];simp only [n,VF];rfl
  ·refine ⟨2,.inr ⟨rfl,G a [],λw=>?_,.inr ⟨rfl,{ G a [] with status:=.finished },λw=>?_,rfl⟩⟩⟩
   ·show unwind P false (Da (Frame.enter P F.fn args .deferred) t [] k) [a] none w=_;have q:(Da (Frame.enter P F.fn args .deferred) t [] k).fn=F.fn:=rfl;have B:(Da (Frame.enter P F.fn args .deferred) t [] k).kind=.deferred:=rfl;have g:(Da (Frame.enter P F.fn args .deferred) t [] k).mode=.returning:=rfl;have u:(Da (Frame.enter P F.fn args .deferred) t [] k).defers=[]:=rfl;have C:∀t,(results fn t).runT P w #[]=(.ok (.tuple #[]) w,#[]):=λt=>by
     unfold results;rw [hres];simp only [Array.mapM_empty];rfl
    unfold unwind;simp only [u,g,q,hf,C,GStep.after,doReturn,B,seen_none];rfl
   ·show unwind P false a [] none w=_;have p:a.catches P=false:=by
     unfold Frame.catches
     have:P.funcs[a.fn]? =none:=Array.getElem?_eq_none (Nat.le_refl _)
     rw [this];rfl
    have u:a.defers=[]:=rfl;have g:a.mode=.panicking [goexitEntry]:=rfl;unfold unwind;simp only [u,g,p];rfl
 refine x (Frame.enter P F.fn args .deferred) [] [a] z _ rfl hrd.symm (λi=>⟨?_,?_,?_⟩) ⟨by rw [hN];simp;omega,λi=>?_⟩ ?_
 ·rintro t ds b ⟨_,ch,tys,ty,cs,rfl,rfl⟩;exact Wk.go (Da (Frame.enter P F.fn args .deferred) t _ []) (λw=>by rw [Ay];simp [stepG.exec,CY,Da,G,Frame.enter]) (d ch tys ty cs b t [])
 ·rintro t ds b k ⟨_,ch,tys,ty,cs,rfl,rfl⟩;exact Wk.go (Da (Frame.enter P F.fn args .deferred) t _ (.code .ret ::k)) (λw=>by rw [Ay];simp [stepG.exec,CY,Da,G,Frame.enter]) (d ch tys ty cs b t _)
 ·rintro id t ds b k _ ⟨h1 | h1,_⟩ <;> cases h1
 ·by_cases n:i<args.size
  ·simp [Array.getD_eq_getD_getElem?,Array.getElem?_append_left n]
  ·simp only [Array.getD_eq_getD_getElem?];rw [Array.getElem?_append_right Y,Array.getElem?_eq_none (show args.size<=i by omega),Array.getElem?_replicate];split <;> rfl
 ·rintro i e O ds b ⟨D,ch,tys,ty,cs,rfl,rfl⟩ v E;rcases D with rfl | rfl
  ·exact Wk.go (Da (Frame.enter P F.fn args .deferred) v _ []) (λw=>by rw [Ay];simp [stepG.exec,CY,Da,G,Frame.enter]) (d ch tys ty cs b v [])
  ·exact ⟨.inr rfl,ch,tys,ty,cs,rfl,rfl⟩
end
section
variable {P:Program} {M:Type} {Post:aU->World->Prop}
def L.Same(h h':L):Prop:=∀b p o,h b=some (p,o)->∃p',h' b=some (p',o)
theorem Hj.flags{g:Goroutine}{h h':L}{gs:Array Goroutine}{w:World}{q:Nat->Nat}{t:Trace}(B:Hj P g h gs w q t)(s:h'.Same h):Hj P g h' gs w q t:=
 { B with
  fits:=λb p o c=>by obtain ⟨d,x⟩:=s b p o c;exact B.fits b d o x
  chn:=λb p o k a c=>by obtain ⟨d,x⟩:=s b p o c;exact B.chn b d o k a x }
theorem Dj.flags{g:Goroutine}{h h':L}(s:h'.Same h)(x:Dj P Post g h'):Dj P Post g h:=λa w b q t B=>x a w b q t (B.flags s)
def VG(c:Nat)(s0:E3 M)(N:HR M):Prop:=0<N.n/\N.s 0=s0/\(∀j,0<j->j<N.n->N.s j=.done/\N.kn 0 j)/\N.cl c=false
theorem PE{Rep:Nat->M->aU->L->Prop}{g:Goroutine}{h:L}{c:Nat}{s0:E3 M}(hc:h c=some (true,.chan 0 #[] false 0 0 false))(good:∀N:HR M,VG c s0 N->GV (λx=>x=c) N)
  (d:FG P Rep (Dj P Post) s0 true g (h.delS λx=>x=c)):Dj P Post g h:=by
 intro l w S q t B;have m:(h.delS λx=>x=c).Same h:=λb p o y=>by
  by_cases e:b=c
  ·rw [L.delS_in (X:=λx=>x=c) e] at y;cases y
  ·rw [L.delS_ne (X:=λx=>x=c) e] at y;exact ⟨p,y⟩
 have B':=B.flags m;let N:HR M:={ n:=l.size,s:=λj=>if j=0 then s0 else .done,kn:=λi j=>i=0/\0<j,cl:=λ_=>false,ck:=λ_ _=>False };have r:0<l.size:=B.lt;obtain ⟨O,u⟩:=GE (cl:=N.cl) d;have hsits:∀i A,l[i]? =some A->M5 P Rep (Dj P Post) (N.s i) N.cl (i==0) A (only (h.delS λx=>x=c) i) (if i=0 then O else .leave (q i)):=by
  intro i A f;rcases Nat.eq_zero_or_pos i with rfl | hp
  ·have:=B.here;rw [f] at this;cases this
   simpa [N,only] using u
  ·have T:¬i=0:=Y
   have U:=B.old i A hp f;simp only [N,T,if_false];exact .leave (q i) rfl U
 have hparked:∀i (E:Goroutine) Q F,l[i]? =some (parked E Q F)->i=0:=λi E Q F f=>by
  rcases Nat.eq_zero_or_pos i with e | hp
  ·exact e
  ·rcases (B.old i _ hp f).status with e | e <;> cases e
 refine Zp (used:=λx=>x=c) (N:=N) (good N ⟨r,rfl,λj R W=>⟨aS Y,rfl,R⟩,rfl⟩) (λi=>if i=0 then O else .leave (q i)) l w S t (only (h.delS λx=>x=c))
  ⟨rfl,B'.HS,B'.TI,hsits,?_,?_,?_,?_,?_,?_⟩
 ·rintro C rfl;exact ⟨0,B.fits _ _ _ hc⟩
 ·rintro C i rfl f;unfold only;split
  ·exact L.delS_in rfl
  ·rfl
 ·rintro C k a rfl H hl;exact B.chn _ _ _ k a hc rfl H hl
 ·intro i j E gj C v z F z' sh' D K;obtain rfl:=hparked i _ _ _ D;obtain rfl:=hparked j _ _ _ K;rw [D] at K;exact Gk (Option.some.inj K).symm
 ·rintro i j f R ⟨rfl,hjp⟩;refine ⟨aS Y,λk a H _=>B.known k a H⟩
 ·rintro C rfl D;cases D
def N8(W:Wk P):Prop:=∃Post:aU->World->Prop,W.K=Dj P Post
variable {F:PD P M} {i:Option (E3 M)} {O:Nat->aU} {ds:List Deferred} {h:L} {Q:TE M}
theorem trI_net{c:Code}{s0:E3 M}{ch:Nat}(hm:F.main=true)(hW:N8 F.W)(hc:h ch=some (true,.chan 0 #[] false 0 0 false))(hs:¬s0.isDone)(good:∀N:HR M,VG ch s0 N->GV (λx=>x=ch) N)
  (x:Kc F c (some s0) O ds (h.delS λx=>x=ch) Q):Kc F c none O ds h Q:=by
 intro b k d e t f g j l m
 have:=x b k d e t f g j l m
 obtain ⟨Post,a⟩:=hW;show F.W.K _ _;rw [a];refine PE (Rep:=F.Rep) hc good ?_;rw [Gt hs];unfold PD.wk at this;simp only [hm,a] at this;exact this
theorem trI_out{c:Code}{h0:L}(hW:N8 F.W)(hs:h0.Same h)(x:Kc F c none O ds (h0.join h) Q):Kc F c (some .stop) O ds h Q:=by
 intro b k e f t a g j l m
 have:=x b k e f t a g j l m
 obtain ⟨Post,n⟩:=hW;refine Ed.stop ?_;show F.W.K _ _;have d:F.W.K _ _:=this;rw [n] at d ⊢;refine d.flags λb p o a=>?_;rcases hj:h0 b with _ | ⟨q,r⟩
 ·unfold L.join at a;rw [hj] at a;exact ⟨p,a⟩
 ·unfold L.join at a;rw [hj] at a;cases a;exact hs b p o hj
def L.ro(h:L):L:=λb=>(h b).map λx=>(false,x.2)
theorem L.ro_some{h:L}{b:Nat}{p:Bool}{o:Obj}(hb:h b=some (p,o)):h.ro b=some (false,o):=by unfold L.ro;rw [hb];rfl
theorem L.ro_inv{h:L}{b:Nat}{p:Bool}{o:Obj}(hb:h.ro b=some (p,o)):p=false/\∃p',h b=some (p',o):=by
 unfold L.ro at hb;cases e:h b with
 | none=>rw [e] at hb;cases hb
 | some x=>rw [e] at hb;obtain ⟨p',a⟩:=x;cases hb;exact ⟨rfl,p',rfl⟩
theorem L.split_ro(h:L):L.Split h h.ro h.ro where
 left:=λb p o a=>by obtain ⟨rfl,c,x⟩:=L.ro_inv a;exact ⟨c,x,λe=>by cases e⟩
 right:=λb p o a=>by obtain ⟨rfl,c,x⟩:=L.ro_inv a;exact ⟨c,x,λe=>by cases e⟩
 one:=λr o x a=>by cases (L.ro_inv a).1
 two:=λr o x a=>by cases (L.ro_inv a).1
theorem L.same_ro(h:L):h.Same h.ro:=λ_ _ _ a=>⟨false,L.ro_some a⟩
theorem L.Same.trans{a b c:L}(x:a.Same b)(y:b.Same c):a.Same c:=λr p o d=>by obtain ⟨e,z⟩:=x r p o d;exact y r e o z
theorem L.Le.same{a b:L}(x:a.Le b):a.Same b:=λr p o c=>⟨p,x.keep c rfl⟩
theorem L.le_join(a b:L):a.Le (a.join b):=λr p o c=>⟨o,by unfold L.join;rw [c],.inl rfl⟩
theorem L.Same.join{a b:L}(s:a.Same b):b.Same (a.join b):=λr p o c=>by
 unfold L.join;cases e:a r with
 | none=>exact ⟨p,c⟩
 | some x=>obtain ⟨d,f⟩:=x;obtain ⟨g,y⟩:=s r d f e;rw [c] at y;cases y;exact ⟨d,rfl⟩
theorem AX.flags{h h':L}(s:h.Same h'){b off n:Nat}{vs:Array aU}(x:AX h b off n vs):AX h' b off n vs:=by
 obtain ⟨p,c,t,f,y,z⟩:=x;obtain ⟨a,d⟩:=s _ _ _ y;exact ⟨a,c,t,f,d,z⟩
theorem AJ.flags{U:Type}{h h':L}(s:h.Same h'){v:aU}{n:Nat}{enc:U->Array aU}{xs:List U}(x:AJ h v n enc xs):AJ h' v n enc xs:=by
 obtain ⟨a,c,e,f,g,j⟩:=x;refine ⟨a,c,e,f,g,λi k=>?_⟩;obtain ⟨b,d,l,m⟩:=j i k;exact ⟨b,d,l,m.flags s⟩
end
section
variable {M:Type} [DecidableEq M]
def H9(c:Nat):List M->E3 M
 | []=>.close c .done
 | m ::ms=>.send c m (H9 c ms)
def LE:Option M->E3 M
 | none=>.stop
 | some _=>.never
def GN(m:M)(nx:E3 M):Option M->E3 M
 | some m'=>if m'=m then nx else .never
 | none=>.never
def JE(c:Nat):List M->E3 M
 | []=>.recv c LE
 | m ::ms=>.recv c (GN m (JE c ms))
structure TwoN(c k:Nat)(ms:List M)(N:HR M):Prop where
 n:N.n=k+1
 pos:0<k
 main:N.s 0=JE c ms
 child:N.s k=H9 c ms
 rest:∀j,0<j->j<k->N.s j=.done/\N.kn 0 j
 cl:N.cl c=false
theorem Xz{c k:Nat}:∀{ms:List M}{N:HR M},TwoN c k ms N->GV (λx=>x=c) N:=by
 intro ms
 induction ms with
 | nil=>
  intro N T;have C:=T.pos;refine .plain N (by rw [T.n];omega) ⟨_,.shut (i:=k) (c:=c) (nx:=.done) (by rw [T.n];omega) T.child⟩ (λi d=>?_) (λN' u=>?_) (λi f d a=>?_)
  ·rcases Nat.eq_zero_or_pos i with rfl | hp
   ·rw [T.main];rfl
   ·rcases Nat.lt_or_ge i k with hl | hl
    ·rw [(T.rest i hp hl).1];show i≠0;omega
    ·obtain rfl:i=k:=by have:=T.n;omega
     rw [T.child];exact ⟨rfl,T.cl⟩
  ·have b:∀i,i<N.n->i=0\/i=k\/N.s i=.done:=λi d=>by
    rcases Nat.eq_zero_or_pos i with e | hp
    ·exact .inl e
    ·rcases Nat.lt_or_ge i k with hl | hl
     ·exact .inr (.inr (T.rest i hp hl).1)
     ·exact .inr (.inl (by have:=T.n;omega))
   have o:N.s 0=.recv c LE:=T.main;have l:N.s k=.close c .done:=T.child;cases u with
   | hire d a=>rcases b _ d with rfl | rfl | e <;> simp_all
   | meet d g v a h=>rcases b _ d with rfl | rfl | e <;> simp_all
   | hear g a q=>
    rcases b _ g with rfl | rfl | e
    ·rw [o] at a;cases a;rw [T.cl] at q;cases q
    ·rw [l] at a;cases a
    ·rw [e] at a;cases a
   | @shut i D nx d a=>
    rcases b _ d with rfl | rfl | e
    ·rw [o] at a;cases a
    ·rw [l] at a;cases a;refine .plain _ (by show 0<N.n;rw [T.n];omega) ⟨_,.hear (j:=0) (c:=c) (f:=_) (by show 0<N.n;rw [T.n];omega) (by show (if 0=i then _ else N.s 0)=_;rw [aS Y];exact o) (by show (if c=c then true else _)=true;rw [aT rfl])⟩ (λj g=>?_) (λN'' u=>?_) (λj f g E=>?_)
     ·have g:j<N.n:=g;show Iz _ _ j (if j=i then _ else N.s j);by_cases e:j=i
      ·rw [aT e];show j≠0;omega
      ·rw [aS e];rcases b j g with rfl | rfl | e'
       ·rw [o];rfl
       ·exact absurd rfl e
       ·rw [e'];show j≠0;rintro rfl;rw [o] at e';cases e'
     ·have h:∀j,j<N.n->j≠0->(N.shut i c .done).s j=.done:=λj g y=>by
       show (if j=i then _ else N.s j)=_;by_cases e:j=i
       ·rw [aT e]
       ·rw [aS e];rcases b j g with rfl | rfl | e'
        ·exact absurd rfl y
        ·exact absurd rfl e
        ·exact e'
      have z:(N.shut i c .done).s 0=.recv c LE:=by show (if 0=i then _ else N.s 0)=_;rw [aS Y];exact o
      have p:∀j,j<N.n->j=0\/(N.shut i c .done).s j=.done:=λj g=>(Nat.eq_zero_or_pos j).imp id λhp=>h j g Y;cases u with
      | hire d a=>rcases p _ d with rfl | e <;> simp_all
      | meet d g v a h=>rcases p _ d with rfl | e <;> simp_all
      | shut d a=>rcases p _ d with rfl | e <;> simp_all
      | @hear j D f g a q=>
       rcases p _ g with rfl | e
       ·rw [z] at a;cases a;refine .stop _ _ (by show 0<N.n;rw [T.n];omega) (show (if 0=0 then LE none else (N.shut i c .done).s 0)=E3.stop from rfl) λj g t=>⟨?_,?_⟩
        ·show (if j=0 then _ else (N.shut i c .done).s j)=_;rw [aS Y];exact h j t Y
        ·simp only [HR.hear,HR.shut,if_true];show N.kn 0 j\/N.kn i j\/(j=i/\True);rcases Nat.lt_or_ge j i with hl | hl
         ·exact .inl (T.rest j g hl).2
         ·have t:j<N.n:=t;exact .inr (.inr ⟨by have:=T.n;omega,trivial⟩)
       ·rw [e] at a;cases a
     ·have r:(if j=i then E3.done else N.s j)=.make f:=E;split at r
      ·cases r
      ·rcases b j g with rfl | rfl | e'
       ·rw [o] at r;cases r
       ·rename_i e;exact absurd rfl e
       ·rw [e'] at r;cases r
    ·rw [e] at a;cases a
  ·rcases Nat.eq_zero_or_pos i with rfl | hp
   ·rw [T.main] at a;cases a
   ·rcases Nat.lt_or_ge i k with hl | hl
    ·rw [(T.rest i hp hl).1] at a;cases a
    ·obtain rfl:i=k:=by have:=T.n;omega
     rw [T.child] at a;cases a
 | cons m ms F=>
  intro N T;have C:=T.pos;have l:N.s k=.send c m (H9 c ms):=T.child;have o:N.s 0=.recv c (GN m (JE c ms)):=T.main;have b:∀i,i<N.n->i=0\/i=k\/N.s i=.done:=λi d=>by
   rcases Nat.eq_zero_or_pos i with e | hp
   ·exact .inl e
   ·rcases Nat.lt_or_ge i k with hl | hl
    ·exact .inr (.inr (T.rest i hp hl).1)
    ·exact .inr (.inl (by have:=T.n;omega))
  refine .plain N (by rw [T.n];omega) ⟨_,.meet (i:=k) (j:=0) (by rw [T.n];omega) (by rw [T.n];omega) Y l o⟩ (λi d=>?_) (λN' u=>?_) (λi f d a=>by rcases b i d with rfl | rfl | e <;> simp_all)
  ·rcases b i d with rfl | rfl | e
   ·rw [o];rfl
   ·rw [l];exact ⟨rfl,T.cl⟩
   ·rw [e];show i≠0;rintro rfl;rw [o] at e;cases e
  ·cases u with
   | hire d a=>rcases b _ d with rfl | rfl | e <;> simp_all
   | shut d a=>rcases b _ d with rfl | rfl | e <;> simp_all
   | hear g a q=>
    rcases b _ g with rfl | rfl | e
    ·rw [o] at a;cases a;rw [T.cl] at q;cases q
    ·rw [l] at a;cases a
    ·rw [e] at a;cases a
   | @meet i j D H nx f d g v a h=>
    have A:i=k:=by
     rcases b _ d with rfl | rfl | e
     ·rw [o] at a;cases a
     ·rfl
     ·rw [e] at a;cases a
    have B:j=0:=by
     rcases b _ g with rfl | rfl | e
     ·rfl
     ·rw [l] at h;cases h
     ·rw [e] at h;cases h
    subst A B;rw [l] at a;cases a;rw [o] at h;cases h;refine F ⟨T.n,C,?_,?_,λj g w=>⟨?_,?_⟩,T.cl⟩
    ·show (if 0=i then _ else if 0=0 then _ else N.s 0)=_;rw [aS Y,aT rfl];show (if m=m then _ else _)=_;rw [aT rfl]
    ·show (if i=i then _ else _)=_;rw [aT rfl]
    ·show (if j=i then _ else if j=0 then _ else N.s j)=_;rw [aS Y,aS Y];exact (T.rest j g w).1
    ·simp only [HR.meet,or_true,if_true];exact .inr (.inl (T.rest j g w).2)
theorem VH{c:Nat}{ms:List M}{N:HR M}(S:VG c (.spawn (H9 c ms) (JE c ms)) N):GV (λx=>x=c) N:=by
 obtain ⟨o,m,p,g⟩:=S;have a:∀i,i<N.n->i=0\/N.s i=.done:=λi b=>(Nat.eq_zero_or_pos i).imp id λq=>(p i q b).1;refine .plain N o ⟨_,.hire o m⟩ (λi b=>?_) (λN' r=>?_) (λi f b d=>by rcases a i b with rfl | e <;> simp_all)
 ·rcases a i b with rfl | e
  ·rw [m];trivial
  ·rw [e];show i≠0;rintro rfl;rw [m] at e;cases e
 ·cases r with
  | meet b h t d u=>rcases a _ b with rfl | e <;> simp_all
  | shut b d=>rcases a _ b with rfl | e <;> simp_all
  | hear h d g=>rcases a _ h with rfl | e <;> simp_all
  | @hire i v w b d=>
   rcases a _ b with rfl | e
   ·rw [m] at d;cases d;refine Xz (k:=N.n) (ms:=ms) ⟨rfl,o,?_,?_,λj h l=>⟨?_,?_⟩,g⟩
    ·show (if 0=N.n then _ else if 0=0 then _ else _)=_;rw [aS Y,aT rfl]
    ·show (if N.n=N.n then _ else _)=_;rw [aT rfl]
    ·show (if j=N.n then _ else if j=0 then _ else N.s j)=_;rw [aS Y,aS Y];exact (p j h l).1
    ·show (if j=N.n then False else if 0=N.n then _ else N.kn 0 j);rw [aS Y,aS Y];exact (p j h l).2
   ·rw [e] at d;cases d
omit [DecidableEq M] in
theorem Pv(c:Nat)(ms:List M):¬(H9 c ms).isDone:=by cases ms <;> exact id
theorem Pw(c:Nat)(ms:List M):¬(JE c ms).isDone:=by cases ms <;> exact id
end
end Go.Ns
namespace Go.Ns
open Go.Conc
section
variable (d m:Int) (gs:List Good) (ms:List AG) (cs:List AP)
def LF(mask:Nat):Option (List Int):=if DR d gs ms (Cg cs (mask:Int) cs.length) m=true then none else some (BJ (mask:Int) cs.length)
def Cz(k f:Nat):List (List Int):=(List.range' k f).filterMap (LF d m gs ms cs)
def D2:List (List Int):=Cz d m gs ms cs 0 (2 ^ cs.length)
def EV:Int:=if Au d m gs ms cs=0 then (if DR d gs ms cs m=true then 0 else if DR d gs ms (Cg cs 0 cs.length) m=true then 0 else 8) else Au d m gs ms cs
def Fh:List Int:=if Au d m gs ms cs=0/\DR d gs ms cs m=false/\DR d gs ms (Cg cs 0 cs.length) m=true then Ir ((D2 d m gs ms cs).getD 0 []) ((D2 d m gs ms cs).drop 1) else []
end
section
variable {d m:Int} {gs:List Good} {ms:List AG} {cs:List AP}
theorem N9{k f:Nat}(h:DR d gs ms (Cg cs (k:Int) cs.length) m=true):Cz d m gs ms cs k (f+1)=Cz d m gs ms cs (k+1) f:=by
 unfold Cz LF;rw [List.range'_succ,List.filterMap_cons];simp [h]
theorem OA{k f:Nat}(h:DR d gs ms (Cg cs (k:Int) cs.length) m=false):Cz d m gs ms cs k (f+1)=BJ (k:Int) cs.length ::Cz d m gs ms cs (k+1) f:=by
 unfold Cz LF;rw [List.range'_succ,List.filterMap_cons];simp [h]
theorem VI{n i:Nat}(hn:n<=4)(hi:i<n):G5 ((2 ^ n-1:Nat):Int) i=true:=by
 have h:∀n,n<=4->∀i,i<n->G5 ((2 ^ n-1:Nat):Int) i=true:=aC
 exact h n hn i hi
theorem VJ{U:Type}(l:List U)(z:U):(List.range l.length).map (λi=>l.getD i z)=l:=by
 apply List.ext_getElem
 ·simp
 ·intro i b a;simp [List.getD_eq_getElem?_getD,List.getElem?_eq_getElem a]
theorem VK(h:cs.length<=4):Cg cs ((2 ^ cs.length-1:Nat):Int) cs.length=cs:=by
 unfold Cg;rw [List.filter_eq_self.2 λi a=>VI h (List.mem_range.1 a)];exact VJ cs AP.z
theorem TJ(hcl:cs.length<=4)(h:DR d gs ms cs m=false):D2 d m gs ms cs≠[]:=by
 intro e;unfold D2 Cz at e;rw [List.filterMap_eq_nil_iff] at e;have a:0<2 ^ cs.length:=Nat.pow_pos aC
 have:=e (2 ^ cs.length-1) (List.mem_range'.2 ⟨2 ^ cs.length-1,Y,Y⟩)
 unfold LF at this;rw [VK hcl,aS (by rw [h];simp)] at this;cases this
theorem Rn(hcl:cs.length<=4):(D2 d m gs ms cs).length<=16:=by
 unfold D2 Cz;refine Nat.le_trans (List.length_filterMap_le _ _) ?_;rw [List.length_range'];exact Nat.pow_le_pow_right (n:=2) aC hcl
theorem PG(h:¬Au d m gs ms cs=0):EV d m gs ms cs=Au d m gs ms cs:=by unfold EV;rw [aS h]
theorem VL(h:¬Au d m gs ms cs=0):Fh d m gs ms cs=[]:=by unfold Fh;rw [aS (λe=>h e.1)]
theorem OB(h:Au d m gs ms cs=0)(h1:DR d gs ms cs m=true):EV d m gs ms cs=0:=by unfold EV;rw [aT h,aT h1]
theorem TK(h1:DR d gs ms cs m=true):Fh d m gs ms cs=[]:=by unfold Fh;rw [aS (λe=>by rw [h1] at e;cases e.2.1)]
theorem Mw(h:Au d m gs ms cs=0)(h1:DR d gs ms cs m=false)(h2:DR d gs ms (Cg cs 0 cs.length) m=false):EV d m gs ms cs=8:=by
 unfold EV;rw [aT h,aS (by rw [h1];simp),aS (by rw [h2];simp)]
theorem Ro(h2:DR d gs ms (Cg cs 0 cs.length) m=false):Fh d m gs ms cs=[]:=by unfold Fh;rw [aS (λe=>by rw [h2] at e;cases e.2.2)]
theorem Rp(h:Au d m gs ms cs=0)(h1:DR d gs ms cs m=false)(h2:DR d gs ms (Cg cs 0 cs.length) m=true):EV d m gs ms cs=0:=by
 unfold EV;rw [aT h,aS (by rw [h1];simp),aT h2]
theorem X2{fl:List Sl}(h:Au d m gs ms cs=0)(h1:DR d gs ms cs m=false)(h2:DR d gs ms (Cg cs 0 cs.length) m=true)(hcl:cs.length<=4)(hfl:CG fl=D2 d m gs ms cs) :
  0<fl.length/\Fh d m gs ms cs=Ir (fl.getD 0 Sl.z).2 (CG (fl.drop 1)):=by
 have b:=TJ (d:=d) (gs:=gs) (ms:=ms) hcl h1;have a:0<fl.length:=by
  rw [<-C2,hfl];exact List.length_pos_iff.2 b
 refine ⟨a,?_⟩;unfold Fh;rw [aT ⟨h,h1,h2⟩,<-hfl,FL a];congr 1;unfold CG;rw [List.map_drop]
end
theorem B5.pick{d m:Int}{gs:List Good}{ms:List AG}{cs:List AP}(b:B5 d m gs ms cs)(mask:Int):B5 d m gs ms (Cg cs mask cs.length):=
 { b with
  clen:=Nat.le_trans (Pn cs mask _) b.clen
  count:=λk f=>by
   have a:=E7 (d:=AP.z) f;generalize g:(Cg cs mask cs.length).getD k AP.z=x at a;unfold Cg at a;obtain ⟨i,h,e⟩:=List.mem_map.1 a;have c:=List.mem_range.1 (List.mem_filter.1 h).1
   have:=b.count i c
   unfold HW at this ⊢;rw [g,<-e];exact this }
theorem CA.flags{h h':L}{l:List Sl}(s:h.Same h')(a:CA h l):CA h' l:=λk=>(a k).flags s
def RepL:Nat->List Int->aU->L->Prop:=λ_ l v hm=>AJ hm v 1 eI l
def L.part(h:L)(v:aU):L:=λb=>if Bv v=some b then h b else none
def L.rest(h:L)(v:aU):L:=λb=>if Bv v=some b then none else h b
theorem L.split_part(h:L)(v:aU):L.Split h (h.rest v) (h.part v) where
 left:=λb p o a=>by
  unfold L.rest at a;split at a
  ·cases a
  ·exact ⟨p,a,id⟩
 right:=λb p o a=>by
  unfold L.part at a;split at a
  ·exact ⟨p,a,id⟩
  ·cases a
 one:=λr o x c d=>by
  unfold L.rest at c;unfold L.part at d;split at c
  ·cases c
  ·rename_i e;rw [aS e] at d;cases d
 two:=λr o x c d=>by
  unfold L.rest at d;unfold L.part at c;split at d
  ·cases d
  ·rename_i e;rw [aS e] at c;cases c
theorem AN.part{U:Type}{h0 h:L}{v:aU}{t:aV}{n:Nat}{enc:U->Array aU}{xs:List U}(x:AN h0 h v t n enc xs):AJ (h.part v) v n enc xs:=
 AN.sl (h0:=h0) (x.keep λb o a c=>by unfold L.part;rw [aT a];exact c)
theorem AN.le_rest{U:Type}{h0 h hb:L}{v:aU}{t:aV}{n:Nat}{enc:U->Array aU}{xs:List U}(x:AN h0 h v t n enc xs)(l:hb.Le h)(l0:hb.Le h0):hb.Le (h.rest v):=λb p o a=>by
 unfold L.rest;rw [aS]
 ·exact l b p o a
 ·intro e;rcases x with ⟨rfl,_⟩ | ⟨d,f,c,rfl,f0,_⟩
  ·cases e
  ·have:d=b:=by simpa [Bv] using e
   subst this
   have:=l0.keep a rfl
   rw [f0] at this;cases this
theorem AJ.join{U:Type}{h hm:L}{v:aU}{n:Nat}{enc:U->Array aU}{xs:List U}(x:AJ hm v n enc xs)(c:h.Compat hm):AJ (h.join hm) v n enc xs:=x.flags λb p o a=>by
 unfold L.join;cases e:h b with
 | none=>exact ⟨p,a⟩
 | some y=>obtain ⟨q,d⟩:=y;obtain ⟨rfl,rfl,rfl⟩:=c b q d p o e a;exact ⟨false,rfl⟩
theorem L.Compat.le{a h hm:L}(l:a.Le h)(c:h.Compat hm):a.Compat hm:=λb p o q d x y=>c b p o q d (l.keep x rfl) y
theorem L.Le.joins{a h hm:L}(l:a.Le h)(c:h.Compat hm):(a.join hm).Le (h.join hm):=λb p o d=>by
 unfold L.join at d ⊢;cases e:a b with
 | some x=>rw [e] at d;cases d;rw [l.keep e rfl];exact ⟨o,rfl,.inl rfl⟩
 | none=>
  rw [e] at d;cases f:h b with
  | none=>exact ⟨o,d,.inl rfl⟩
  | some y=>obtain ⟨q,g⟩:=y;obtain ⟨rfl,rfl,rfl⟩:=c b q g p o f d;exact ⟨_,rfl,.inl rfl⟩
theorem AN.joins{U:Type}{h0 h hm:L}{v:aU}{t:aV}{n:Nat}{enc:U->Array aU}{xs:List U}(x:AN h0 h v t n enc xs)(c:h.Compat hm):AN (h0.join hm) (h.join hm) v t n enc xs:=by
 rcases x with x | ⟨b,a,d,rfl,f0,f1,f2⟩
 ·exact .inl x
 ·refine .inr ⟨b,a,d,rfl,?_,?_,f2⟩
  ·unfold L.join;rw [f0];cases e:hm b with
   | none=>rfl
   | some y=>obtain ⟨q,f⟩:=y;have:=(c b _ _ q f f1 e).1;cases this
  ·unfold L.join;rw [f1]
section
variable {P:Program} {M:Type} {F:PD P M} {i i':Option (E3 M)} {O:Nat->aU} {ds:List Deferred} {h:L} {Q:TE M}
theorem trI_ix{c:Code}(e:i=i')(x:Kc F c i' O ds h Q):Kc F c i O ds h Q:=e▸x
theorem XI{ops:Array Oper}{l:List Oper}(e:i=i')(x:LB F ops l i' O ds h Q):LB F ops l i O ds h Q:=e▸x
theorem X3{c:Code}{Q:Post}(x:Kc F c none O ds h λi e O ds h=>i=none/\Q e O ds h):Tr ⟨F.W,F.fn,F.rd,F.N⟩ c O ds h Q:=by
 intro b k f g t j l m n o;refine x b k f (λi=>match i with | none=>g | some _=>λ_ _ _ _=>False) t j l (λi=>?_) n λi e σ' a p q r d=>?_
 ·cases i with
  | none=>exact m
  | some s=>exact ⟨λ_ _ _ x=>x.elim,λ_ _ _ _ x=>x.elim,λ_ _ _ _ _ _ x=>x.elim⟩
 ·obtain ⟨rfl,q⟩:=q;exact o e σ' a p q r d
theorem trI_end{c:Code}{Q:Post}(x:Tr (F.env none) c O ds h Q):Kc F c none O ds h λi e O ds h=>i=none/\Q e O ds h:=
 H8 (JU (λ_ _ _ _ q=>⟨rfl,q⟩) x)
variable {dst:Option Nat} {ty:aV} {pos:String} {af:Array Edge} {gd:Option (Nat×Bool)}
theorem run_send{a x:Operand}{c:Nat}{v:aU}(ha:AL O a=.chan (some c))(hx:AL O x=v)(w:World):(execOp (AL O) ⟨dst,.send a x,ty,pos,af,gd⟩).runT P w #[]=(.ok (.comm #[scase c v (.tuple #[])] true .send) w,#[]):=by
 subst hx;show (Result.ok (Next.comm #[{ chan:=AL O a,send:=some (AL O x),zero:=.tuple #[] }] true .send) w,#[])=_;rw [ha];rfl
theorem run_recv{a:Operand}{c:Nat}{t e:aV}{d:ChanDir}{ok:Bool}{z:aU}{inf:TypeInfo}(ht:P.underlying t=some (.chan d e))(hi:P.info? e=some inf)(hz:inf.zero=some z)(ha:AL O a=.chan (some c))(w:World) :
  (execOp (AL O) ⟨dst,.recv t a ok,ty,pos,af,gd⟩).runT P w #[]=(.ok (.comm #[rcase c z] true (.recv ok)) w,#[]):=by
 have b:(zeroValue e).run P w=.ok z w:=by
  unfold zeroValue typeInfo;simp only [Sem.run_bind,program,hi];simp [Sem.run,hi,hz]
 have f:(underlying t).run P w=.ok (.chan d e) w:=run_underlying ht w;rw [Sem.runT_eq];unfold execOp;simp [b,f,ha,rcase]
theorem Px{a:Operand}{c:Nat}{t e:aV}{d:ChanDir}{ok:Bool}{z:aU}(ht:P.underlying t=some (.chan d e))(hz:(P.info? e).map (·.zero)=some (some z))(ha:AL O a=.chan (some c))(w:World) :
  (execOp (AL O) ⟨dst,.recv t a ok,ty,pos,af,gd⟩).runT P w #[]=(.ok (.comm #[rcase c z] true (.recv ok)) w,#[]):=by
 obtain ⟨b,f,g⟩:=Option.map_eq_some_iff.1 hz;exact run_recv ht f g ha w
theorem run_go{x:Operand}{f:Fn}{cap:Array aU}{tys:Array aV}(hx:AL O x=.func f #[] cap)(w:World):(execOp (AL O) ⟨dst,.go ⟨.value x,#[],tys⟩,ty,pos,af,gd⟩).runT P w #[]=(.ok (.spawn { target:=.fn f cap,args:=#[] }) w,#[]):=by
 have e:resolve (AL O) ⟨.value x,#[],tys⟩ ty=(pure { target:=.fn f cap,args:=#[] }:Sem Deferred):=by
  unfold resolve;simp only [hx,Deferred.ofValue];simp
 unfold execOp;simp only [e];rfl
variable {E:Fl P} {T:(Nat->aU)->List Deferred->L->Prop}
theorem TL{t e:aV}{d:ChanDir}{n:Operand}(ht:P.underlying t=some (.chan d e))(hi0:(P.info? e).isSome=true)(hn:AL O n=.int .i64 0)
  (k:∀r h',h r=none->h.Le h'->h' r=some (true,.chan 0 #[] false 0 0 false)->(∀b,b≠r->h' b=h b)->T (putS O dst (.chan (some r))) ds h'):BS E ⟨dst,.makeChan t n,ty,pos,af,gd⟩ O ds h T:=by
 unfold BS execOp;refine E6 ?_;unfold Instr.makeChan;rw [hn];refine AE _ _ (At ?_);refine AE _ _ (Ai ht ?_);simp only [];obtain ⟨c,f⟩:=Option.isSome_iff_exists.1 hi0;refine AE _ _ (Cr f ?_);rw [aS (by simp [IntKind.max];decide)];refine AE _ _ ?_;exact λr a=>k r _ a (L.Le.new a _ _) (L.set_same _ _ _ _) λb g=>L.set_ne _ _ _ g
theorem trL_def{ops:Array Oper}{l:List Oper}{o:Oper}{Q:Post}(hg:o.guard=none)(hrd:E.rd=none)(hd:DI o.dst E.N=true)(x:BS E o O ds h λσ' ds' h'=>DH E ops l σ' ds' h' Q):DH E ops (o ::l) O ds h Q:=
 Zl hg (.inl hrd) hd x
theorem PH{x:Operand}{c:Nat}{tys:Array aV}{bs:Array Bool}(hx:AL O x=.chan (some c))(hb:(#[x].map fun | .const _=>true | _=>false)=bs)(k:T (putS O dst undef) (KH tys ty bs c ::ds) h) :
  BS E ⟨dst,.defer ⟨.builtin .close,#[x],tys⟩,ty,pos,af,gd⟩ O ds h T:=by
 unfold BS execOp;simp only [];refine AE _ _ ?_;unfold resolve;simp only [];refine At (At ?_);have e:(#[x].map (AL O):Array aU)=#[.chan (some c)]:=by simp [hx]
 rw [e];subst hb;exact k
end
section
variable {d m:Int} {gs:List Good} {ms:List AG} {cs:List AP} {k c:Nat}
theorem VM(hk:k<2 ^ cs.length)(h:DR d gs ms (Cg cs (k:Int) cs.length) m=true) :
  some (H9 c (Cz d m gs ms cs k (2 ^ cs.length-k)))=some (H9 c (Cz d m gs ms cs (k+1) (2 ^ cs.length-(k+1)))):=by
 rw [show 2 ^ cs.length-k=(2 ^ cs.length-(k+1))+1 by omega,N9 h]
theorem VN(hk:k<2 ^ cs.length)(h:DR d gs ms (Cg cs (k:Int) cs.length) m=false) :
  some (H9 c (Cz d m gs ms cs k (2 ^ cs.length-k)))=some (.send c (BJ (k:Int) cs.length) (H9 c (Cz d m gs ms cs (k+1) (2 ^ cs.length-(k+1))))):=by
 rw [show 2 ^ cs.length-k=(2 ^ cs.length-(k+1))+1 by omega,OA h];rfl
theorem X4(hk:2 ^ cs.length<=k):some (H9 c (Cz d m gs ms cs k (2 ^ cs.length-k)))=some (.close c .done):=by
 rw [show 2 ^ cs.length-k=0 by omega];rfl
theorem TM(h:(k:Int)<(2:Int) ^ ((cs.length:Int)).toNat):k<2 ^ cs.length:=by
 have:=Rj cs.length
 rw [Int.toNat_natCast] at h;omega
theorem clash_ge(h:¬(k:Int)<(2:Int) ^ ((cs.length:Int)).toNat):2 ^ cs.length<=k:=by
 have:=Rj cs.length
 rw [Int.toNat_natCast] at h;omega
end
end Go.Ns
namespace Go.Ns
theorem TN{d m:Int}{gs:List Good}{ms:List AG}{cs:List AP}(b:B5 d m gs ms cs):Au d m gs ms cs=0:=by
 unfold Au;refine FP λj _ a=>?_
 have:j=0\/j=1\/j=2\/j=3:=Y
 rcases this with rfl | rfl | rfl | rfl
 ·show GI d m=0;unfold GI;have:=b.days;have:=b.most;rw [aS Y]
 ·show Dz gs=0;unfold Dz;have:=b.glen;rw [aS Y];exact FP λj _ a=>b.good j Y
 ·show DN d gs ms=0;unfold DN;have:=b.mlen;rw [aS Y];exact FP λj _ a=>b.move j Y
 ·show Dm d gs cs=0;unfold Dm;have:=b.clen;rw [aS Y];exact FP λj _ a=>b.count j Y
section
variable {d m:Int} {gs:List Good} {ms:List AG} {cs:List AP}
end
section
variable {d m:Int} {gs:List Good} {ms:List AG} {cs:List AP} {picks:List Int} {bits:Int}
end
end Go.Ns
namespace Go.Ns
open Go.Conc
section
variable {P:Program} {E:Fl P} {O:Nat->aU} {ds:List Deferred} {h:L} {T:(Nat->aU)->List Deferred->L->Prop} {dst:Option Nat} {ty:aV} {pos:String} {af:Array Edge} {gd:Option (Nat×Bool)}
end
section
variable {d m:Int} {gs:List Good} {ms:List AG} {cs:List AP}
end
theorem CA.cons{h:L}{l:List Sl}{v:aU}{xs:List Int}(a:AJ h v 1 eI xs)(b:CA h l):CA h ((v,xs) ::l):=λk=>by
 cases k with
 | zero=>exact a
 | succ k=>exact b k
theorem VO{a b:List Sl}{k:Nat}(h:(CG a).take k=(CG b).take k)(ha:k<a.length)(hb:k<b.length)(e:(a.getD k Sl.z).2=(b.getD k Sl.z).2):(CG a).take (k+1)=(CG b).take (k+1):=
 Nf [] h (by rw [C2];exact ha) (by rw [C2];exact hb) (by rw [FL ha,FL hb,e])
theorem X5{a b:List Sl}{k:Nat}(h:(CG a).take k=(CG b).take k)(hk:¬(k:Int)<a.length)(hl:(a.length:Int)=b.length):CG a=CG b:=by
 rw [List.take_of_length_le (by rw [C2];omega),List.take_of_length_le (by rw [C2];omega)] at h;exact h
theorem lists_ne{a b:List Sl}(h:¬(a.length:Int)=b.length):¬CG a=CG b:=λe=>h (by rw [<-C2,<-C2,e])
theorem VP{a b:List Sl}{k:Nat}(ha:k<a.length)(hb:k<b.length)(e:¬(a.getD k Sl.z).2=(b.getD k Sl.z).2):¬CG a=CG b:=λq=>e (by rw [<-FL ha,<-FL hb,q])
end Go.Ns
namespace Go.Ns
open Go.Conc
def DM:List Good:=[⟨⟨#[116,101,97]⟩,5,4,3,3⟩,⟨⟨#[114,105,99,101]⟩,2,10,5,6⟩]
def DT:List AG:=[⟨0,0,2,4,4⟩,⟨1,0,3,2,3⟩,⟨2,1,4,0,1⟩,⟨0,1,5,10,10⟩]
def DU:List AP:=[⟨0,10,4,5⟩,⟨1,10,5,5⟩]
theorem D3:∀k,(DM.getD k Good.z).name.size<=1000
 | 0=>aC
 | 1=>aC
 | k+2=>by rw [EN (by simp [DM])];decide
theorem fill_sl7{v0 v1 v2 v3 v4 v5 v6:aU}(h0:v0.cells=#[v0])(h1:v1.cells=#[v1])(h2:v2.cells=#[v2])(h3:v3.cells=#[v3])(h4:v4.cells=#[v4])(h5:v5.cells=#[v5])(h6:v6.cells=#[v6]):Instr.fill (λi=>some (i*1,1)) ((Array.range (7*1)).map (#[Value.slice none 0 0][·% #[Value.slice none 0 0].size]!)) [(0,v0),(1,v1),(2,v2),(3,v3),(4,v4),(5,v5),(6,v6)]=some #[v0,v1,v2,v3,v4,v5,v6]:=by
 have e:((Array.range (7*1)).map (#[Value.slice none 0 0][·% #[Value.slice none 0 0].size]!))=#[Value.slice none 0 0,Value.slice none 0 0,Value.slice none 0 0,Value.slice none 0 0,Value.slice none 0 0,Value.slice none 0 0,Value.slice none 0 0]:=aB
 rw [e];simp [Instr.fill,h0,h1,h2,h3,h4,h5,h6]
theorem AJ.isSl{U:Type}{h:L}{v:aU}{n:Nat}{enc:U->Array aU}{xs:List U}(x:AJ h v n enc xs):∀k i,v≠.int k i:=by
 obtain ⟨a,b,rfl,_⟩:=x;intro k i e;cases e
theorem AJ.across{h h':L}{v:aU}{xs:List Int}{r:Nat}{a b c:aU}{T:aV}(x:AJ h v 1 eI xs)(hb:h r=some (true,.cells #[.int .i64 10,.int .i64 1,a,b,c] T (0,0)))(ho:∀y,y≠r->h' y=h y)
  (ha:∀k i,a≠.int k i) (hb':∀k i,b≠.int k i) (hc:∀k i,c≠.int k i) (hx:∀o,o<5->∃i:Fin xs.length,(o+i.val=0->xs[i.val]≠10)/\(o+i.val=1->xs[i.val]≠1)):AJ h' v 1 eI xs:=by
 obtain ⟨K,u,M,l,N,B⟩:=x;refine ⟨K,u,M,l,N,λi C=>?_⟩;obtain ⟨y,e,D,O⟩:=B i C;refine ⟨y,e,D,O.same (ho y ?_)⟩;rintro rfl;have m:∀j (n:j<xs.length),e+j<5/\(#[Value.int .i64 10,.int .i64 1,a,b,c]:Array aU).extract (e+j) (e+j+1)=eI xs[j]:=λj n=>by
  obtain ⟨R,E,w,P⟩:=B j n;rw [D] at w;simp only [Option.some.injEq,Addr.mk.injEq,and_true] at w;obtain ⟨rfl,rfl⟩:=w;obtain ⟨p,S,t,f,A,F,H⟩:=P;rw [hb] at A;simp only [Option.some.injEq,Prod.mk.injEq,Obj.cells.injEq] at A;obtain ⟨_,rfl,_⟩:=A;rw [Nat.mul_one] at F H;exact ⟨by simp at F;omega,H⟩
 obtain ⟨⟨j,n⟩,q,s⟩:=hx e (by have:=(m i C).1;omega);obtain ⟨Q,g⟩:=m j n;simp only at q s;generalize e+j=o at Q g q s;generalize xs[j]=z at g q s
 have:o=0\/o=1\/o=2\/o=3\/o=4:=Y
 rcases this with rfl | rfl | rfl | rfl | rfl
 ·have d:(#[.int .i64 10]:Array aU)=#[.int .i64 z]:=g;simp at d;exact q rfl d.symm
 ·have d:(#[.int .i64 1]:Array aU)=#[.int .i64 z]:=g;simp at d;exact s rfl d.symm
 ·have d:(#[a]:Array aU)=#[.int .i64 z]:=g;simp at d;exact ha _ _ d
 ·have d:(#[b]:Array aU)=#[.int .i64 z]:=g;simp at d;exact hb' _ _ d
 ·have d:(#[c]:Array aU)=#[.int .i64 z]:=g;simp at d;exact hc _ _ d
def XJ(d m:Int)(gs:List Good)(ms:List AG)(cs:List AP):Int:=if Au d m gs ms cs=0 then ((AT d gs ms cs m).length:Int) else 0
end Go.Ns
namespace Go.Ns
open Go.Conc
section
variable {P:Program} {E:Fl P} {O:Nat->aU} {ds:List Deferred} {h:L} {T:(Nat->aU)->List Deferred->L->Prop} {dst:Option Nat} {ty:aV} {pos:String} {af:Array Edge} {gd:Option (Nat×Bool)}
end
section
variable {d m:Int} {gs:List Good} {ms:List AG} {cs:List AP} {f y l:List Int}
end
end Go.Ns
namespace Go.Ns
open Go.Conc
section
variable {P:Program} {E:Fl P} {O:Nat->aU} {ds:List Deferred} {h:L} {T:(Nat->aU)->List Deferred->L->Prop} {dst:Option Nat} {ty:aV} {pos:String} {af:Array Edge} {gd:Option (Nat×Bool)}
end
end Go.Ns
namespace Go.Ns
open Go.Conc Go Go.RowKit
section
variable {d m:Int} {gs:List Good} {ms:List AG} {cs:List AP}
end
section
variable {P:Program} {E:Fl P} {O:Nat->aU} {ds:List Deferred} {h:L} {T:(Nat->aU)->List Deferred->L->Prop} {dst:Option Nat} {ty:aV} {pos:String} {af:Array Edge} {gd:Option (Nat×Bool)}
end
end Go.Ns
namespace Go.Ns
open Go.Conc Go Go.RowKit
end Go.Ns
namespace Go.Ns
open Go.Conc
end Go.Ns
namespace Go.Ns
open Go.Conc Go Go.RowKit
section
variable {d m:Int} {gs:List Good} {ms:List AG} {cs:List AP}
end
section
variable {d m:Int} {gs:List Good} {ms:List AG} {cs:List AP}
end
end Go.Ns
namespace Go.Ns
open Go.Conc
section
variable {d m:Int} {gs:List Good} {ms:List AG} {cs:List AP}
end
end Go.Ns
namespace Go.Ns
open Go.Conc
end Go.Ns
namespace Go.Ns
open Go.Conc
section
variable {d m:Int} {gs:List Good} {ms:List AG} {cs:List AP}
end
end Go.Ns
namespace Go.Ns
open Go.Conc
section
variable {P:Program} {E:Fl P} {O:Nat->aU} {ds:List Deferred} {h:L} {T:(Nat->aU)->List Deferred->L->Prop}
variable {dst:Option Nat} {ty:aV} {pos:String} {af:Array Edge} {gd:Option (Nat×Bool)}
end
section
variable {d m:Int} {gs:List Good} {ms:List AG} {cs:List AP}
end
end Go.Ns
namespace Go.Ns
open Go.Conc
section
variable {d m:Int} {gs:List Good} {ms:List AG} {cs:List AP}
end
end Go.Ns
namespace Go.Ns
open Go.Conc
section
variable {d m:Int} {gs:List Good} {ms:List AG} {cs:List AP} {t:Nat}
end
section
variable {d m:Int} {gs:List Good} {ms:List AG} {cs:List AP} {t:Nat}
end
section
variable {d m:Int} {gs:List Good} {ms:List AG} {cs:List AP} {t:Nat}
end
section
variable {d m:Int} {gs:List Good} {ms:List AG} {cs:List AP} {t:Nat}
end
end Go.Ns
namespace Go.Ns
open Go.Conc
theorem ba_refl(a:aW):(a==a)=true:=by
 cases a with
 | mk d=>show (d==d)=true;simp
section
variable {d m:Int} {gs:List Good} {ms ms2:List AG} {cs cs2:List AP}
end
end Go.Ns
namespace Go.Ns
open Go.Conc
section
variable {ms:List AG} {cs:List AP} {f y l:List Int}
end
section
variable {d m:Int} {gs:List Good} {ms:List AG} {cs:List AP}
end
end Go.Ns
namespace Go.Ns
open Go.Conc
section
variable {d m:Int} {gs:List Good} {ms:List AG} {cs:List AP} {kd g n:Int}
end
end Go.Ns
namespace Go.Ns
open Go.Conc
section
variable {d m:Int} {gs:List Good} {ms:List AG} {cs:List AP}
end
end Go.Ns
namespace Go.Ns
open Go.Conc
section
variable {U:Type} {h h' h0:L} {v v':aU} {t t':aV} {n:Nat} {enc:U->Array aU} {ys:List U}
end
def X6(hs:L)(k0 ln:Nat)(c:Array aU)(t:aV)(k:Nat)(v:aU)(h:L):Prop:=k=k0->∃r,v=.slice (some ⟨r,0,none⟩) ln ln/\hs r=none/\h r=some (true,.cells c t (0,0))
theorem X6.mono(hs:L)(k0 ln:Nat)(c:Array aU)(t:aV):∀k v h1 h2,L.Le h1 h2->X6 hs k0 ln c t k v h1->X6 hs k0 ln c t k v h2:=λ_ _ _ _ l x e=>by
 obtain ⟨r,a,b,d⟩:=x e;exact ⟨r,a,b,l.keep d rfl⟩
theorem X7{P:Program}{E:Fl P}{O:Nat->aU}{ds:List Deferred}{hs hx:L}{dst:Option Nat}{ty:aV}{pos:String}{af:Array Edge}{gd:Option (Nat×Bool)}{t:aV}{len n k0 k:Nat}{z cells:Array aU}{e:aV}{parts:Array (Nat×Operand)}
  (h0:DA P t=some (n,z,e)) (hl:len*n<=2 ^ 24) (hn:(len*n=0)=False) (hf:Instr.fill (λi=>some (i*n,n)) ((Array.range (len*n)).map (z[·%z.size]!)) (parts.map λ(i,x)=>(i,AL O x)).toList=some cells) (l:hs.Le hx) :
  BS E ⟨dst,.buildSlice t len parts,ty,pos,af,gd⟩ O ds hx λσ' ds' h'=>ds'=ds/\∃v,σ'=putS O dst v/\hx.Le h'/\X6 hs k0 len cells e k v h':=
 AY h0 hl hn hf λr h' a le b _=>⟨rfl,_,rfl,le,λ_=>⟨r,rfl,L.Le.nothing l a,b⟩⟩
theorem OC{U:Type}(z:U)(a b:List U)(k:Nat):(a++b).getD k z=if k<a.length then a.getD k z else b.getD (k-a.length) z:=by
 simp only [List.getD_eq_getElem?_getD,List.getElem?_append];split <;> rfl
structure PS where
 f:Sl
 y:Sl
 l:Sl
def PS.z:PS:=⟨Sl.z,Sl.z,Sl.z⟩
end Go.Ns
namespace Go.Ns
open Go.Conc
section
variable {P:Program} {E:Fl P} {O:Nat->aU} {ds:List Deferred} {h:L} {T:(Nat->aU)->List Deferred->L->Prop} {dst:Option Nat} {ty:aV} {pos:String} {af:Array Edge} {gd:Option (Nat×Bool)}
end
theorem bnot_t{b:Bool}(h:(!b)=true):b=false:=by simpa using h
theorem bnot_f{b:Bool}(h:(!b)=false):b=true:=by simpa using h
end Go.Ns
namespace Go.Ns
def A5(nm:aW)(cost n:Int):List Good:=[⟨nm,cost,1,n,n⟩]
structure MZ(d:Int)(ms:List AG):Prop where
 len:ms.length<=6
 mv:∀k,k<ms.length->(1<=(ms.getD k AG.z).kind/\(ms.getD k AG.z).kind<=4)/\(ms.getD k AG.z).good=0/\(1<=(ms.getD k AG.z).day/\(ms.getD k AG.z).day<=d)/\Dt ms k<=(ms.getD k AG.z).day/\(ms.getD k AG.z).high=(ms.getD k AG.z).low/\(0<=(ms.getD k AG.z).low/\(ms.getD k AG.z).low<=99)
def EZ(n:Int)(ms:List AG)(i:Nat):AW:=⟨λk=>if k=0 then n else 0,λk=>if k<i then (ms.getD k AG.z).low else 0,λ_=>false⟩
def Fo(n:Int)(ms:List AG):Nat->Int
 | 0=>n
 | k+1=>Fo n ms k+signed (ms.getD k AG.z).kind.toNat (ms.getD k AG.z).low
section
variable {d cost n dy:Int} {nm:aW} {ms:List AG}
theorem X8(hn:GT nm=true)(hc:0<=cost/\cost<=999)(h0:0<=n/\n<=99)(hd:1<=d/\d<=99)(hm:MZ d ms):B5 d 0 (A5 nm cost n) ms []:=by
 refine ⟨hd,aC,by simp [A5],λk h=>?_,hm.len,λk h=>?_,aD,λk h=>by cases h⟩
 ·have:k=0:=by simp [A5] at h;exact h
  subst this;have e:(A5 nm cost n).getD 0 Good.z=⟨nm,cost,1,n,n⟩:=rfl;unfold IT;rw [e];rw [aS (by rw [hn];simp),aS aD];exact aS (show¬((¬(0<=cost/\cost<=999)\/¬((1:Int)<=1/\(1:Int)<=20))\/¬GW n n) by unfold GW;omega)
 ·obtain ⟨a,b,c,e,f,g⟩:=hm.mv k h;have i:((A5 nm cost n).length:Int)-1=0:=rfl;unfold Fw;rw [i,aS Y,aS Y,aS Y,aS Y,aS (by unfold GW;omega)]
theorem Lq(x:Int):Fc x x=[x]:=by
 unfold Fc;rw [show (x-x+1).toNat=1 by omega];simp [BX]
theorem OD{ag:AW->Bool}(hm:MZ d ms):∀f i,i+f=ms.length->A6 ag ms 0 f i (EZ n ms i)=if ag (EZ n ms ms.length) then [EZ n ms ms.length] else []
 | 0,i,h=>by
  have:i=ms.length:=Y
  subst this;rfl
 | f+1,i,h=>by
  obtain ⟨a,b,c,e,g,_⟩:=hm.mv i Y;rw [D0,g,Lq];have j:EE ms (i:Int)=false:=by
   unfold EE;exact decide_eq_false (λq=>by have:=q.2;rw [Int.toNat_natCast] at this;omega)
  have l:(EZ n ms i).setMove i (ms.getD i AG.z).low false=EZ n ms (i+1):=by
   unfold AW.setMove AW.setMany AW.setLie EZ;simp only [AW.mk.injEq,true_and];refine ⟨funext λk=>?_,funext λk=>?_⟩
   ·by_cases q:k=i
    ·subst q;rw [aT rfl,aT Y]
    ·rw [aS q];by_cases r:k<i
     ·rw [aT r,aT Y]
     ·rw [aS r,aS Y]
   ·split <;> rfl
  simp only [List.flatMap_cons,List.flatMap_nil,List.append_nil];unfold B3;rw [j,l,OD hm f (i+1) Y];simp
theorem VQ(hm:MZ d ms):AT d (A5 nm cost n) ms [] 0=if BF d 1 ms [] (EZ n ms ms.length) then [EZ n ms ms.length] else []:=by
 have e:(A5 nm cost n).getD 0 Good.z=⟨nm,cost,1,n,n⟩:=rfl;show BR (BF d 1 ms []) (A5 nm cost n) ms 0 1 0 AW.zero=_;rw [Eg,e];simp only [Lq,List.flatMap_cons,List.flatMap_nil,List.append_nil];have a:AW.zero.setFirst 0 n=EZ n ms 0:=by
  unfold AW.setFirst AW.zero EZ;simp
 rw [a];exact OD hm ms.length 0 Y
theorem X9{k:Nat}(hk:k<ms.length):Cd (EZ n ms ms.length) k=(ms.getD k AG.z).low:=by
 unfold Cd EZ;simp [hk]
theorem TO(hm:MZ d ms)(hdy:d<=dy)(hb:∀k,k<=ms.length->0<=Fo n ms k):∀f k low,k+f=ms.length->0<=low->(Cx ms (EZ n ms ms.length) 0 dy f k (Fo n ms k) low).1=Fo n ms ms.length/\0<=(Cx ms (EZ n ms ms.length) 0 dy f k (Fo n ms k) low).2
 | 0,k,low,h,i=>by
  have:k=ms.length:=Y
  subst this;exact ⟨rfl,i⟩
 | f+1,k,low,h,i=>by
  obtain ⟨a,b,c,e,g,_⟩:=hm.mv k Y;unfold Cx;rw [aS Y];have j:G1 ms (EZ n ms ms.length) 0 k (Fo n ms k)=Fo n ms (k+1):=by
   unfold G1;rw [aT b,X9 Y];rfl
  rw [j];refine TO hm hdy hb f (k+1) _ Y ?_
  have:=hb (k+1) Y
  unfold GB;split <;> omega
theorem VR(hm:MZ d ms)(hdy:d<=dy)(hn:0<=n)(hb:∀k,k<=ms.length->0<=Fo n ms k):(AQ ms (EZ n ms ms.length) 0 dy).1=Fo n ms ms.length/\0<=(AQ ms (EZ n ms ms.length) 0 dy).2:=
 TO (n:=n) hm hdy hb ms.length 0 n Y hn
theorem Ma(hm:MZ d ms):(AQ ms (EZ n ms ms.length) 0 0).1=n:=by
 unfold AQ;cases h:ms.length with
 | zero=>rfl
 | succ f=>
  obtain ⟨a,b,c,_⟩:=hm.mv 0 Y;unfold Cx;rw [aT Y];rfl
structure SureR(d cost n b:Int)(nm:aW)(ms:List AG):Prop where
 bk:B5 d 0 (A5 nm cost n) ms []
 lb:Dc d 0 (A5 nm cost n) ms [] 0 d=0
 ll:It d 0 (A5 nm cost n) ms [] 0 d=[b]
 wb:B8 d 0 (A5 nm cost n) ms [] d=0
 wl:CM d 0 (A5 nm cost n) ms [] d=cost*b
 wh:CN d 0 (A5 nm cost n) ms [] d=cost*b
 vb:B8 d 0 (A5 nm cost n) ms [] 0=0
 vl:CM d 0 (A5 nm cost n) ms [] 0=cost*n
 vh:CN d 0 (A5 nm cost n) ms [] 0=cost*n
theorem TP(f:Nat->Int):CU 1 f=[f 0]:=by
 unfold CU;rw [Kz];simp [List.range_succ,DL,Is]
theorem P0{o:List Int}(hk:B5 d 0 (A5 nm cost n) ms [])(h:AT d (A5 nm cost n) ms [] 0=[EZ n ms ms.length])(ho:∀k,k<o.length->o.getD k 0=0):Ap d 0 (A5 nm cost n) ms [] o=0:=
 Nx (not_not_intro (TN hk)) (k:=o.length) ho (Nat.le_refl _) (by rw [h];simp)
theorem sure_all(hn:GT nm=true)(hc:0<=cost/\cost<=999)(h0:0<=n/\n<=99)(hd:1<=d/\d<=99)(hm:MZ d ms)(hb:∀k,k<=ms.length->0<=Fo n ms k):SureR d cost n (Fo n ms ms.length) nm ms:=by
 have e:=X8 hn hc h0 hd hm (cost:=cost);have b:=VR hm (Int.le_refl d) h0.1 hb;have h:AT d (A5 nm cost n) ms [] 0=[EZ n ms ms.length]:=by
  rw [VQ hm,aT];unfold BF
  have:∀j:Nat,j<1->¬(AQ ms (EZ n ms ms.length) (j:Int) d).2<0:=λj i=>by
   have:j=0:=Y
   subst this;exact λq=>absurd b.2 (Int.not_le.2 q)
  rw [decide_eq_true this];rfl
 have g:∀x:Int,CZ (A5 nm cost n) ms (EZ n ms ms.length) x 1=cost*(AQ ms (EZ n ms ms.length) 0 x).1:=λx=>by
  show 0+cost*_=_;rw [Int.zero_add];rfl
 have f:Dc d 0 (A5 nm cost n) ms [] 0 d=0:=P0 e h (λk q=>by
  match k,q with
  | 0,_=>simp [A5]
  | 1,_=>simp;omega)
 have a:∀x,0<=x/\x<=d->B8 d 0 (A5 nm cost n) ms [] x=0:=λx l=>P0 e h (λk q=>by
  match k,q with
  | 0,_=>simp;omega)
 have c:∀x,K6 d 0 (A5 nm cost n) ms [] x=[cost*(AQ ms (EZ n ms ms.length) 0 x).1]:=λx=>by
  unfold K6;rw [h];show CU 1 _=_;rw [TP];exact congrArg (λy=>[y]) (g x)
 refine ⟨e,f,?_,a d Y,?_,?_,a 0 Y,?_,?_⟩
 ·unfold It;rw [aT f,h];show CU 1 _=_;rw [TP];exact congrArg (λy=>[y]) b.1
 ·unfold CM;rw [aT (a d Y),c,b.1];rfl
 ·unfold CN;rw [aT (a d Y),c,b.1];rfl
 ·unfold CM;rw [aT (a 0 Y),c,Ma hm];rfl
 ·unfold CN;rw [aT (a 0 Y),c,Ma hm];rfl
end
end Go.Ns
namespace Go.Ns
open Go.Conc
section
variable {P:Program} {E:Fl P} {O:Nat->aU} {ds:List Deferred} {h:L} {T:(Nat->aU)->List Deferred->L->Prop} {dst:Option Nat} {ty:aV} {pos:String} {af:Array Edge} {gd:Option (Nat×Bool)}
theorem XK{xt yt:aV}{x y:Operand}{a b:aW}(hx:AL O x=.string a)(hy:AL O y=.string b)(hs:a.size+b.size<=1000000)(k:T (putS O dst (.string (a++b))) ds h):BS E ⟨dst,.binOp .add xt x y yt,ty,pos,af,gd⟩ O ds h T:=by
 unfold BS execOp;simp only [hx,hy];have e:Op.stringOp .add a b=(pure (.string (a++b)):Sem aU):=by
  show (if ((a.size+b.size:Nat):Int)>IntKind.i64.max then _ else _)=_;rw [aS (by show¬((a.size+b.size:Nat):Int)>9223372036854775807;omega)]
 refine E6 (AE _ _ ?_);show Sem.gh P (Op.stringOp .add a b) h _;rw [e];exact k
theorem YA{t:aV}{x lo hi:Operand}{s:aW}{kd kd':IntKind}{a b:Int}(ht:MM P t=true)(hx:AL O x=.string s)(ha:AL O lo=.int kd a)(hb:AL O hi=.int kd' b)(h1:0<=a/\a<=b)(h2:b<=s.size)(k:T (putS O dst (.string (s.extract a.toNat b.toNat))) ds h) :
  BS E ⟨dst,.slice t x (some lo) (some hi) none,ty,pos,af,gd⟩ O ds h T:=by
 unfold BS execOp;simp only [hx];refine E6 ?_;unfold MM at ht;cases c:P.underlying t with
 | none=>rw [c] at ht;cases ht
 | some d=>
  rw [c] at ht;cases d <;> first | (cases ht;done) | skip
  unfold Instr.sliceAt;refine AE _ _ (Ai c ?_);unfold Instr.slice;refine AE _ _ (Ai c ?_);dsimp only;unfold Instr.sliceBounds;simp only [Option.map_some,Option.map_none,ha,hb,Bool.false_eq_true,↓reduceIte,Option.isSome_none];obtain ⟨e,rfl⟩:∃e:Nat,a=e:=⟨a.toNat,Y⟩;obtain ⟨f,rfl⟩:∃f:Nat,b=f:=⟨b.toNat,Y⟩;refine AE _ _ (AE _ _ (At (AE _ _ (Cj Y Y (AE _ _ (Cj Y Y (At ?_)))))));exact At (by rw [Int.toNat_natCast,Int.toNat_natCast] at k;exact k)
end
section
variable {P:Program} {E:Fl P} {O:Nat->aU} {ds:List Deferred} {h:L} {T:(Nat->aU)->List Deferred->L->Prop} {dst:Option Nat} {ty:aV} {pos:String} {af:Array Edge} {gd:Option (Nat×Bool)}
end
def figsS:aW:=⟨#[48,49,50,51,52,53,54,55,56,57]⟩
def Jo(n:Int):aW:=⟨#[UInt8.ofNat (48+n.toNat)]⟩
theorem fig_ext{n:Int}(h:0<=n/\n<=9):figsS.extract n.toNat (n+1).toNat=Jo n:=by
 obtain ⟨k,rfl⟩:∃k:Nat,n=k:=⟨n.toNat,Y⟩;have a:k<=9:=Y
 rw [show ((k:Int)+1).toNat=k+1 by omega,Int.toNat_natCast];unfold Jo;rw [Int.toNat_natCast]
 match k,a with
 | 0,_=>decide
 | 1,_=>decide
 | 2,_=>decide
 | 3,_=>decide
 | 4,_=>decide
 | 5,_=>decide
 | 6,_=>decide
 | 7,_=>decide
 | 8,_=>decide
 | 9,_=>decide
theorem fig_ten{n:Int}(h:0<=n/\n<=9):n%10=n:=Y
theorem digS_nil{n:Int}:Jo n++(⟨#[]⟩:aW)=Jo n:=by simp [ByteArray.ext_iff,Jo]
def BQ(n:Int):aW:=(⟨#[103]⟩:aW)++Jo n
theorem gName_ok{n:Int}(h:0<=n/\n<=9):GT (BQ n)=true:=by
 obtain ⟨k,rfl⟩:∃k:Nat,n=k:=⟨n.toNat,Y⟩;have a:k<=9:=Y
 unfold BQ Jo;rw [Int.toNat_natCast]
 match k,a with
 | 0,_=>decide
 | 1,_=>decide
 | 2,_=>decide
 | 3,_=>decide
 | 4,_=>decide
 | 5,_=>decide
 | 6,_=>decide
 | 7,_=>decide
 | 8,_=>decide
 | 9,_=>decide
theorem Rq{nm:aW}{cost n:Int}(h:nm.size<=1000)(k:Nat):((A5 nm cost n).getD k Good.z).name.size<=1000:=by
 match k with
 | 0=>exact h
 | k+1=>exact Nat.zero_le _
end Go.Ns
namespace Go.Ns
open Go.Conc
structure AC where
 kind:Int
 dept:Int
 clerk:Int
 fr:Int
 low:Int
 high:Int
 sg:Int
structure Eh where
 kind:Int
 a:Int
 low:Int
 high:Int
 firm:Bool
def DV(x:AC):Array aU:=#[.int .i64 x.kind,.int .i64 x.dept,.int .i64 x.clerk,.int .i64 x.fr,.int .i64 x.low,.int .i64 x.high,.int .i64 x.sg]
def De(x:Eh):Array aU:=#[.int .i64 x.kind,.int .i64 x.a,.int .i64 x.low,.int .i64 x.high,.bool x.firm]
def AC.z:AC:=⟨0,0,0,0,0,0,0⟩
def Eh.z:Eh:=⟨0,0,0,0,false⟩
def eBo(b:Bool):Array aU:=#[.bool b]
def KI(sl:List AC)(i:Nat):Prop:=
 (0<=(sl.getD i AC.z).kind/\(sl.getD i AC.z).kind<=5)/\((sl.getD i AC.z).kind=0->(0<=(sl.getD i AC.z).dept/\(sl.getD i AC.z).dept<=4)/\(sl.getD i AC.z).fr= -1)/\(0<=(sl.getD i AC.z).clerk/\(sl.getD i AC.z).clerk<=3)/\
  ((sl.getD i AC.z).kind=5->0<=(sl.getD i AC.z).fr/\(sl.getD i AC.z).fr<=(i:Int)-1)/\(0<=(sl.getD i AC.z).low/\(sl.getD i AC.z).low<=(sl.getD i AC.z).high/\(sl.getD i AC.z).high<=999)
def NC(sl:List AC):Prop:=¬(6:Int)<sl.length/\∀i,i<sl.length->KI sl i
def C8(sl:List AC):Nat->Nat
 | 0=>0
 | k+1=>C8 sl k+if (sl.getD k AC.z).kind=5 then 1 else 0
theorem fixTo_le(sl:List AC):∀{k q:Nat},k<=q->C8 sl k<=C8 sl q:=by
 intro k q h
 induction q with
 | zero=>
  obtain rfl:k=0:=Y
  exact Nat.le_refl _
 | succ q a=>
  rcases Nat.eq_or_lt_of_le h with rfl | h
  ·exact Nat.le_refl _
  ·have:=a Y
   show _<=C8 sl q+_;omega
theorem fixTo_lt{sl:List AC}{k n:Nat}(hk:k<n)(h:(sl.getD k AC.z).kind=5):C8 sl k<C8 sl n:=by
 have:C8 sl (k+1)<=C8 sl n:=fixTo_le sl hk
 have e:C8 sl (k+1)=C8 sl k+1:=by show C8 sl k+_=_;rw [aT h]
 omega
theorem Ls(sl:List AC):∀k,C8 sl k<=k
 | 0=>Nat.le_refl 0
 | k+1=>by
  have:=Ls sl k
  show C8 sl k+_<=_;split <;> omega
theorem LG{sl:List AC}{k:Nat}(h:(sl.getD k AC.z).kind=5):C8 sl (k+1)=C8 sl k+1:=by show C8 sl k+_=_;rw [aT h]
theorem XL{sl:List AC}{k:Nat}(h:¬(sl.getD k AC.z).kind=5):C8 sl (k+1)=C8 sl k:=by show C8 sl k+_=_;rw [aS h];rfl
def FM(l:List Int):Prop:=∀i,0<=l.getD i 0/\l.getD i 0<=999
theorem FM.nil:FM []:=λi=>by rw [EN aD];omega
theorem FM.snoc{l:List Int}{x:Int}(h:FM l)(hx:0<=x/\x<=999):FM (l++[x]):=λi=>by
 rw [OC];split
 ·exact h i
 ·cases i-l.length with
  | zero=>exact hx
  | succ n=>rw [EN aD];omega
theorem FM.set{l:List Int}{x:Int}{k:Nat}(h:FM l)(hx:0<=x/\x<=999):FM (l.set k x):=λi=>by
 have:=h i
 simp only [List.getD_eq_getElem?_getD,List.getElem?_set] at this ⊢;split
 ·split
  ·exact hx
  ·simp
 ·exact this
end Go.Ns
namespace Go.Ns
open Go.Conc
structure Bz where
 w:Nat->Int
 s:Nat->Bool
def Bz.z:Bz:=⟨λ_=>0,λ_=>false⟩
def Bp(p:Bz):Array aU:=#[.int .i64 (p.w 0),.int .i64 (p.w 1),.int .i64 (p.w 2),.int .i64 (p.w 3),.int .i64 (p.w 4),.int .i64 (p.w 5),.bool (p.s 0),.bool (p.s 1),.bool (p.s 2),.bool (p.s 3),.bool (p.s 4),.bool (p.s 5)]
def Ds(a:Nat->Int):Array aU:=#[.int .i64 (a 0),.int .i64 (a 1),.int .i64 (a 2),.int .i64 (a 3),.int .i64 (a 4),.int .i64 (a 5)]
def Gq:Nat->Int:=λ_=>0
def JF(a:Nat->Int)(i:Nat)(n:Int):Nat->Int:=λk=>if k=i then n else a k
def Bz.setW(p:Bz)(i:Nat)(n:Int):Bz:={ p with w:=JF p.w i n }
def Bz.setS(p:Bz)(i:Nat)(b:Bool):Bz:={ p with s:=λk=>if k=i then b else p.s k }
def Bz.setF(p:Bz)(i:Nat)(n:Int):Bz:=(p.setW i n).setS i false
theorem eSPast_w{p:Bz}{i:Nat}(h:i<6):(Bp p)[0+i*1]? =some (.int .i64 (p.w i)):=by
 match i,h with
 | 0,_=>rfl
 | 1,_=>rfl
 | 2,_=>rfl
 | 3,_=>rfl
 | 4,_=>rfl
 | 5,_=>rfl
theorem TQ{p:Bz}{i:Nat}{n:Int}(h:i<6):BN (Bp p) (0+i*1) [.int .i64 n]=Bp (p.setW i n):=by
 match i,h with
 | 0,_=>rfl
 | 1,_=>rfl
 | 2,_=>rfl
 | 3,_=>rfl
 | 4,_=>rfl
 | 5,_=>rfl
theorem Mb{p:Bz}{i:Nat}{b:Bool}(h:i<6):BN (Bp p) (6+i*1) [.bool b]=Bp (p.setS i b):=by
 match i,h with
 | 0,_=>rfl
 | 1,_=>rfl
 | 2,_=>rfl
 | 3,_=>rfl
 | 4,_=>rfl
 | 5,_=>rfl
theorem VS{a:Nat->Int}{i:Nat}(h:i<6):(Ds a)[0+i*1]? =some (.int .i64 (a i)):=by
 match i,h with
 | 0,_=>rfl
 | 1,_=>rfl
 | 2,_=>rfl
 | 3,_=>rfl
 | 4,_=>rfl
 | 5,_=>rfl
theorem eAm_set{a:Nat->Int}{i:Nat}{n:Int}(h:i<6):BN (Ds a) (0+i*1) [.int .i64 n]=Ds (JF a i n):=by
 match i,h with
 | 0,_=>rfl
 | 1,_=>rfl
 | 2,_=>rfl
 | 3,_=>rfl
 | 4,_=>rfl
 | 5,_=>rfl
theorem YB{a:Nat->Int}{i:Nat}(h:i<6):(if false=true then some (Value.agg ((Ds a).extract (i*1) (i*1+1))) else (Ds a)[i*1]?)=some (.int .i64 (a i)):=by
 have:=VS (a:=a) h
 rw [Nat.zero_add] at this;exact this
theorem LH(a:Nat->Int):(Value.agg (Ds a)).cells.size=6:=rfl
theorem LI(a:Nat->Int):Value.fine (.agg (Ds a))=true:=rfl
theorem ND(a:Nat->Int):0+6<=(Ds a).size:=Nat.le_refl 6
theorem NE(a b:Nat->Int):BN (Ds a) 0 (Value.agg (Ds b)).cells.toList=Ds b:=by
 simp [Value.cells,Ds,BN]
theorem Mc(a:Bz):(Value.agg (Bp a)).cells.size=12:=rfl
theorem Md(a:Bz):Value.fine (.agg (Bp a))=true:=rfl
theorem OE(a:Bz):0+12<=(Bp a).size:=Nat.le_refl 12
theorem OF(a b:Bz):BN (Bp a) 0 (Value.agg (Bp b)).cells.toList=Bp b:=by
 simp [Value.cells,Bp,BN]
def YC(a b:Bool):Int:=if a=true then 1 else if b=true then-1 else 0
def fnOf(P:Program)(t:aV):Bool:=match P.underlying t with
 | some (.func ..)=>true
 | _=>false
def eV(v:aU):Array aU:=#[v]
section
variable {P:Program} {E:Fl P} {O:Nat->aU} {ds:List Deferred} {h:L} {T:(Nat->aU)->List Deferred->L->Prop}
variable {dst:Option Nat} {ty:aV} {pos:String} {af:Array Edge} {gd:Option (Nat×Bool)}
theorem TR{xt:aV}{Q:Bool->L->Prop}(ht:fnOf P xt=true)(k:Q true h):(Op.equal xt .nilFunc .nilFunc).gh P h Q:=by
 unfold Op.equal Op.maxDepth;show (Op.equalIn (9999+1) xt .nilFunc .nilFunc).gh P h _;unfold Op.equalIn;unfold fnOf at ht;cases a:P.underlying xt with
 | none=>rw [a] at ht;cases ht
 | some d=>
  rw [a] at ht;refine AE _ _ (Ai a ?_);cases d <;> first | (cases ht;done) | skip
  exact k
theorem ok_eqlFn{xt yt:aV}{x y:Operand}(ht:fnOf P xt=true)(hx:AL O x=.nilFunc)(hy:AL O y=.nilFunc)(k:T (putS O dst (.bool true)) ds h):BS E ⟨dst,.binOp .eql xt x y yt,ty,pos,af,gd⟩ O ds h T:=by
 unfold BS execOp;simp only [hx,hy];refine E6 (AE _ _ ?_);show Sem.gh P (do pure (Value.bool (<-Op.equal xt .nilFunc .nilFunc)):Sem aU) h _;exact AE _ _ (TR ht k)
theorem TS{xt yt:aV}{x y:Operand}(ht:fnOf P xt=true)(hx:AL O x=.nilFunc)(hy:AL O y=.nilFunc)(k:T (putS O dst (.bool false)) ds h):BS E ⟨dst,.binOp .neq xt x y yt,ty,pos,af,gd⟩ O ds h T:=by
 unfold BS execOp;simp only [hx,hy];refine E6 (AE _ _ ?_);show Sem.gh P (do pure (Value.bool (!(<-Op.equal xt .nilFunc .nilFunc))):Sem aU) h _;exact AE _ _ (TR ht k)
end
structure Ak where
 dept:Int
 clerk:Int
 low:Int
def Ak.z:Ak:=⟨0,0,0⟩
def LJ(x:Ak):Array aU:=#[.int .i64 0,.int .i64 x.dept,.int .i64 x.clerk,.int .i64 (-1),.int .i64 x.low,.int .i64 x.low,.int .i64 0]
structure EY(sl:List Ak):Prop where
 len:sl.length<=6
 at_:∀k,k<sl.length->(0<=(sl.getD k Ak.z).dept/\(sl.getD k Ak.z).dept<=4)/\(0<=(sl.getD k Ak.z).clerk/\(sl.getD k Ak.z).clerk<=3)/\(0<=(sl.getD k Ak.z).low/\(sl.getD k Ak.z).low<=99)
def C9(sl:List Ak):Nat->Nat->Bz->List Bz
 | 0,_,p=>[p]
 | f+1,i,p=>(Fc (sl.getD i Ak.z).low (sl.getD i Ak.z).low).flatMap λn=>C9 sl f (i+1) (p.setF i n)
section
variable {sl:List Ak} {f i k:Nat} {p pc:Bz} {all pre:List Bz} {x lo:Int} {b1 b2:Bool}
theorem setF_F(p:Bz)(i:Nat)(x n:Int)(b1 b2:Bool):((((p.setW i x).setS i b1).setS i b2).setF i n)=p.setF i n:=by
 unfold Bz.setF Bz.setW Bz.setS JF;simp only [Bz.mk.injEq];exact ⟨funext λk=>by split <;> rfl,funext λk=>by split <;> rfl⟩
theorem wr_pc(h:∀n,pc.setF i n=p.setF i n):∀n,(((pc.setW i x).setS i b1).setS i b2).setF i n=p.setF i n:=λn=>by rw [setF_F,h]
theorem YD(h:∀n,pc.setF i n=p.setF i n)(hw:CF all pre (C9 sl (f+1) i p))(hx:x=(sl.getD i Ak.z).low+(k:Int))(hk:x<=(sl.getD i Ak.z).low) :
  CF all (pre++(BX (sl.getD i Ak.z).low k).flatMap (λn=>C9 sl f (i+1) (p.setF i n))) (C9 sl f (i+1) ((pc.setW i x).setS i false)):=by
 have w:=CF.round (k:=k) hw Y;rw [<-hx] at w;rw [show (pc.setW i x).setS i false=pc.setF i x from rfl,h];exact w
theorem wr_next(h:∀n,pc.setF i n=p.setF i n)(hx:x=lo+(k:Int)) :
  pre++(BX lo (k+1)).flatMap (λn=>C9 sl f (i+1) (p.setF i n))=(pre++(BX lo k).flatMap (λn=>C9 sl f (i+1) (p.setF i n)))++C9 sl f (i+1) ((pc.setW i x).setS i false):=by
 rw [show (pc.setW i x).setS i false=pc.setF i x from rfl,h,HX,<-hx];simp
theorem wr_end(hk:¬x<=(sl.getD i Ak.z).low)(hx:x=(sl.getD i Ak.z).low+(k:Int))(h:k<=1):C9 sl (f+1) i p=(BX (sl.getD i Ak.z).low k).flatMap (λn=>C9 sl f (i+1) (p.setF i n)):=
 CF.roundEnd Y (.inl Y)
def OG(sl:List Ak):Nat->Nat->Bz->Bz
 | 0,_,p=>p
 | f+1,i,p=>OG sl f (i+1) (p.setF i (sl.getD i Ak.z).low)
theorem wr_one(sl:List Ak):∀f i p,C9 sl f i p=[OG sl f i p]
 | 0,_,_=>rfl
 | f+1,i,p=>by
  unfold C9;rw [Lq];simp only [List.flatMap_cons,List.flatMap_nil,List.append_nil];exact wr_one sl f (i+1) _
theorem P1:∀(f i:Nat)(p:Bz)(k:Nat),k<i->(OG sl f i p).w k=p.w k
 | 0,_,_,_,_=>rfl
 | f+1,i,p,k,h=>by
  unfold OG;rw [P1 f (i+1) _ k Y];show JF p.w i _ k=_;unfold JF;rw [aS Y]
theorem TT:∀(f i:Nat)(p:Bz)(k:Nat),i<=k->k<i+f->(OG sl f i p).w k=(sl.getD k Ak.z).low
 | 0,_,_,_,_,_=>Y
 | f+1,i,p,k,h1,a=>by
  unfold OG;rcases Nat.eq_or_lt_of_le h1 with rfl | h1
  ·rw [P1 f (i+1) _ i Y];show JF p.w i _ i=_;unfold JF;rw [aT rfl]
  ·exact TT f (i+1) _ k h1 Y
def DG(sl:List Ak):Bz:=OG sl sl.length 0 Bz.z
theorem wrP_at(h:k<sl.length):(DG sl).w k=(sl.getD k Ak.z).low:=TT _ 0 _ k (Nat.zero_le _) Y
def Bb(p:Bz)(n:Nat):Nat->Int:=λk=>if k<n then p.w k else 0
theorem YE(p:Bz):Bb p 0=Gq:=funext λk=>aS Y
theorem YF:JF (Bb p k) k (p.w k)=Bb p (k+1):=funext λj=>by
 unfold JF Bb;by_cases e:j=k
 ·subst e;rw [aT rfl,aT Y]
 ·rw [aS e];by_cases q:j<k
  ·rw [aT q,aT Y]
  ·rw [aS q,aS Y]
def CE(a:Nat->Int):Nat->Int
 | 0=>0
 | k+1=>CE a k+a k
theorem TU{a:Nat->Int}(h:∀i,0<=a i/\a i<=99):∀k:Nat,0<=CE a k/\CE a k<=99*(k:Int)
 | 0=>⟨Int.le_refl 0,Int.le_refl 0⟩
 | k+1=>by
  have:=TU h k
  have:=h k
  unfold CE;omega
theorem TV(h:EY sl)(i:Nat):0<=Bb (DG sl) sl.length i/\Bb (DG sl) sl.length i<=99:=by
 unfold Bb;split
 ·rename_i q;rw [wrP_at q];exact (h.at_ i q).2.2
 ·omega
end
section
variable {U:Type}
def TW(hB:L)(aQ:List U->(Nat->Prop)->L->Prop)(l:List U)(X:Nat->Prop)(h h':L):Prop:=
 ∃X',(∀b,X' b->X b\/h b=none)/\BP X h h'/\hB.Le h'/\aQ l X' h'
structure VT{P:Program}(W:Wk P)(hB:L)(yv:aU)(e1 e2:U->Array aU)(aQ:List U->(Nat->Prop)->L->Prop)(all:List U):Prop where
 prom:FJ hB aQ
 off:∀pre X h b,aQ pre X h->X b->hB b=none
 one:yv.cells=#[yv]
 call:∀pre p post X h,all=pre++p ::post->aQ pre X h->hB.Le h->CT W yv #[.agg (e1 p),.agg (e2 p)] h λv h'=>v=.bool true/\TW hB aQ (pre++[p]) X h h'
def RoundN(hB:L)(J:List U->(Nat->Prop)->L->Prop)(pre:List U)(aN:Nat->Prop)(h:L)(l:Nat)(lo:Loop):Post:=λe _ _ h3=>
 e=.normal/\h3 l=some (true,.loop { lo with state:=.busy })/\∃Y',(∀b,Y' b->aN b\/h b=none)/\BP (λb=>aN b\/b=l) h h3/\hB.Le h3/\J pre Y' h3
section
variable {P:Program} {E:Fl P} {O:Nat->aU} {ds:List Deferred}
theorem YG{e1 e2:U->Array aU}{all:List U}{hB hc:L}{J:List U->(Nat->Prop)->L->Prop}{Y0:Nat->Prop}{p1 p2:Tmp}{f:Operand}{assign body:Code}{Q:Post}
  (hrd:E.rd=none) (hp1:Nat.blt p1 E.N=true) (hp2:Nat.blt p2 E.N=true) (hJ:FJ hB J) (hJo:∀pre aN h b,J pre aN h->aN b->hB b=none) (hB0:hB.Le hc) (j0:J [] Y0 hc)
  (src:∀(yv:aU)(aQ:List U->(Nat->Prop)->L->Prop)(X:Nat->Prop)(h:L),VT E.wk hB yv e1 e2 aQ all->hB.Le h->aQ [] X h->CT E.wk (AL O f) #[yv] h λ_ h'=>TW hB aQ all X h h')
  (round:∀(l d:Nat)(lo:Loop)(pre:List U)(p:U)(post:List U)(aN:Nat->Prop)(h:L),all=pre++p ::post->J pre aN h->hB.Le h->hB l=none->¬aN l->h l=some (true,.loop lo)->
   Tr ⟨E.wk,E.fn,some l,E.N⟩ assign (upd (upd O p1 (.agg (e1 p))) p2 (.agg (e2 p))) [] h λe σ' ds' h1=>e=.normal/\h1 l=some (true,.loop lo)/\∀h2,h2 l=some (true,.loop { lo with state:=.busy })->(∀b,b≠l->h2 b=h1 b)->
    Tr ⟨E.wk,E.fn,some l,E.N⟩ body σ' ds' h2 (RoundN hB J (pre++[p]) aN h l lo))
  (fin:∀(d l:Nat)(h':L),hB.Le h'->hB d=none->hB l=none->hc d=none->h' d=some (true,.deferred (some []))->
   ∀aN,J all aN h'->(∀b,aN b->b≠d)->Q .normal O ({ target:=.collected d,args:=#[] } ::ds) h'):Tr E (.rangeFunc f #[p1,p2] assign body) O ds hc Q:=by
 refine Kn hrd λt d l hs B C g=>?_;have k:hB l=none:=hB0.nothing C;have u:hB d=none:=hB0.nothing B;let lo:Loop:={ state:=.ready,pending:=none,fn:=E.fn,tmps:=t,params:=#[p1,p2],assign,body,defers:=d };have nYl:¬Y0 l:=hJ.off j0 C;have nYd:¬Y0 d:=hJ.off j0 B;have D:((hc.set d true (.deferred (some []))).set l true (.loop lo)) l=some (true,.loop lo):=L.set_same _ _ _ _;have F:((hc.set d true (.deferred (some []))).set l true (.loop lo)) d=some (true,.deferred (some [])):=by rw [L.set_ne _ _ _ (Ne.symm g)];exact L.set_same _ _ _ _
 have H:∀b,b≠l->b≠d->((hc.set d true (.deferred (some []))).set l true (.loop lo)) b=hc b:=λb h1 h2=>by rw [L.set_ne _ _ _ h1,L.set_ne _ _ _ h2]
 have w:hB.Le ((hc.set d true (.deferred (some []))).set l true (.loop lo)):=(hB0.trans (L.Le.new B _ _)).trans (L.Le.new (by rw [L.set_ne _ _ _ g];exact C) _ _);have K:Pi J l d lo [] (λb=>Y0 b\/b=l\/b=d) ((hc.set d true (.deferred (some []))).set l true (.loop lo)):=
  ⟨Y0,hJ.stable _ _ hc _ j0 (λb a=>H b (λe=>nYl (e▸a)) (λe=>nYd (e▸a))) w,λb=>Iff.rfl,nYl,nYd,D,F⟩
 have yk:VT E.wk hB (.func (.yield l) #[] #[]) e1 e2 (Pi J l d lo) all:=by
  refine ⟨⟨?_,?_⟩,?_,rfl,?_⟩
  ·rintro pre X h b ⟨aN,j,c,_,_,h1,h2⟩ a;rcases (c b).1 a with m | rfl | rfl
   ·exact hJ.dom _ _ _ _ j m
   ·exact ⟨_,_,h1,rfl⟩
   ·exact ⟨_,_,h2,rfl⟩
  ·rintro pre X h h' ⟨aN,j,c,r,s,h1,h2⟩ same M;refine ⟨aN,hJ.stable _ _ h h' j (λb a=>same b ((c b).2 (.inl a))) M,c,r,s,?_,?_⟩
   ·rw [same l ((c l).2 (.inr (.inl rfl)))];exact h1
   ·rw [same d ((c d).2 (.inr (.inr rfl)))];exact h2
  ·rintro pre X h b ⟨aN,j,c,_⟩ a;rcases (c b).1 a with m | rfl | rfl
   ·exact hJo _ _ _ _ j m
   ·exact k
   ·exact u
  rintro pre p post X h y ⟨aN,j,c,r,s,h1,h2⟩ M;refine NU h1 rfl ?_;have ef:(lo.params.zip #[Value.agg (e1 p),Value.agg (e2 p)]).foldl (λtmps x=>tmps.setIfInBounds x.1 x.2) lo.tmps=(t.setIfInBounds p1 (.agg (e1 p))).setIfInBounds p2 (.agg (e2 p)):=by simp [lo]
  rw [ef];show Bt E.wk l E.fn ((t.setIfInBounds p1 (.agg (e1 p))).setIfInBounds p2 (.agg (e2 p))) assign body h _;have n:=(hs.put hp1 (.agg (e1 p))).put hp2 (.agg (e2 p));refine MR (N:=E.N) n.1 ?_;have e0:(λi=>((t.setIfInBounds p1 (.agg (e1 p))).setIfInBounds p2 (.agg (e2 p))).getD i undef)=upd (upd O p1 (.agg (e1 p))) p2 (.agg (e2 p)):=funext n.2;rw [e0];refine JU ?_ (round l d lo pre p post aN h y j M k r h1);rintro e σ' ds' ha ⟨rfl,R,a⟩;refine ⟨rfl,lo,R,rfl,?_⟩;refine JU ?_ (a _ (L.set_same _ _ _ _) λb a=>L.set_ne _ _ _ a);rintro e σ2 ds2 m ⟨rfl,g1,Y',S,g3,g4,g5⟩;have T:m d=some (true,.deferred (some [])):=g3.box h2 (λq=>q.elim s (λe=>g e.symm)) rfl;have nl:¬Y' l:=λq=>(S l q).elim r λe=>by rw [h1] at e;cases e
  have nd:¬Y' d:=λq=>(S d q).elim s λe=>by rw [h2] at e;cases e
  have l4:hB.Le (m.set l true (.loop lo)):=g4.upd k λb a=>L.set_ne _ _ _ a;refine ⟨_,g1,rfl,λb=>Y' b\/b=l\/b=d,?_,?_,l4,Y',hJ.store g5 nl (λb a=>L.set_ne _ _ _ a) l4,λb=>Iff.rfl,nl,nd,L.set_same _ _ _ _,by rw [L.set_ne _ _ _ (Ne.symm g)];exact T⟩
  ·rintro b (a | rfl | rfl)
   ·exact (S b a).imp (λq=>(c b).2 (.inl q)) id
   ·exact .inl ((c _).2 (.inr (.inl rfl)))
   ·exact .inl ((c _).2 (.inr (.inr rfl)))
  ·intro b q o a hn;have nb:b≠l:=λe=>hn ((c b).2 (.inr (.inl e)))
   show∃o',(m.set l true (.loop _)) b=_/\_
   rw [L.set_ne _ _ _ nb];exact g3 b q o a λq=>q.elim (λz=>hn ((c b).2 (.inl z))) nb
 refine (src _ _ _ _ yk w K).mono ?_;rintro v h' ⟨X',n,hk,W,aN,j,c,r,s,h1,h2⟩;refine ⟨lo,h1,rfl,?_⟩;show Q .normal O _ _;have A:=W.upd k (λb a=>L.set_ne h' true (.loop { lo with state:=.exhausted }) a);exact fin d l _ A u k B (by rw [L.set_ne _ _ _ (Ne.symm g)];exact h2) aN (hJ.store j r (λb a=>L.set_ne _ _ _ a) A) λb a e=>s (e▸a)
end
end
end Go.Ns
namespace Go.Ns
open Go.Conc
theorem YH{sl:List Ak}(h:EY sl)(k i:Nat):0<=([Bb (DG sl) sl.length].getD k Gq) i/\([Bb (DG sl) sl.length].getD k Gq) i<=99:=by
 cases k with
 | zero=>exact TV h i
 | succ k=>exact ⟨Int.le_refl 0,show (0:Int)<=99 by decide⟩
theorem TX(a:Nat->Int):Instr.sameBits 10000 (.agg (Ds a)) (.agg (Ds a))=true:=by
 have b:∀(n:Nat)(x:Int),Instr.sameBits n (.int .i64 x) (.int .i64 x)=true:=λn x=>by
  cases n <;> (unfold Instr.sameBits;simp)
 unfold Ds;show Instr.sameBits (9999+1) _ _=true;unfold Instr.sameBits;simp only [List.zip_cons_cons,List.zip_nil_left,List.all_cons,List.all_nil,b];simp
section
variable {P:Program} {E:Fl P} {O:Nat->aU} {ds:List Deferred} {h:L} {T:(Nat->aU)->List Deferred->L->Prop}
variable {dst:Option Nat} {ty:aV} {pos:String} {af:Array Edge} {gd:Option (Nat×Bool)}
theorem YI{t kt vt:aV}{x ix:Operand}{r d:Nat}{a:Nat->Int}(ht:H0 P t=some (kt,vt))(hx:AL O x=.map (some r))(hk:AL O ix=.agg (Ds a))(hm:h r=some (true,.map #[] 0))(hd:Nat.ble (d+1) 10000=true)
  (hc:∀a,Uh P (d+1) kt (.agg (Ds a))=true) (he:∀a b,MO P (d+1) kt (.agg (Ds a)) (.agg (Ds b))=some ((a 0==b 0 && (a 1==b 1 && (a 2==b 2 && (a 3==b 3 && (a 4==b 4 && (a 5==b 5 && true)))))) && true)) (hz:(P.info? vt).bind (·.zero)=some (.bool false))
  (k:T (putS O dst (.tuple #[.bool false,.bool false])) ds h):BS E ⟨dst,.lookup t x ix true,ty,pos,af,gd⟩ O ds h T:=
 Lg (κ:=Unit) (ν:=Bool) (a:=()) (ek:=λ_=>.agg (Ds a)) (ev:=λb=>.bool b) (M:=λ_=>none) (z:=.bool false) ht hx hk (Ef.empty hm) hd (hc _) (λb=>by rw [he];simp) hz k
theorem ok_putAm{t kt vt:aV}{om ok ox:Operand}{r d:Nat}{a:Nat->Int}{b:Bool}(ht:H0 P t=some (kt,vt))(hm':AL O om=.map (some r))(hk:AL O ok=.agg (Ds a))(hv:AL O ox=.bool b)(hm:h r=some (true,.map #[] 0))(hd:Nat.ble (d+1) 10000=true)
  (hc:∀a,Uh P (d+1) kt (.agg (Ds a))=true) (he:∀a b,MO P (d+1) kt (.agg (Ds a)) (.agg (Ds b))=some ((a 0==b 0 && (a 1==b 1 && (a 2==b 2 && (a 3==b 3 && (a 4==b 4 && (a 5==b 5 && true)))))) && true))
  (k:∀h' es n,h' r=some (true,.map es n)->(∀b,b≠r->h' b=h b)->T (putS O dst undef) ds h'):BS E ⟨dst,.mapUpdate t om ok ox,ty,pos,af,gd⟩ O ds h T:=
 IO (κ:=Unit) (ν:=Bool) (a:=()) (v:=b) (ek:=λ_=>.agg (Ds a)) (ev:=λb=>.bool b) (M:=λ_=>none) ht hm' hk hv (Ef.empty hm) hd (hc _) (λb=>by rw [he];simp) (TX a) λh' c e=>by
  obtain ⟨es,n,f,_⟩:=c;exact k h' es n f e
end
section
variable {U:Type} {hB hBi h0 h hc h':L} {aQ:List U->(Nat->Prop)->L->Prop} {X0 X X' aN:Nat->Prop} {rk l:Nat} {pre:List U} {p:U} {lo:Loop}
structure VU(hB:L)(aQ:List U->(Nat->Prop)->L->Prop)(X:Nat->Prop)(pre:List U)(hc:L):Prop where
 inv:aQ pre X hc
 base:hB.Le hc
theorem VU.le(P:FJ hB aQ)(y:VU hB aQ X pre hc)(l:hc.Le h'):VU hB aQ X pre h':=⟨P.le y.inv l (y.base.trans l),y.base.trans l⟩
theorem VU.store(P:FJ hB aQ)(y:VU hB aQ X pre hc){r:Nat}(hn:¬X r)(rB:hB r=none)(ho:∀b,b≠r->h' b=hc b):VU hB aQ X pre h':=⟨P.store y.inv hn ho (y.base.upd rB ho),y.base.upd rB ho⟩
def TY(hBi:L)(aQ:List U->(Nat->Prop)->L->Prop)(X0:Nat->Prop)(rk:Nat)(pre:List U)(aN:Nat->Prop)(h:L):Prop:=
 ∃X,aQ pre X h/\(∀b,aN b↔X b\/b=rk)/\¬X rk/\(∃es n,h rk=some (true,.map es n)/\(pre=[]->es=#[]/\n=0))/\(∀b,X b->hBi b=none)/\(pre=[]->X=X0)
theorem OH(P:FJ hB aQ)(l:hB.Le hBi):FJ hBi (TY hBi aQ X0 rk):=by
 refine ⟨?_,?_⟩
 ·rintro pre aN h b ⟨X,j,a,_,⟨e,n,c,_⟩,_⟩ d;rcases (a b).1 d with q | rfl
  ·exact P.dom _ _ _ _ j q
  ·exact ⟨_,_,c,rfl⟩
 ·rintro pre aN h h' ⟨X,j,a,f,⟨e,n,c,g⟩,i,k⟩ same m;exact ⟨X,P.stable _ _ _ _ j (λb d=>same b ((a b).2 (.inl d))) (l.trans m),a,f,⟨e,n,(same rk ((a rk).2 (.inr rfl))).trans c,g⟩,i,k⟩
theorem TZ(j:aQ [] X0 hc)(hm:hc rk=some (true,.map #[] 0))(n1:¬X0 rk)(n2:∀b,X0 b->hBi b=none):TY hBi aQ X0 rk [] (λb=>X0 b\/b=rk) hc:=
 ⟨X0,j,λ_=>Iff.rfl,n1,⟨_,_,hm,λ_=>⟨rfl,rfl⟩⟩,n2,λ_=>rfl⟩
theorem P2{q p:U}{pre post:List U}(e:[q]=pre++p ::post):pre=[]/\q=p/\post=[]:=by
 cases pre with
 | nil=>cases e;exact ⟨rfl,rfl,rfl⟩
 | cons x r=>simp at e
theorem hist_end{es:Array MapEntry}{n:Nat}(rs:HQ hBi (λb=>aN b\/b=l) h hc)(jY:∀b,aN b↔X b\/b=rk)(jn:¬X rk)(nl:¬X l)(bl:hc l=some (true,.loop { lo with state:=.busy }))(bk:hc rk=some (true,.map es n))(hX:∀b,X b->hBi b=none)
  (y:TW hB aQ [p] X hc h') {e:Exit} {O:Nat->aU} {ds:List Deferred} (he:e=.normal):Sh hBi (TY hBi aQ X0 rk) (λ_ _=>False) [p] aN h l lo e O ds h':=by
 obtain ⟨X',c,a,u,f⟩:=y;subst he;have g:hBi.Le h':=λb q o d=>by
  obtain ⟨i,j,k⟩:=rs.base b q o d;obtain ⟨m,s,t⟩:=a b q i j λz=>by rw [hX b z] at d;cases d
  rcases k with rfl | ⟨z,_⟩
  ·exact ⟨m,s,t⟩
  ·cases z
 refine ⟨a.box bl nl rfl,λb=>X' b\/b=rk,?_,rs.keep.trans (λr q=>.inl (.inl ((jY r).2 (.inl q)))) a,g,X',f,λ_=>Iff.rfl,λq=>?_,⟨es,n,a.box bk jn rfl,λq=>by cases q⟩,λb q=>?_,λq=>by cases q⟩
 ·rintro b (q | rfl)
  ·exact (c b q).imp (λz=>(jY b).2 (.inl z)) λz=>rs.nothing z
  ·exact .inl ((jY _).2 (.inr rfl))
 ·rcases c rk q with z | z
  ·exact jn z
  ·rw [bk] at z;cases z
 ·rcases c b q with z | z
  ·exact hX b z
  ·exact rs.base.nothing z
theorem hist_fin{all:List U}{d:Nat}(P:FJ hB aQ)(l0:h0.Le hc)(k0:h0 rk=none)(lB:hB.Le hBi)(hi:hBi=hc.delS λb=>X0 b\/b=rk)(j:TY hBi aQ X0 rk all aN h)(nY:∀b,aN b->b≠d)(lE:hBi.Le h)(nd:hBi d=none)(hcd:hc d=none)(ho:∀b,b≠d->h' b=h b):TW hB aQ all X0 h0 h':=by
 obtain ⟨X,j,k,_,_,m,_⟩:=j;have f:¬X d:=λq=>nY d ((k d).2 (.inl q)) rfl;have c:=(lB.trans lE).upd (lB.nothing nd) ho;refine ⟨X,λb q=>?_,λb q o g n=>?_,c,P.store j f ho c⟩
 ·by_cases z:X0 b
  ·exact .inl z
  ·refine .inr ?_;by_cases e:b=rk
   ·subst e;exact k0
   ·have:=m b q
    rw [hi,L.delS_ne (by rintro (r | r);exact z r;exact e r)] at this;exact l0.nothing this
 ·have e:b≠rk:=λe=>by rw [e,k0] at g;cases g
  have a:=l0.keep g rfl;have s:b≠d:=λe=>by rw [e,hcd] at a;cases a
  have i:hBi b=some (q,o):=by rw [hi,L.delS_ne (by rintro (r | r);exact n r;exact e r)];exact a
  exact ⟨o,by rw [ho b s];exact lE.keep i rfl,.inl rfl⟩
end
theorem Fm.leNil{h h':L}{v':aU}(g:Fm h h' (.slice none 0 0) v'):h.Le h':=λb p o a=>⟨o,g.1 b _ a (λe=>by cases e),.inl rfl⟩
def Ta{U β:Type}(hB:L)(r:Nat)(T t1 t2 n1 n2:Nat)(e1:U->Array aU)(e2:β->Array aU)(f:U->β)(m a b:aU)(pre:List U)(aN:Nat->Prop)(h:L):Prop:=
 ∃w1 w2,h r=some (true,.cells #[m,a,b,w1,w2] T (0,0))/\AN hB h w1 t1 n1 e1 pre/\AN hB h w2 t2 n2 e2 (pre.map f)/\Apart w1 w2/\BL w1 r/\BL w2 r/\hB r=none/\(∀x,aN x↔x=r\/Bv w1=some x\/Bv w2=some x)/\(pre=[]->w1=.slice none 0 0/\w2=.slice none 0 0)
section
variable {U β:Type} {hB h h':L} {r T t1 t2 n1 n2:Nat} {e1:U->Array aU} {e2:β->Array aU} {f:U->β} {m a b:aU} {pre:List U}
theorem YJ:∀(pre:List U)(aN:Nat->Prop)(h:L)(x:Nat),Ta hB r T t1 t2 n1 n2 e1 e2 f m a b pre aN h->aN x->hB x=none:=by
 rintro pre aN h x ⟨j,k,_,c,d,_,_,_,e,g,_⟩ i;rcases (g x).1 i with rfl | q | q
 ·exact e
 ·exact c.fresh _ q
 ·exact d.fresh _ q
theorem OI:FJ hB (Ta hB r T t1 t2 n1 n2 e1 e2 f m a b):=by
 refine ⟨?_,?_⟩
 ·rintro pre s h x ⟨n,p,e,g,i,_,_,_,_,d,_⟩ t;rcases (d x).1 t with rfl | q | q
  ·exact ⟨_,_,e,rfl⟩
  ·obtain ⟨c,j⟩:=g.cellsAt x q;exact ⟨_,_,j,rfl⟩
  ·obtain ⟨c,j⟩:=i.cellsAt x q;exact ⟨_,_,j,rfl⟩
 ·rintro pre s h h' ⟨n,p,e,g,i,u,f1,f2,v,d,w⟩ same _;exact ⟨n,p,(same r ((d r).2 (.inl rfl))).trans e,g.keep (λx o k l=>by rw [same x ((d x).2 (.inr (.inl k)))];exact l),i.keep (λx o k l=>by rw [same x ((d x).2 (.inr (.inr k)))];exact l),u,f1,f2,v,d,w⟩
theorem Tb(x:h r=some (true,.cells #[m,a,b,.slice none 0 0,.slice none 0 0] T (0,0)))(h0:hB r=none):Ta hB r T t1 t2 n1 n2 e1 e2 f m a b [] (λx=>x=r) h:=
 ⟨_,_,x,AN.nil _ _ _ _ _,AN.nil _ _ _ _ _,Apart.nil,BL.nil,BL.nil,h0,λ_=>⟨.inl,λq=>q.elim id λq=>q.elim (λe=>by cases e) λe=>by cases e⟩,λ_=>⟨rfl,rfl⟩⟩
theorem YK{v1 v2:aU}{aN:Nat->Prop}(hr:aN r)(k1:∀q,Bv v1=some q->h q=none)(k2:∀q,Bv v2=some q->h q=none)
  (x:h' r=some (true,.cells #[m,a,b,v1,v2] T (0,0))) (o1:AN hB h' v1 t1 n1 e1 pre) (o2:AN hB h' v2 t2 n2 e2 (pre.map f)) (ap:Apart v1 v2) (f1:BL v1 r) (f2:BL v2 r) (h0:hB r=none) (hp:¬pre=[]) :
  ∃Y',(∀x,Y' x->aN x\/h x=none)/\Ta hB r T t1 t2 n1 n2 e1 e2 f m a b pre Y' h':=by
 refine ⟨λx=>x=r\/Bv v1=some x\/Bv v2=some x,?_,v1,v2,x,o1,o2,ap,f1,f2,h0,λ_=>Iff.rfl,λe=>absurd e hp⟩;rintro x (rfl | q | q)
 ·exact .inl hr
 ·exact .inr (k1 _ q)
 ·exact .inr (k2 _ q)
end
end Go.Ns
namespace Go.Ns
theorem JG{U:Type}{l:List U}{x z:U}{k:Nat}(h:k<l.length):(l++[x]).getD k z=l.getD k z:=by
 rw [OC,aT h]
theorem JH{U:Type}{l:List U}{x z:U}:(l++[x]).getD l.length z=x:=by
 rw [OC,aS (Nat.lt_irrefl _),Nat.sub_self];rfl
theorem Lt{n:Int}{ms:List AG}{m:AG}:∀{k:Nat},k<=ms.length->Fo n (ms++[m]) k=Fo n ms k
 | 0,_=>rfl
 | k+1,h=>by
  unfold Fo;rw [Lt Y,JG Y]
theorem Me{ms:List AG}{m:AG}{k:Nat}(h:k<=ms.length):Dt (ms++[m]) k=Dt ms k:=by
 unfold Dt;split
 ·rfl
 ·rw [JG Y]
def Mf(sl:List Ak):Nat->Int
 | 0=>0
 | k+1=>Mf sl k+(sl.getD k Ak.z).low
theorem P3{sl:List Ak}{x:Ak}:∀{k:Nat},k<=sl.length->Mf (sl++[x]) k=Mf sl k
 | 0,_=>rfl
 | k+1,h=>by
  unfold Mf;rw [P3 Y,JG Y]
theorem P4{sl:List Ak}:∀k,k<=sl.length->CE (Bb (DG sl) sl.length) k=Mf sl k
 | 0,_=>rfl
 | k+1,h=>by
  unfold CE Mf;rw [P4 k Y];congr 1;unfold Bb;rw [aT Y];exact wrP_at Y
structure Ha(n k:Nat)(ms:List AG)(os:List Ak)(hv:Int):Prop where
 sm:MZ n ms
 last:Dt ms ms.length<=k
 len:ms.length<=k/\os.length<=k
 bal:∀j,j<=ms.length->0<=Fo 99 ms j
 fin:Fo 99 ms ms.length=hv
 sl:EY os
 sum:Mf os os.length=99-hv
 rng:0<=hv/\hv<=99
section
variable {n k:Nat} {ms:List AG} {os:List Ak} {hv x dp cl:Int}
theorem Ha.first(n:Nat):Ha n 0 [] [] 99:=
 ⟨⟨aD,λk a=>by cases a⟩,Int.le_refl 0,⟨Nat.le_refl 0,Nat.le_refl 0⟩,λj b=>by
  have:j=0:=by simpa using b
  subst this;exact (aC:(0:Int)<=99),rfl,⟨aD,λk a=>by cases a⟩,rfl,aC⟩
theorem Ha.skip(h:Ha n k ms os hv):Ha n (k+1) ms os hv:=
 ⟨h.sm,by have:=h.last;omega,by have:=h.len;omega,h.bal,h.fin,h.sl,h.sum,h.rng⟩
theorem Ha.next(h:Ha n k ms os hv)(hk:k<n/\n<=6)(hx:0<=x/\x<=hv)(hd:0<=dp/\dp<=4)(hc:0<=cl/\cl<=3):Ha n (k+1) (ms++[⟨1,0,(k:Int)+1,x,x⟩]) (os++[⟨dp,cl,x⟩]) (hv-x):=by
 have f:=h.rng;have g:=h.len;have d:=h.last;have a:(ms++[(⟨1,0,(k:Int)+1,x,x⟩:AG)]).length=ms.length+1:=aD
 have e:(os++[(⟨dp,cl,x⟩:Ak)]).length=os.length+1:=aD
 have b:Fo 99 (ms++[(⟨1,0,(k:Int)+1,x,x⟩:AG)]) (ms.length+1)=hv-x:=by
  unfold Fo;rw [Lt (Nat.le_refl _),JH,h.fin];show hv+signed 1 x=_;unfold signed;simp;omega
 refine ⟨⟨Y,λj c=>?_⟩,?_,Y,λj c=>?_,by rw [a];exact b,⟨Y,λj c=>?_⟩,?_,Y⟩
 ·rcases Nat.lt_or_ge j ms.length with q | q
  ·rw [JG q,Me Y];exact h.sm.mv j q
  ·have:j=ms.length:=Y
   subst this;rw [JH,Me (Nat.le_refl _)];refine ⟨show (1:Int)<=1/\(1:Int)<=4 by decide,rfl,show 1<=(k:Int)+1/\(k:Int)+1<=n by omega,show _<=(k:Int)+1 by omega,rfl,show 0<=x/\x<=99 by omega⟩
 ·rw [a];unfold Dt;rw [aS Y,Nat.add_sub_cancel,JH];show (k:Int)+1<=_;omega
 ·rcases Nat.lt_or_ge j (ms.length+1) with q | q
  ·rw [Lt Y];exact h.bal j Y
  ·have:j=ms.length+1:=Y
   subst this;rw [b];omega
 ·rcases Nat.lt_or_ge j os.length with q | q
  ·rw [JG q];exact h.sl.at_ j q
  ·have:j=os.length:=Y
   subst this;rw [JH];exact ⟨hd,hc,show 0<=x/\x<=99 by omega⟩
 ·rw [e];unfold Mf;rw [P3 (Nat.le_refl _),JH,h.sum];show 99-hv+x=_;omega
theorem Ha.sure(h:Ha n k ms os hv)(h1:1<=n/\n<=6):SureR n 1 99 hv (BQ 0) ms:=by
 have:=sure_all (nm:=BQ 0) (cost:=1) (n:=99) (gName_ok (n:=0) aC) aC aC (show 1<=(n:Int)/\(n:Int)<=99 by omega) h.sm h.bal
 rw [h.fin] at this;exact this
theorem Ha.total(h:Ha n k ms os hv):CE (Bb (DG os) os.length) os.length=99-hv:=by
 rw [P4 _ (Nat.le_refl _)];exact h.sum
end
end Go.Ns
namespace Go.Ns
open Go.Conc
section
variable {P:Program} {Post:aU->World->Prop}
def XM(P:Program)(Post:aU->World->Prop):Wk P:=⟨true,Dj P Post,Jp⟩
theorem Rr:N8 (XM P Post):=⟨Post,rfl⟩
theorem YL{f:FuncId}{fn:Func}{c:Code}{args:Array aU}{h:L}{R:aU->L->Prop}(hf:P.funcs[f]? =some fn)(hb:fn.body=some c)(hsz:args.size<=fn.ntmps)(hin:P.inits.idxOf? f=none)(hpost:∀v h',R v h'->∀w,Dr w h'->Post v w)
  (x:Tr ⟨XM P Post,f,none,fn.ntmps⟩ c (λi=>args.getD i undef) [] h (λe O ds h'=>(e=.normal\/e=.ret)/\Fp P fn O R ds h')):Dj P Post (G (Frame.enter P f args .normal) []) h:=by
 have u:Frame.enter P f args .normal=CY (Frame.enter P f args .normal) (args++Array.replicate (fn.ntmps-args.size) undef) [] [.code c]:=by
  simp [Frame.enter,CY,hf,hb]
 rw [u];let y:Lv:=λj t ds h'=>(j=none\/j=some .ret)/\∃O,BU t fn.ntmps O/\Fp P fn O R ds h';have d:∀O ds h' t k,BU t fn.ntmps O->Fp P fn O R ds h'->(XM P Post).K (G (Da (Frame.enter P f args .normal) t ds k) []) h':=by
  intro O ds h' t k g a;refine MK (W:=XM P Post) (R:=R) hf (b:=Frame.enter P f args .normal) rfl (λt k v h h' z l=>?_) ds h' t k g a;refine UW rfl λw A=>?_;obtain ⟨p,q,B,r⟩:=l w A;refine ⟨v,p,seen P f q++ #[],h',?_,r.sub (es':=seen P f q++ #[]) λe n=>?_,hpost v h' z p r.fits⟩
  ·rw [J3];unfold unwind;have o:(Da (Frame.enter P f args .normal) t [] k).fn=f:=rfl;have C:(Da (Frame.enter P f args .normal) t [] k).kind=.normal:=rfl;have D:(Da (Frame.enter P f args .normal) t [] k).mode=.returning:=rfl;have E:(Da (Frame.enter P f args .normal) t [] k).defers=[]:=rfl;have F:(Da (Frame.enter P f args .normal) t [] k).tmps=t:=rfl;simp only [E,D,o,hf,F,B,GStep.after,doReturn,C,hin];rfl
  ·rw [Array.append_empty] at n;exact mem_seen n
 refine x (Frame.enter P f args .normal) [] [] y _ rfl rfl ⟨?_,?_,?_⟩ ⟨by simp;omega,λi=>?_⟩ ?_
 ·rintro t ds h' ⟨_,O,g,a⟩;exact Wk.go (Da (Frame.enter P f args .normal) t ds []) (λw=>by rw [Ay];simp [stepG.exec,CY,Da,G,Frame.enter]) (d O ds h' t [] g a)
 ·rintro t ds h' k ⟨_,O,g,a⟩;exact Wk.go (Da (Frame.enter P f args .normal) t ds (.code .ret ::k)) (λw=>by rw [Ay];simp [stepG.exec,CY,Da,G,Frame.enter]) (d O ds h' t _ g a)
 ·rintro id t ds h' k _ ⟨h1 | h1,_⟩ <;> cases h1
 ·by_cases H:i<args.size
  ·simp [Array.getD_eq_getD_getElem?,Array.getElem?_append_left H]
  ·simp only [Array.getD_eq_getD_getElem?];rw [Array.getElem?_append_right Y,Array.getElem?_eq_none (show args.size<=i by omega),Array.getElem?_replicate];split <;> rfl
 ·rintro e O ds h' ⟨n,a⟩ s m;rcases n with rfl | rfl
  ·exact Wk.go (Da (Frame.enter P f args .normal) s ds []) (λw=>by rw [Ay];simp [stepG.exec,CY,Da,G,Frame.enter]) (d O ds h' s [] m a)
  ·exact ⟨.inr rfl,O,m,a⟩
def L.of(W:World):L:=λb=>(W.heap[b]?).map λo=>(false,o)
theorem L.of_some{W:World}{b:Nat}{o:Obj}(h:W.heap[b]? =some o):L.of W b=some (false,o):=by unfold L.of;rw [h];rfl
theorem fits_of(W:World):Dr W (L.of W):=λb p o h=>by
 unfold L.of at h;cases e:W.heap[b]? with
 | none=>rw [e] at h;cases h
 | some x=>rw [e] at h;cases h;rfl
theorem kept_of{W w:World}{h:L}(l:(L.of W).Le h)(f:Dr w h){b:Nat}{o:Obj}(hb:W.heap[b]? =some o):w.heap[b]? =some o:=f b _ _ (l.keep (L.of_some hb) rfl)
theorem VV{g:Goroutine}{W:World}(hg:Dj P Post g (L.of W)):Bi P (II Post W.os W.output) (solo g W) #[]:=by
 have c:∀k a,touchAt (#[]:Trace) k=some a->False:=λk a h=>by
  obtain ⟨f,m,_⟩:=touch_of h;simp at m
 refine hg #[g] W none (λ_=>0) #[] ⟨rfl,?_,fits_of W,?_,?_,λk a b e=>(c k a e).elim,?_,λk a e=>(c k a e).elim,λb p o k a _ _ e=>(c k a e).elim⟩
 ·intro j x r l;rw [Array.getElem?_eq_none (by simp;omega)] at l;cases l
 ·intro f d;simp at d
 ·rintro said ⟨i,j,n,⟨a,b,q,_⟩,_⟩;exact c i a q
 ·intro f d;simp at d
end
end Go.Ns
namespace Go.Ns
open Go.Conc Go.ChangeShapes Go.WideShapes Go.ChangeAt Go.RowKit
section
variable {P:Program} {W:World}
theorem OJ{b off n:Nat}{cs:List aU}(h:W.cells? 0 ⟨b,off,none⟩ n=some cs)(hn:0<n):AX (L.of W) b off n cs.toArray:=by
 obtain ⟨_,p,k⟩:=World.cells?_some h;have hcell:∀i,i<n->W.cell? ⟨b,off+i,none⟩=cs[i]? :=λi d=>by
  have:=k i d
  unfold Addr.add at this;split at this
  ·rename_i e;subst e;exact this
  ·exact this
 have j:=hcell 0 hn;unfold World.cell? at j;cases g:W.heap[b]? with
 | none=>simp [g,List.getElem?_eq_getElem (show 0<cs.length by omega)] at j
 | some o=>
  cases o with
  | cells c t f=>
   have a:∀i,i<n->c[off+i]? =cs[i]? :=λi d=>by
    have:=hcell i d
    unfold World.cell? at this;simpa [g] using this
   have hlast:=a (n-1) Y;rw [List.getElem?_eq_getElem (show n-1<cs.length by omega)] at hlast;have l:=(Array.getElem?_eq_some_iff.1 hlast).1;refine ⟨false,c,t,f,L.of_some g,Y,?_⟩;apply Array.ext
   ·simp;omega
   ·intro i q m;have d:i<n:=by simp at m;omega
    have:=a i d
    rw [Array.getElem?_eq_getElem Y,List.getElem?_eq_getElem Y] at this;simpa using this
  | _=>simp [g,List.getElem?_eq_getElem (show 0<cs.length by omega)] at j
def Opens(P:Program)(e:aV){U:Type}(enc:U->Array aU)(good:U->Prop):Prop:=
 ∀{H:Type}(en:aV×aU->H)(W:World)(base:Nat)(sp:Nat->Bool)(held:Bool)(fuel:Nat)(cs:List aU)(x:DataW H×List MemPlace),DataW.trod en P W base sp held fuel e cs=some x->∃a:U,cs=(enc a).toList/\good a
theorem open_sl{H:Type}{en:aV×aU->H}{sp:Nat->Bool}{held:Bool}{fuel:Nat}{t e:aV}{n:Nat}{U:Type}{enc:U->Array aU}{good:U->Prop}{v:aU}{d:DataW H}{ps:List MemPlace}(ht:P.underlying t=some (.slice e))(hc:P.cellsOf e=n)(hn:0<n)
  (ho:Opens P e enc good) (h:DataW.trod en P W 0 sp held fuel t [v]=some (d,ps)) (hw:∀es rs,d=.slice es rs->es.length<=140737488355328):∃xs:List U,AJ (L.of W) v n enc xs/\∀x ∈ xs,good x:=by
 rcases DataW.trod_slice ht h with ⟨o,_⟩ | ⟨a,f,p,elems,rest,m,rfl,o,C,_,E,_,q,r,_,_⟩
 ·simp at o;subst o;exact ⟨[],AJ.nil _ _ _,λx j=>by cases j⟩
 ·simp only [List.cons.injEq,and_true] at o;subst o;simp only [Prod.mk.injEq] at C;have s:f<=140737488355328:=by
   have:=hw _ _ C.1
   simpa [q] using this
  have each:∀i,i<f->∃x:U,∃b c,a=⟨b,c,none⟩/\AX (L.of W) b (c+i*n) n (enc x)/\good x:=λi l=>by
   have:=r i l
   rw [List.getElem?_eq_getElem Y,hc] at this;simp only [Option.bind_eq_some_iff] at this;obtain ⟨F,g,j⟩:=this;obtain ⟨x,w,y⟩:=ho _ _ _ _ _ _ _ _ j;have u:=(World.cells?_some g).2.2 0 hn;have A:=(World.cells?_some g).2.1;rw [List.getElem?_eq_getElem (show 0<F.length by omega)] at u;have B:=World.cell?_spot u;obtain ⟨b,c,spot⟩:=a;have hspot:spot=none\/i≠0:=by
    by_cases D:i=0
    ·subst D;left;simpa [Addr.add] using B
    ·exact .inr D
   have hfirst:spot=none:=by
    rcases hspot with e | e
    ·exact e
    ·have h00:=r 0 Y;rw [List.getElem?_eq_getElem Y,hc] at h00;simp only [Option.bind_eq_some_iff] at h00;obtain ⟨K,hc00,_⟩:=h00;have z:=(World.cells?_some hc00).2.2 0 hn;have Q:=(World.cells?_some hc00).2.1;rw [List.getElem?_eq_getElem (show 0<K.length by omega)] at z
     have:=World.cell?_spot z
     simpa [Addr.add] using this
   subst hfirst;refine ⟨x,b,c,rfl,?_,y⟩;have M:(Addr.add ⟨b,c,none⟩ (i*n))=⟨b,c+i*n,none⟩:=by
    unfold Addr.add;split
    ·rename_i e;rw [e];rfl
    ·rfl
   rw [M] at g
   have:=OJ g hn
   rw [w] at this;simpa using this
  by_cases N:f=0
  ·subst N;exact ⟨[],⟨some a,p,rfl,Nat.zero_le _,Nat.zero_le _,λi l=>by simp at l⟩,λx j=>by cases j⟩
  ·have k:∀i:Fin f,∃x:U,∃b c,a=⟨b,c,none⟩/\AX (L.of W) b (c+i.val*n) n (enc x)/\good x:=λi=>each i.val i.isLt;refine ⟨List.ofFn λi=>Classical.choose (k i),⟨some a,p,by rw [List.length_ofFn],by rw [List.length_ofFn];exact E,by rw [List.length_ofFn];exact s,λi l=>?_⟩,λx j=>?_⟩
   ·rw [List.length_ofFn] at l;obtain ⟨b,c,w,y,_⟩:=Classical.choose_spec (k ⟨i,l⟩);refine ⟨b,c,by rw [w],?_⟩;rw [List.getElem_ofFn];exact y
   ·obtain ⟨i,rfl⟩:=List.mem_ofFn.1 j;obtain ⟨_,_,_,_,O⟩:=Classical.choose_spec (k i);exact O
def VW(P:Program)(W:World)(e:aV){U:Type}(enc:U->Array aU)(good:U->Prop):Prop:=
 ∀{H:Type}(en:aV×aU->H)(sp:Nat->Bool)(held:Bool)(fuel:Nat)(cs:List aU)(x:DataW H×List MemPlace),DataW.trod en P W 0 sp held fuel e cs=some x->(∀y ∈ x.1.weights P e,y<=reachBytes)->∃a:U,cs=(enc a).toList/\good a
theorem JI{H:Type}{e:aV}{d:DataW H}{y:Nat}:∀{l:List (DataW H)},d ∈ l->y ∈ d.weights P e->y ∈ DataW.weightsAll P e l
 | c ::l,hd,a=>by
  unfold DataW.weightsAll;rcases List.mem_cons.1 hd with rfl | hd
  ·exact List.mem_append_left _ a
  ·exact List.mem_append_right _ (JI hd a)
theorem Tc{H:Type}{en:aV×aU->H}{sp:Nat->Bool}{held:Bool}{fuel:Nat}{t e:aV}{n:Nat}{U:Type}{enc:U->Array aU}{good:U->Prop}{v:aU}{d:DataW H}{ps:List MemPlace}(ht:P.underlying t=some (.slice e))(hc:P.cellsOf e=n)(hn:0<n)
  (hb:1<=P.bytesOf e) (ho:VW P W e enc good) (h:DataW.trod en P W 0 sp held fuel t [v]=some (d,ps)) (hw:∀y ∈ d.weights P t,y<=reachBytes):∃xs:List U,AJ (L.of W) v n enc xs/\∀x ∈ xs,good x:=by
 rcases DataW.trod_slice ht h with ⟨o,_⟩ | ⟨a,f,p,elems,rest,m,rfl,o,C,_,M,_,D,q,_,_⟩
 ·simp at o;subst o;exact ⟨[],AJ.nil _ _ _,λx j=>by cases j⟩
 ·simp only [List.cons.injEq,and_true] at o;subst o;simp only [Prod.mk.injEq] at C;have E:d=.slice (elems.map (·.1)) (rest.map (·.1)):=C.1;have r:f<=140737488355328:=by
   have:=hw ((elems.map (·.1)).length+(rest.map (·.1)).length |>.mul (P.bytesOf e)) (by rw [E];unfold DataW.weights;rw [ht];exact List.mem_cons_self ..)
   have N:(elems.map (·.1)).length+(rest.map (·.1)).length<=((elems.map (·.1)).length+(rest.map (·.1)).length)*P.bytesOf e:=Nat.le_mul_of_pos_right _ hb;have F:((elems.map (·.1)).length+(rest.map (·.1)).length)*P.bytesOf e<=reachBytes:=this;rw [List.length_map] at N F;unfold reachBytes at F;omega
  have each:∀i,i<f->∃x:U,∃b c,a=⟨b,c,none⟩/\AX (L.of W) b (c+i*n) n (enc x)/\good x:=λi l=>by
   have:=q i l
   rw [List.getElem?_eq_getElem Y,hc] at this;simp only [Option.bind_eq_some_iff] at this;obtain ⟨O,g,j⟩:=this;obtain ⟨x,u,w⟩:=ho _ _ _ _ _ _ j λy Q=>hw y (by rw [E];unfold DataW.weights;rw [ht];exact List.mem_cons_of_mem _ (List.mem_append_left _ (JI (List.mem_map.2 ⟨_,List.getElem_mem (show i<elems.length by omega),rfl⟩) Q)));have s:=(World.cells?_some g).2.2 0 hn;have A:=(World.cells?_some g).2.1;rw [List.getElem?_eq_getElem (show 0<O.length by omega)] at s;have B:=World.cell?_spot s;obtain ⟨b,c,spot⟩:=a;have hspot:spot=none\/i≠0:=by
    by_cases K:i=0
    ·subst K;left;simpa [Addr.add] using B
    ·exact .inr K
   have hfirst:spot=none:=by
    rcases hspot with e | e
    ·exact e
    ·have h00:=q 0 Y;rw [List.getElem?_eq_getElem Y,hc] at h00;simp only [Option.bind_eq_some_iff] at h00;obtain ⟨R,hc00,_⟩:=h00;have z:=(World.cells?_some hc00).2.2 0 hn;have zl:=(World.cells?_some hc00).2.1;rw [List.getElem?_eq_getElem (show 0<R.length by omega)] at z
     have:=World.cell?_spot z
     simpa [Addr.add] using this
   subst hfirst;refine ⟨x,b,c,rfl,?_,w⟩;have S:(Addr.add ⟨b,c,none⟩ (i*n))=⟨b,c+i*n,none⟩:=by
    unfold Addr.add;split
    ·rename_i e;rw [e];rfl
    ·rfl
   rw [S] at g
   have:=OJ g hn
   rw [u] at this;simpa using this
  by_cases T:f=0
  ·subst T;exact ⟨[],⟨some a,p,rfl,Nat.zero_le _,Nat.zero_le _,λi l=>by simp at l⟩,λx j=>by cases j⟩
  ·have k:∀i:Fin f,∃x:U,∃b c,a=⟨b,c,none⟩/\AX (L.of W) b (c+i.val*n) n (enc x)/\good x:=λi=>each i.val i.isLt;refine ⟨List.ofFn λi=>Classical.choose (k i),⟨some a,p,by rw [List.length_ofFn],by rw [List.length_ofFn];exact M,by rw [List.length_ofFn];exact r,λi l=>?_⟩,λx j=>?_⟩
   ·rw [List.length_ofFn] at l;obtain ⟨b,c,u,w,_⟩:=Classical.choose_spec (k ⟨i,l⟩);refine ⟨b,c,by rw [u],?_⟩;rw [List.getElem_ofFn];exact w
   ·obtain ⟨i,rfl⟩:=List.mem_ofFn.1 j;obtain ⟨_,_,_,_,X⟩:=Classical.choose_spec (k i);exact X
theorem P5{H:Type}{en:aV×aU->H}{t:aV}(hl:laidOutB P=true)(hr:P.readableRec t=true)(hrow:t<P.types.size){W':World}{v:aU}{d:DataW H}{ps:List MemPlace}(h:DataW.Trod en P W 0 (λ_=>true) true t v d ps)
  (hk:∀(b:Nat)(o:Obj),W.heap[b]? =some o->W'.heap[b]? =some o) (hlt:∀x ∈ ps,x.block<W.heap.size):DataW.Trod en P W' 0 (λb=>decide (b<W.heap.size)) true t v d ps:=by
 let W2:World:={ W' with os:=W.os,tape:=W.tape,output:=W.output };have c:W.heap.size<=W'.heap.size:=by
  rcases Nat.lt_or_ge W'.heap.size W.heap.size with x | x
  ·have:=hk W'.heap.size _ (Array.getElem?_eq_getElem x)
   rw [Array.getElem?_eq_none (Nat.le_refl _)] at this;cases this
  ·exact x
 have e:Below W.heap.size W W2:=⟨rfl,rfl,rfl,c,λk a=>by
  show W'.heap[k]? =_;rw [Array.getElem?_eq_getElem a];exact hk k _ (Array.getElem?_eq_getElem a)⟩
 exact DataW.Trod.of_heap (w:=W2) (w':=W') rfl (Below.trod hl hr hrow h e hlt)
theorem kept_but{W':World}(hk:∀(b:Nat)(o:Obj),W.heap[b]? =some o->W'.heap[b]? =some o)(ho:W'.os=W.os)(hp:W'.output=W.output)(may:MemPlace->Prop):W.keptBut W' may:=by
 refine ⟨ho,hp,λi a=>?_⟩;rw [hk i _ (Array.getElem?_eq_getElem a),Array.getElem?_eq_getElem a];split <;> simp_all
end
end Go.Ns
namespace Go.Ns
open Go.Conc
universe u
theorem Z{U:Sort u}{a:U}:a=a:=rfl
theorem Lr{h:L}:L.Le h h:=L.Le.refl h
theorem Ln{h h':L}(l:h.Le h'){r:Nat}(hr:h' r=none):h r=none:=l.nothing hr
theorem CR{h:L}{b r:Nat}{p:Bool}{o:Obj}(hb:h b=some (p,o))(hr:h r=none):b≠r:=L.ne_of hb hr
theorem Nb{a b:Nat}(h:Nat.ble a b=true):a<=b:=Nat.le_of_ble_eq_true h
theorem Dn{p:Prop}[Decidable p](h:¬¬p):p:=Decidable.not_not.1 h
theorem Et{U:Sort u}{a b c:U}(x:a=b)(y:b=c):a=c:=x.trans y
theorem Kl{h0 h:L}(k:D1 (λb=>h0 b=none) h0 h):h0.Le h:=k.leOf
theorem Bx{h:L}{b:Nat}{p:Bool}{c:Array aU}{t:aV}{f:Nat×Nat}(hb:h b=some (p,.cells c t f)){n:Nat}(hn:c.size=n):AX h b 0 n c:=AX.box hb hn
abbrev lE(v:aU):Hs:=λ_ u _=>u=v
abbrev lF(v:aU):O0:=λu _=>u=v
abbrev zP:Array aU:=#[.int .i64 0,.int .i64 0,.slice none 0 0,.slice none 0 0,.slice none 0 0,.slice none 0 0,.map none]
section
variable {P:Program} {E:Fl P} {O:Nat->aU} {ds:List Deferred} {h:L} {Q:Post} {T:(Nat->aU)->List Deferred->L->Prop}
variable {dst:Option Nat} {ty:aV} {pos:String} {af:Array Edge} {ops:Array Oper} {o:Oper} {l:List Oper}
theorem Sq{x y:Code}(a:Tr E x O ds h (λe σ' ds' h'=>match e with | .normal=>Tr E y σ' ds' h' Q | e=>Q e σ' ds' h')):Tr E (.seq x y) O ds h Q:=Zi a
theorem Rg{id:Nat}{l:List Oper}(a:DH E l.toArray l O ds h Q):Tr E (.region id l.toArray false) O ds h Q:=XT a
theorem V(q:Q .normal O ds h):DH E ops [] O ds h Q:=trL_nil q
abbrev Rt:=@tr_ret
abbrev Bk:=@Zj
abbrev Sk:=@tr_skip
abbrev Xt:=@tr_exit
def plainB(N:Nat)(o:Oper):Bool:=o.guard.isNone && !EA o.op && DI o.dst N
theorem I(hp:plainB E.N o=true)(x:BS E o O ds h λσ' ds' h'=>DH E ops l σ' ds' h' Q):DH E ops (o ::l) O ds h Q:=by
 simp only [plainB,Bool.and_eq_true,Option.isNone_iff_eq_none,Bool.not_eq_true'] at hp;exact Fq hp.1.1 hp.1.2 hp.2 x
theorem Mv{x:Operand}(v:aU)(hp:DI dst E.N=true)(hx:AL O x=v)(k:DH E ops l (putS O dst v) ds h Q):DH E ops (⟨dst,.move x,ty,pos,af,none⟩ ::l) O ds h Q:=Fq rfl rfl hp (QX hx k)
theorem As{x:Operand}(v:aU)(hp:DI dst E.N=true)(hx:AL O x=v)(k:DH E ops l (putS O dst v) ds h Q):DH E ops (⟨dst,.assign x,ty,pos,af,none⟩ ::l) O ds h Q:=Fq rfl rfl hp (Fr hx k)
theorem Ld{t:aV}{x:Operand}{b off:Nat}(v:aU)(hp:DI dst E.N=true)(hx:AL O x=.pointer (some ⟨b,off,none⟩))(hr:Rd P h t b off v)(k:DH E ops l (putS O dst v) ds h Q):DH E ops (⟨dst,.load t x,ty,pos,af,none⟩ ::l) O ds h Q:=
 Fq rfl rfl hp (CS hx hr k)
theorem Fa{s:aV}{x:Operand}{f o b off:Nat}(hf:B6 P s f=some o)(hp:DI dst E.N=true)(hx:AL O x=.pointer (some ⟨b,off,none⟩))(k:DH E ops l (putS O dst (.pointer (some ⟨b,off+o,none⟩))) ds h Q) :
  DH E ops (⟨dst,.fieldAddr s x f,ty,pos,af,none⟩ ::l) O ds h Q:=Fq rfl rfl hp (AD hf hx k)
theorem Pk{c a b:Operand}(t:Bool)(v:aU)(hp:DI dst E.N=true)(hc:AL O c=.bool t)(hv:(if t then AL O a else AL O b)=v)(k:DH E ops l (putS O dst v) ds h Q):DH E ops (⟨dst,.pick c a b,ty,pos,af,none⟩ ::l) O ds h Q:=
 Fq rfl rfl hp (Ax hc hv k)
theorem Ad{xt yt:aV}{x y:Operand}(a b:Int)(hp:DI dst E.N=true)(hx:AL O x=.int .i64 a)(hy:AL O y=.int .i64 b)(hr: -9223372036854775808<=a+b/\a+b<=9223372036854775807)(k:DH E ops l (putS O dst (.int .i64 (a+b))) ds h Q) :
  DH E ops (⟨dst,.binOp .add xt x y yt,ty,pos,af,none⟩ ::l) O ds h Q:=Fq rfl rfl hp (Ci hx hy hr k)
def skipB(N:Nat)(ops:Array Oper)(o:Oper)(j d:Nat)(is:Bool):Bool:=(match o.guard with
 | some (i,w)=>i==j && w !=is
 | none=>false) && (match ops[j]? with
 | some oj=>(match oj.dst with
  | some e=>e==d
  | none=>false)
 | none=>false) && Nat.blt d N && DI o.dst N
theorem Gs(j d:Nat){is:Bool}(hv:O d=.bool is)(hs:skipB E.N ops o j d is=true)(x:DH E ops l (putS O o.dst undef) ds h Q):DH E ops (o ::l) O ds h Q:=by
 simp only [skipB,Bool.and_eq_true] at hs;obtain ⟨⟨⟨a,b⟩,m⟩,n⟩:=hs;cases f:o.guard with
 | none=>rw [f] at a;cases a
 | some q=>
  obtain ⟨i,w⟩:=q;rw [f] at a;simp only [Bool.and_eq_true,beq_iff_eq,bne_iff_ne,ne_eq] at a;obtain ⟨rfl,g⟩:=a;cases c:ops[i]? with
  | none=>rw [c] at b;cases b
  | some p=>
   cases k:p.dst with
   | none=>simp [c,k] at b
   | some e=>
    obtain rfl:e=d:=by simpa [c,k] using b
    exact NH f c k hv m g n x
def goB(N:Nat)(ops:Array Oper)(o:Oper)(j d:Nat)(is:Bool):Bool:=(match o.guard with
 | some (i,w)=>i==j && w==is
 | none=>false) && (match ops[j]? with
 | some oj=>(match oj.dst with
  | some e=>e==d
  | none=>false)
 | none=>false) && Nat.blt d N && !EA o.op && DI o.dst N
theorem Gg(j d:Nat){is:Bool}(hv:O d=.bool is)(hs:goB E.N ops o j d is=true)(x:BS E o O ds h λσ' ds' h'=>DH E ops l σ' ds' h' Q):DH E ops (o ::l) O ds h Q:=by
 simp only [goB,Bool.and_eq_true,Bool.not_eq_true'] at hs;obtain ⟨⟨⟨⟨a,b⟩,k⟩,m⟩,n⟩:=hs;cases f:o.guard with
 | none=>rw [f] at a;cases a
 | some q=>
  obtain ⟨i,w⟩:=q;rw [f] at a;simp only [Bool.and_eq_true,beq_iff_eq] at a;obtain ⟨rfl,rfl⟩:=a;cases c:ops[i]? with
  | none=>rw [c] at b;cases b
  | some p=>
   cases g:p.dst with
   | none=>simp [c,g] at b
   | some e=>
    obtain rfl:e=d:=by simpa [c,g] using b
    exact trL_opg f c g hv k (.inr m) n x
end
section
variable {S:Nat->Prop} {Pre:Nat->L->Prop} {Φ:List Hs} {cl:List Nat} {k d:Nat} {h h':L} {O:Nat->aU} {ds:List Deferred} {v:aU}
theorem fL{Φ:List O0}(p:Kk Φ k v h):ds=ds/\L.Le h h/\∃w,putS O (some d) v=putS O (some d) w/\Kk Φ k w h:=⟨rfl,L.Le.refl _,_,rfl,p⟩
theorem K1{R:L->L->Prop}{Φ:List O0}{a:aU}(x:FI R Φ):FI R (lF a ::Φ):=⟨λ_ _ _ _ y=>y,x⟩
theorem K2{R:L->L->Prop}{Φ:List O0}{a b:aU}(x:FI R Φ):FI R (lF a ::lF b ::Φ):=K1 (K1 x)
theorem K4{R:L->L->Prop}{Φ:List O0}{a b c d:aU}(x:FI R Φ):FI R (lF a ::lF b ::lF c ::lF d ::Φ):=K2 (K2 x)
theorem K8{R:L->L->Prop}{Φ:List O0}{a b c d a' b' c' d':aU}(x:FI R Φ):FI R (lF a ::lF b ::lF c ::lF d ::lF a' ::lF b' ::lF c' ::lF d' ::Φ):=K4 (K4 x)
end
end Go.Ns
namespace Go.Ns
open Go.Conc
section
variable {S:Nat->Prop} {Pre:Nat->L->Prop} {Φ:List Hs} {cl:List Nat} {k d:Nat} {h h':L} {O:Nat->aU} {ds:List Deferred} {v:aU}
theorem fS(p:Fy Φ k (putS O (some d) v) v h):ds=ds/\St (D1 S) Pre Φ cl k h h/\∃w,putS O (some d) v=putS O (some d) w/\Fy Φ k (putS O (some d) v) w h/\((some d:Option Nat)=none->w=undef):=
 ⟨rfl,St.same,_,rfl,p,λe=>by cases e⟩
theorem fT(l:h.Le h')(m:Du L.Le Φ)(p:Fy Φ k (putS O (some d) v) v h'):ds=ds/\St (D1 S) (λ_ _=>True) Φ cl k h h'/\∃w,putS O (some d) v=putS O (some d) w/\Fy Φ k (putS O (some d) v) w h'/\((some d:Option Nat)=none->w=undef):=
 ⟨rfl,St.ofLe l m (λ_ _ _ _ _=>trivial),_,rfl,p,λe=>by cases e⟩
theorem L1{R:L->L->Prop}{a:aU}(x:Du R Φ):Du R (lE a ::Φ):=⟨λ_ _ _ _ _ y=>y,x⟩
theorem L2{R:L->L->Prop}{a b:aU}(x:Du R Φ):Du R (lE a ::lE b ::Φ):=L1 (L1 x)
theorem L4{R:L->L->Prop}{a b c d:aU}(x:Du R Φ):Du R (lE a ::lE b ::lE c ::lE d ::Φ):=L2 (L2 x)
theorem L8{R:L->L->Prop}{a b c d a' b' c' d':aU}(x:Du R Φ):Du R (lE a ::lE b ::lE c ::lE d ::lE a' ::lE b' ::lE c' ::lE d' ::Φ):=L4 (L4 x)
end
theorem Dk{P:Program}{E:Fl P}{S:Nat->Prop}{id:Nat}{l:List Oper}{O:Nat->aU}{ds:List Deferred}{h:L}{Q:Post}{Φ:List Hs}(_:Du L.Le Φ)(n:Nat)(cls:List (List Nat))(Pre:Nat->L->Prop)
  (hm:P.follows .mixedOrders=true) (ok:Ep E.N l n cls=true) (p0:∀k,k<n->Pre k h) (ind:RP l n cls Φ) (x:I4 (D1 S) Pre E l n Φ O ds h Q n 0 l cls):Tr E (.region id l.toArray true) O ds h Q:=
 Xd n cls Φ Pre hm ok p0 ind x
end Go.Ns
namespace Go.Ns
open Go.Conc
section
variable {P:Program} {E:Fl P} {O:Nat->aU} {ds:List Deferred} {h:L} {Q:Post} {T:(Nat->aU)->List Deferred->L->Prop}
variable {dst:Option Nat} {ty:aV} {pos:String} {af:Array Edge} {ops:Array Oper} {o:Oper} {l:List Oper} {gd:Option (Nat×Bool)}
theorem Mz{x:Operand}(v:aU)(e:(DI dst E.N,AL O x)=(true,v))(k:DH E ops l (putS O dst v) ds h Q):DH E ops (⟨dst,.move x,ty,pos,af,none⟩ ::l) O ds h Q:=Mv v (congrArg Prod.fst e) (congrArg Prod.snd e) k
theorem Az{x:Operand}(v:aU)(e:(DI dst E.N,AL O x)=(true,v))(k:DH E ops l (putS O dst v) ds h Q):DH E ops (⟨dst,.assign x,ty,pos,af,none⟩ ::l) O ds h Q:=As v (congrArg Prod.fst e) (congrArg Prod.snd e) k
theorem Lz{t:aV}{x:Operand}{b off:Nat}(v:aU)(e:(DI dst E.N,AL O x)=(true,.pointer (some ⟨b,off,none⟩)))(hr:Rd P h t b off v)(k:DH E ops l (putS O dst v) ds h Q):DH E ops (⟨dst,.load t x,ty,pos,af,none⟩ ::l) O ds h Q:=
 Ld v (congrArg Prod.fst e) (congrArg Prod.snd e) hr k
theorem Fz{s:aV}{x:Operand}{f o b off:Nat}(hf:B6 P s f=some o)(e:(DI dst E.N,AL O x)=(true,.pointer (some ⟨b,off,none⟩)))(k:DH E ops l (putS O dst (.pointer (some ⟨b,off+o,none⟩))) ds h Q) :
  DH E ops (⟨dst,.fieldAddr s x f,ty,pos,af,none⟩ ::l) O ds h Q:=Fa hf (congrArg Prod.fst e) (congrArg Prod.snd e) k
theorem Pz{c a b:Operand}(t:Bool)(v:aU)(e:(DI dst E.N,AL O c,(if t then AL O a else AL O b))=(true,.bool t,v))(k:DH E ops l (putS O dst v) ds h Q):DH E ops (⟨dst,.pick c a b,ty,pos,af,none⟩ ::l) O ds h Q:=
 Pk t v (congrArg Prod.fst e) (congrArg (λq=>q.2.1) e) (congrArg (λq=>q.2.2) e) k
theorem Yd{xt yt:aV}{x y:Operand}{a b:Int}(e:(DI dst E.N,AL O x,AL O y)=(true,.int .i64 a,.int .i64 b))(hr: -9223372036854775808<=a+b/\a+b<=9223372036854775807)(k:DH E ops l (putS O dst (.int .i64 (a+b))) ds h Q) :
  DH E ops (⟨dst,.binOp .add xt x y yt,ty,pos,af,none⟩ ::l) O ds h Q:=Ad a b (congrArg Prod.fst e) (congrArg (λq=>q.2.1) e) (congrArg (λq=>q.2.2) e) hr k
theorem Mo{x:Operand}(v:aU)(hx:AL O x=v)(k:T (putS O dst v) ds h):BS E ⟨dst,.move x,ty,pos,af,gd⟩ O ds h T:=QX hx k
theorem Lo{t:aV}{x:Operand}{b off:Nat}(v:aU)(hx:AL O x=.pointer (some ⟨b,off,none⟩))(hr:Rd P h t b off v)(k:T (putS O dst v) ds h):BS E ⟨dst,.load t x,ty,pos,af,gd⟩ O ds h T:=CS hx hr k
theorem Ex{x:Operand}{n:Nat}{vs:Array aU}(v:aU)(e:(AL O x,vs[n]?)=(.tuple vs,some v))(k:T (putS O dst v) ds h):BS E ⟨dst,.extract x n,ty,pos,af,gd⟩ O ds h T:=Uc (congrArg Prod.fst e) (congrArg Prod.snd e) k
theorem Bo{t:aV}{x:Operand}{v:aU}(c:Array aU)(hx:AL O x=v)(hc:v.cells=c)
  (k:∀r h',h r=none->h.Le h'->h' r=some (true,.cells c t (0,0))->(∀b,b≠r->h' b=h b)->T (putS O dst (.pointer (some ⟨r,0,none⟩))) ds h'):BS E ⟨dst,.box t x,ty,pos,af,gd⟩ O ds h T:=ok_box' hx hc k
theorem So{t:aV}{a x:Operand}{b off n:Nat}{g:Bool}{c:Array aU}{et:aV}(v:aU)(c':Array aU)(ht:Bq P t=some (g,n))(e:(AL O a,AL O x)=(.pointer (some ⟨b,off,none⟩),v))(hb:h b=some (true,.cells c et (0,0)))
  (e2:(v.cells.size,Value.fine v)=(n,true)) (hn:off+n<=c.size) (hc:BN c off v.cells.toList=c') (k:∀h',h' b=some (true,.cells c' et (0,0))->(∀x,x≠b->h' x=h x)->T (putS O dst undef) ds h') :
  BS E ⟨dst,.store t a x,ty,pos,af,gd⟩ O ds h T:=Ac ht (congrArg Prod.fst e) (congrArg Prod.snd e) hb (congrArg Prod.fst e2) (congrArg Prod.snd e2) hn hc k
theorem Ot{fn:Func}{R:aU->L->Prop}{t:Tmp}(v:aU)(e:(fn.results,O t)=(#[.tmp t],v))(x:R v h):Fp P fn O R [] h:=Hx (congrArg Prod.fst e) (congrArg Prod.snd e) x
theorem Ou{fn:Func}{R:aU->L->Prop}{t u:Tmp}(v v':aU)(e:(fn.results,O t,O u)=(#[.tmp t,.tmp u],v,v'))(x:R (.tuple #[v,v']) h):Fp P fn O R [] h:=outs2 (congrArg Prod.fst e) (congrArg (λq=>q.2.1) e) (congrArg (λq=>q.2.2) e) x
theorem Sr{id:Nat}{y:Code}(a:DH E l.toArray l O ds h (λe σ' ds' h'=>match e with | .normal=>Tr E y σ' ds' h' Q | e=>Q e σ' ds' h')):Tr E (.seq (.region id l.toArray false) y) O ds h Q:=Sq (Rg a)
theorem S2{id:Nat}{y z:Code}(a:DH E l.toArray l O ds h (λe σ' ds' h'=>match e with | .normal=>Tr E y σ' ds' h' (λe σ' ds' h'=>match e with | .normal=>Tr E z σ' ds' h' Q | e=>Q e σ' ds' h') | e=>(λe σ' ds' h'=>match e with | .normal=>Tr E z σ' ds' h' Q | e=>Q e σ' ds' h') e σ' ds' h')) :
  Tr E (.seq (.seq (.region id l.toArray false) y) z) O ds h Q:=Sq (Sq (Rg a))
theorem Zr{U:Type}{a b:U}:a=b\/a=a:=.inr rfl
theorem M2{x x':Operand}{dst':Option Nat}{ty':aV}{pos':String}{af':Array Edge}(v v':aU)(e:(DI dst E.N,AL O x,DI dst' E.N,AL (putS O dst v) x')=(true,v,true,v'))(k:DH E ops l (putS (putS O dst v) dst' v') ds h Q):DH E ops (⟨dst,.move x,ty,pos,af,none⟩ ::⟨dst',.move x',ty',pos',af',none⟩ ::l) O ds h Q:=
 Mv v (congrArg Prod.fst e) (congrArg (λq=>q.2.1) e) (Mv v' (congrArg (λq=>q.2.2.1) e) (congrArg (λq=>q.2.2.2) e) k)
theorem A2{x x':Operand}{dst':Option Nat}{ty':aV}{pos':String}{af':Array Edge}(v v':aU)(e:(DI dst E.N,AL O x,DI dst' E.N,AL (putS O dst v) x')=(true,v,true,v'))(k:DH E ops l (putS (putS O dst v) dst' v') ds h Q):DH E ops (⟨dst,.assign x,ty,pos,af,none⟩ ::⟨dst',.assign x',ty',pos',af',none⟩ ::l) O ds h Q:=
 As v (congrArg Prod.fst e) (congrArg (λq=>q.2.1) e) (As v' (congrArg (λq=>q.2.2.1) e) (congrArg (λq=>q.2.2.2) e) k)
theorem Ct{W:Wk P}{f:FuncId}{fn:Func}{c:Code}{args:Array aU}{R:aU->L->Prop}(hf:P.funcs[f]? =some fn)(e:(fn.body,Nat.ble args.size fn.ntmps)=(some c,true))
  (x:Tr ⟨W,f,none,fn.ntmps⟩ c (λi=>args.getD i undef) [] h (λe O ds h'=>(e=.normal\/e=.ret)/\Fp P fn O R ds h')):AU W f args h R:=Ua hf (congrArg Prod.fst e) (Nat.le_of_ble_eq_true (congrArg Prod.snd e)) x
end
section
variable {P:Program} {E:Fl P} {l:List Oper} {n:Nat} {fl:Bool} {hs:L} {ds:List Deferred} {Lw:Nat->aU->L->Prop} {F:(Nat->aU)->L->Prop} {aP:List Nat} {O:Nat->aU} {h:L} {m k g d:Nat} {dst:Option Nat} {op:Op} {ty:aV} {pos:String} {af:Array Edge} {v:aU} {w is:Bool} {og:Oper}
theorem Rz(e:(Oy m,l[k]?)=((.r,k),some ⟨dst,op,ty,pos,af,none⟩))(x:SV E ⟨dst,op,ty,pos,af,none⟩ O ds h v)(y:TD E l n fl hs ds Lw F (dK aP) (putS O dst v) h):TD E l n fl hs ds Lw F (dK (m ::aP)) O h:=tR (congrArg Prod.fst e) (congrArg Prod.snd e) x y
theorem Rm{x:Operand}(v:aU)(e:(Oy m,l[k]?,AL O x)=((.r,k),some ⟨dst,.move x,ty,pos,af,none⟩,v))(y:TD E l n fl hs ds Lw F (dK aP) (putS O dst v) h):TD E l n fl hs ds Lw F (dK (m ::aP)) O h:=
 tR (congrArg Prod.fst e) (congrArg (λq=>q.2.1) e) (QX (congrArg (λq=>q.2.2) e) vz) y
theorem Rl{t:aV}{x:Operand}{b off:Nat}(v:aU)(e:(Oy m,l[k]?,AL O x)=((.r,k),some ⟨dst,.load t x,ty,pos,af,none⟩,.pointer (some ⟨b,off,none⟩)))(hr:Rd P h t b off v)(y:TD E l n fl hs ds Lw F (dK aP) (putS O dst v) h):TD E l n fl hs ds Lw F (dK (m ::aP)) O h:=
 tR (congrArg Prod.fst e) (congrArg (λq=>q.2.1) e) (CS (congrArg (λq=>q.2.2) e) hr vz) y
theorem Py(e:(Oy m,l[k]?)=((.p,k),some ⟨dst,op,ty,pos,af,none⟩))(x:∀hx,SV E ⟨dst,op,ty,pos,af,none⟩ O ds hx v)(y:TD E l n fl hs ds Lw F (dK aP) (putS O dst v) h):TD E l n fl hs ds Lw F (dK (m ::aP)) O h:=tP (congrArg Prod.fst e) (congrArg Prod.snd e) x y
theorem Ry(e:(Oy m,l[k]?,l[g]?,og.dst)=((.r,k),some ⟨dst,op,ty,pos,af,some (g,w)⟩,some og,some d))(h3:O d=.bool w)(x:SV E ⟨dst,op,ty,pos,af,some (g,w)⟩ O ds h v)
  (y:TD E l n fl hs ds Lw F (dK aP) (putS O dst v) h):TD E l n fl hs ds Lw F (dK (m ::aP)) O h:=tRg (congrArg Prod.fst e) (congrArg (λq=>q.2.1) e) (congrArg (λq=>q.2.2.1) e) (congrArg (λq=>q.2.2.2) e) h3 x y
theorem Sz{kd:Kd}(e:(Oy m,l[k]?,l[g]?,og.dst)=((kd,k),some ⟨dst,op,ty,pos,af,some (g,w)⟩,some og,some d))(h3:O d=.bool is)(hne:(is==w)=false)
  (y:TD E l n fl hs ds Lw F (dK aP) (putS O dst undef) h) (hl:(kd !=Kd.l)=true:=by rfl):TD E l n fl hs ds Lw F (dK (m ::aP)) O h:=tS (congrArg Prod.fst e) (congrArg (λq=>q.2.1) e) (congrArg (λq=>q.2.2.1) e) (congrArg (λq=>q.2.2.2) e) h3 hne y hl
end
end Go.Ns
namespace Go.Ns
open Go.Conc
abbrev J(x:Int):aU:=.int .i64 x
abbrev Pt(b:Nat):aU:=.pointer (some ⟨b,0,none⟩)
abbrev Sc(b:Nat)(n c:Nat):aU:=.slice (some ⟨b,0,none⟩) n c
abbrev Q0(a:List Ak)(b:Nat):Array aU:=#[J 0,J ((a.getD b Ak.z).dept),J ((a.getD b Ak.z).clerk),J (-1),J ((a.getD b Ak.z).low),J ((a.getD b Ak.z).low),J 0]
abbrev Q1:Array aU:=#[J 0,J 0,J 0,J 0,J 0,J 0,J 0,J 0,J 0,.bool false,.bool false,.bool false,.bool false,.bool false,.bool false]
abbrev Q2(a:Int)(b:Int)(c:List Good)(d:List AG)(e:List AP)(f:Int)(g:Int)(h:Int):=Ap a b c d e [if (decide (0<=f/\f<=(c.length:Int)-1)) then (0:Int) else 6,if (decide (1<=g/\g<=a)) then (0:Int) else 1,if (decide (g<=h/\h<=a)) then (0:Int) else 1]
abbrev Q3(a:Int)(b:List Good)(c:List AG)(d:List AP)(e:Int)(f:Nat):=(AT a b c d e).getD ((f:Int)).toNat AW.zero
abbrev Q4(a:Int):=Jn (Jn a (E1 a 13)) ((Jn a (E1 a 13)) / 128)
abbrev Q5(a:Int)(b:List AG):=decide ((0<=a/\a<=(b.length:Int)-1)/\(b.getD a.toNat AG.z).kind=0)
abbrev Q6(a:Int)(b:Int)(c:List Good)(d:List AG)(e:List AP)(f:Int)(g:Int):=Ap a b c d e [if (decide (0<=f/\f<=(c.length:Int)-1)) then (0:Int) else 6,if (decide (0<=g/\g<=a)) then (0:Int) else 1]
abbrev Q7(a:List Good)(b:Nat):=decide (((¬(0<=((a.getD b Good.z).cost)/\((a.getD b Good.z).cost)<=999))\/(¬(1<=((a.getD b Good.z).pack)/\((a.getD b Good.z).pack)<=20)))\/(¬(GW ((a.getD b Good.z).low) ((a.getD b Good.z).high))))
abbrev Q8:aU:=.slice none 0 0
abbrev Q9(a:List AG)(b:Nat):Array aU:=#[J ((a.getD (b+1) AG.z).kind),J ((a.getD (b+1) AG.z).good),J ((a.getD (b+1) AG.z).day),J ((a.getD (b+1) AG.z).low),J ((a.getD (b+1) AG.z).high)]
abbrev Qa(a:Int)(b:Int)(c:List Good)(d:List AG)(e:List AP)(f:Int):=Ap a b c d e [if (decide (0<=f/\f<=(d.length:Int)-1)) then (0:Int) else 6]
abbrev Qb(a:List AG)(b:Nat):Array aU:=#[J ((a.getD b AG.z).kind),J ((a.getD b AG.z).good),J ((a.getD b AG.z).day),J ((a.getD b AG.z).low),J ((a.getD b AG.z).high)]
abbrev Qc(a:Int)(b:Int)(c:Int)(d:Int):=decide (((a<=b)/\(b<=c))/\(c<=d))
abbrev Qd(a:Int)(b:Int):aU:=.bool (decide (a<=b))
abbrev Qe(a:List Int)(b:List Int):=decide (((a.length:Int)<(b.length:Int))\/(((a.length:Int)=(b.length:Int))/\((RR a b)<0)))
abbrev Qf(a:List aU)(b:Array Int)(c:Nat)(d:Nat):=Bg a ((b.setIfInBounds c (b[d]!)).setIfInBounds d (b[c]!))
abbrev Qg(a:Nat)(b:Array Int)(c:Nat):=Sc a b.size c
abbrev Qh(a:Int)(b:Int)(c:List Good)(d:List AG)(e:List AP)(f:Int):=Ap a b c d e [if (decide (0<=f/\f<=a)) then (0:Int) else 1]
abbrev Qi(a:List AW)(b:Int):=a.getD (b.toNat) AW.zero
abbrev Qj(a:List Good)(b:Nat):Array aU:=#[.string ((a.getD b Good.z).name),J ((a.getD b Good.z).cost),J ((a.getD b Good.z).pack),J ((a.getD b Good.z).low),J ((a.getD b Good.z).high)]
abbrev Qk(a:Int)(b:List Good):=decide (0<=a/\a<=(b.length:Int)-1)
abbrev Ql(a:List Int)(b:List Int):=(AW.zero.setFirsts a).setManys b
abbrev Qm(a:List Ak):=Bb (DG a) a.length
abbrev Qn(a:Int)(b:aU)(c:aU):Array aU:=#[.agg #[J a,b,c]]
abbrev Qo(a:List AP)(b:Nat):Array aU:=#[J ((a.getD b AP.z).good),J ((a.getD b AP.z).day),J ((a.getD b AP.z).low),J ((a.getD b AP.z).high)]
abbrev Qp(a:Int)(b:List AG)(c:List Good)(d:List AP)(e:Int)(f:Int)(g:Int):Array aU:=#[J ((CC (Je a b (AT a c b d e) f)).tdiv g),J ((DS (Je a b (AT a c b d e) f)).tdiv g)]
abbrev Qq(a:Nat)(b:Nat)(c:Array Int)(d:Nat):=decide (((a:Int)<=(b:Int))/\(¬((c[b]!)<(c[d]!))))
abbrev Qr(a:Int)(b:Int)(c:Int):=decide ((a<=b)/\(b<=c))
abbrev Qs(a:List Int)(b:Nat):=J (a.getD b 0)
abbrev Qt:=An AW.zero
abbrev Qu(a:List Int):=a.getD (((a.length:Int)-1).toNat) 0
abbrev Qv(a:Int)(b:Int):=decide (0<=a/\a<=b)
abbrev Qw(a:List Good)(b:Nat):=GW ((a.getD b Good.z).low) ((a.getD b Good.z).high)
abbrev Qx(a:List AG)(b:AW)(c:AP):=(AQ a b c.good c.day).1
abbrev Qy(a:Int)(b:Int):=decide (((0<=a/\a<=b)/\b<=99)/\((b-a)<3))
abbrev Qz(a:List aU)(b:Array Int)(c:Nat)(d:Nat):=Bg a (b.setIfInBounds c (b[d]!))
abbrev Q10(a:Nat):=J ((2*(a:Int))+1)
abbrev Q11(a:Nat)(b:Int)(c:Array Int)(d:Nat):=decide (((((2*(a:Int))+1)+1)<b)/\((c[(d+((2*a)+1))]!)<(c[((d+((2*a)+1))+1)]!)))
abbrev Q12(a:Int)(b:List AG):=decide (0<=a/\a<=(b.length:Int)-1)
abbrev Q13(a:List AC)(b:List Eh):=decide ((20<(a.length:Int))\/(20<(b.length:Int)))
abbrev Q14:Array aU:=#[J 0,J 0,J 0,J 0,J 0,J 0,.bool false,.bool false,.bool false,.bool false,.bool false,.bool false]
abbrev Q15(a:Int)(b:Int)(c:Int):Array aU:=#[.string (⟨#[103]⟩++(Jo a)),J b,J 1,J c,J c]
abbrev Q16(a:Nat)(b:Nat):aU:=.bool (decide ((a:Int)<=(b:Int)))
abbrev Q17(a:Int):aU:=.bool (decide (¬(0<=a/\a<=99)))
abbrev Q18(a:List Good)(b:Nat):=(a.getD b Good.z).pack
abbrev Q19(a:Nat)(b:Nat):=J ((a:Int)-(b:Int))
abbrev Td(a:Int)(b:Int)(c:List Good)(d:List AG)(e:List AP):=J (Au a b c d e)
abbrev Q1b(a:Nat)(b:Nat)(c:Array Int):=decide (((a:Int)<(b:Int))/\((c[b]!)<(c[((b:Int)-1).toNat]!)))
abbrev SF(a:Nat)(b:Nat)(c:Nat):Array aU:=#[Pt a,Pt b,Pt c]
abbrev Q1d(a:Int)(b:Int):=decide ((¬(1<=a/\a<=99))\/(¬(0<=b/\b<=2)))
abbrev Q1e(a:Nat):=J (((2*(a:Int))+1)+1)
abbrev Q1f(a:Nat)(b:Array Int)(c:Nat):=decide ((0<(a:Int))/\(¬((b[((a:Int)-1).toNat]!)<(b[c]!))))
abbrev Q1g(a:Array Int)(b:Nat)(c:Nat):=decide (¬((a[b]!)<(a[c]!)))
abbrev Q1h(a:List Int)(b:Nat)(c:List Int):=J (RQ (a.getD b 0) (c.getD b 0))
abbrev Q1i:Array UInt8:=#[48,49,50,51,52,53,54,55,56,57]
abbrev Q1j(a:List Good)(b:Nat):=(a.getD b Good.z).cost
end Go.Ns
namespace Go.Ns
open Go.Conc Go.Proofs Go.Proofs.Tryz
theorem PI:Hz prog 112 112=some (179,12,56):=aB
theorem PJ:Hz prog 113 113=some (122,6,48):=aB
theorem Te:Hz prog 22 22=some (48,7,56):=aB
theorem Df:Hz prog 29 29=some (3,1,8):=aB
theorem JJ:Hz prog 31 31=some (4,1,1):=aB
theorem Mg:Hz prog 41 41=some (51,5,40):=aB
theorem Tf:Hz prog 42 42=some (148,4,32):=aB
theorem Mh:Hz prog 93 93=some (29,1,24):=aB
theorem Tg:Hz prog 98 98=some (152,15,80):=aB
theorem YM:SO prog 120=some (6,false,1):=aB
theorem YN:SO prog 150=some (6,false,1):=aB
theorem YO:SO prog 203=some (4,false,1):=aB
theorem FU:Jr prog 120=some (6,1):=aB
theorem Lu:Jr prog 149=some (3,1):=aB
theorem FV:Jr prog 150=some (6,1):=aB
theorem P6:Jr prog 183=some (5,3):=aB
theorem YP:Jr prog 201=some (5,2):=aB
theorem YQ:Jr prog 262=some (6,3):=aB
theorem YR:AK Tryz.f10=true:=aB
theorem KJ:AK Tryz.f102=true:=aB
theorem EH:AK Tryz.f103=true:=aB
theorem VX:AK Tryz.f104=true:=aB
theorem OK:AK Tryz.f105=true:=aB
theorem VY:AK Tryz.f106=true:=aB
theorem VZ:AK Tryz.f107=true:=aB
theorem KK:AK Tryz.f108=true:=aB
theorem OL:AK Tryz.f109=true:=aB
theorem C0:AK Tryz.f11=true:=aB
theorem KL:AK Tryz.f110=true:=aB
theorem Va:AK Tryz.f111=true:=aB
theorem Vb:AK Tryz.f112=true:=aB
theorem Vc:AK Tryz.f113=true:=aB
theorem KM:AK Tryz.f114=true:=aB
theorem OM:AK Tryz.f115=true:=aB
theorem Vd:AK Tryz.f116=true:=aB
theorem Ve:AK Tryz.f117=true:=aB
theorem Vf:AK Tryz.f118=true:=aB
theorem Vg:AK Tryz.f119=true:=aB
theorem P7:AK Tryz.f12=true:=aB
theorem Vh:AK Tryz.f120=true:=aB
theorem Vi:AK Tryz.f121=true:=aB
theorem Vj:AK Tryz.f122=true:=aB
theorem Vk:AK Tryz.f125=true:=aB
theorem Vl:AK Tryz.f126=true:=aB
theorem Vm:AK Tryz.f127=true:=aB
theorem Vn:AK Tryz.f128=true:=aB
theorem Vo:AK Tryz.f129=true:=aB
theorem Lx:AK Tryz.f13=true:=aB
theorem Vp:AK Tryz.f130=true:=aB
theorem Vq:AK Tryz.f131=true:=aB
theorem Vr:AK Tryz.f132=true:=aB
theorem Vs:AK Tryz.f133=true:=aB
theorem Vt:AK Tryz.f134=true:=aB
theorem Cf:AK Tryz.f135=true:=aB
theorem Vu:AK Tryz.f136=true:=aB
theorem Vv:AK Tryz.f137=true:=aB
theorem Vw:AK Tryz.f139=true:=aB
theorem YS:AK Tryz.f14=true:=aB
theorem Vx:AK Tryz.f140=true:=aB
theorem Vy:AK Tryz.f141=true:=aB
theorem Vz:AK Tryz.f142=true:=aB
theorem V0:AK Tryz.f143=true:=aB
theorem ON:AK Tryz.f144=true:=aB
theorem V1:AK Tryz.f145=true:=aB
theorem V2:AK Tryz.f146=true:=aB
theorem V3:AK Tryz.f147=true:=aB
theorem P8:AK Tryz.f15=true:=aB
theorem V4:AK Tryz.f152=true:=aB
theorem KN:AK Tryz.f153=true:=aB
theorem OO:AK Tryz.f154=true:=aB
theorem V5:AK Tryz.f155=true:=aB
theorem V6:AK Tryz.f156=true:=aB
theorem KO:AK Tryz.f157=true:=aB
theorem OP:AK Tryz.f158=true:=aB
theorem KP:AK Tryz.f162=true:=aB
theorem V7:AK Tryz.f181=true:=aB
theorem V8:AK Tryz.f182=true:=aB
theorem OQ:AK Tryz.f188=true:=aB
theorem KQ:AK Tryz.f189=true:=aB
theorem Cp:AK Tryz.f19=true:=aB
theorem V9:AK Tryz.f190=true:=aB
theorem WA:AK Tryz.f191=true:=aB
theorem WB:AK Tryz.f192=true:=aB
theorem WC:AK Tryz.f193=true:=aB
theorem WD:AK Tryz.f194=true:=aB
theorem WE:AK Tryz.f195=true:=aB
theorem WF:AK Tryz.f196=true:=aB
theorem OR:AK Tryz.f197=true:=aB
theorem OS:AK Tryz.f198=true:=aB
theorem WG:AK Tryz.f199=true:=aB
theorem YT:AK Tryz.f21=true:=aB
theorem YU:AK Tryz.f22=true:=aB
theorem YV:AK Tryz.f23=true:=aB
theorem YW:AK Tryz.f24=true:=aB
theorem YX:AK Tryz.f25=true:=aB
theorem YY:AK Tryz.f26=true:=aB
theorem P9:AK Tryz.f27=true:=aB
theorem YZ:AK Tryz.f28=true:=aB
theorem Ya:AK Tryz.f29=true:=aB
theorem Yb:AK Tryz.f30=true:=aB
theorem Yc:AK Tryz.f31=true:=aB
theorem Ye:AK Tryz.f32=true:=aB
theorem Yf:AK Tryz.f33=true:=aB
theorem Yg:AK Tryz.f34=true:=aB
theorem Yh:AK Tryz.f35=true:=aB
theorem Yi:AK Tryz.f36=true:=aB
theorem Cq:AK Tryz.f37=true:=aB
theorem IA:AK Tryz.f38=true:=aB
theorem IB:AK Tryz.f39=true:=aB
theorem F2:AK Tryz.f40=true:=aB
theorem B9:AK Tryz.f41=true:=aB
theorem IC:AK Tryz.f42=true:=aB
theorem Yj:AK Tryz.f43=true:=aB
theorem Jh:AK Tryz.f44=true:=aB
theorem Ly:AK Tryz.f45=true:=aB
theorem Yk:AK Tryz.f46=true:=aB
theorem Yl:AK Tryz.f47=true:=aB
theorem Ym:AK Tryz.f48=true:=aB
theorem QA:AK Tryz.f49=true:=aB
theorem fx_call5:AK Tryz.f5=true:=aB
theorem OT:AK Tryz.f6=true:=aB
theorem Yn:AK Tryz.f63=true:=aB
theorem Yo:AK Tryz.f64=true:=aB
theorem Yp:AK Tryz.f65=true:=aB
theorem Yq:AK Tryz.f66=true:=aB
theorem Ji:AK Tryz.f67=true:=aB
theorem Gr:AK Tryz.f68=true:=aB
theorem L0:AK Tryz.f69=true:=aB
theorem fx_call7:AK Tryz.f7=true:=aB
theorem QB:AK Tryz.f70=true:=aB
theorem Yr:AK Tryz.f71=true:=aB
theorem L3:AK Tryz.f72=true:=aB
theorem Jj:AK Tryz.f73=true:=aB
theorem Ys:AK Tryz.f74=true:=aB
theorem QC:AK Tryz.f75=true:=aB
theorem L5:AK Tryz.f76=true:=aB
theorem Yt:AK Tryz.f77=true:=aB
theorem Yu:AK Tryz.f78=true:=aB
theorem L6:AK Tryz.f79=true:=aB
theorem fx_call8:AK Tryz.f8=true:=aB
theorem QD:AK Tryz.f80=true:=aB
theorem Yv:AK Tryz.f81=true:=aB
theorem QE:AK Tryz.f82=true:=aB
theorem L7:AK Tryz.f83=true:=aB
theorem Yw:AK Tryz.f84=true:=aB
theorem Yx:AK Tryz.f85=true:=aB
theorem Yy:AK Tryz.f86=true:=aB
theorem Yz:AK Tryz.f87=true:=aB
theorem Y1:AK Tryz.f88=true:=aB
theorem Y3:AK Tryz.f89=true:=aB
theorem fx_call9:AK Tryz.f9=true:=aB
theorem F3:AK Tryz.f90=true:=aB
theorem LK:prog.eqGuardType prog.depth 36=false:=aB
theorem QF:Dq prog 113=some 6:=aB
theorem QG:Dq prog 170=some 1:=aB
theorem Y4:Dq prog 213=some 1:=aB
theorem Cm:Dq prog 22=some 7:=aB
theorem fx_esz23:Dq prog 23=some 5:=aB
theorem fx_esz26:Dq prog 26=some 1:=aB
theorem Y5:Dq prog 287=some 1:=aB
theorem AO:Dq prog 29=some 1:=aB
theorem fx_esz31:Dq prog 31=some 1:=aB
theorem HD:Dq prog 40=some 5:=aB
theorem Fi:Dq prog 41=some 5:=aB
theorem OU:Dq prog 42=some 4:=aB
theorem HE:Dq prog 93=some 1:=aB
theorem LL:Dq prog 98=some 15:=aB
theorem Hb:B6 prog 101 0=some 0:=aB
theorem Cu:B6 prog 101 1=some 5:=aB
theorem Mi:B6 prog 101 2=some 6:=aB
theorem CW:B6 prog 111 0=some 0:=aB
theorem JK:B6 prog 115 0=some 0:=aB
theorem JL:B6 prog 115 1=some 3:=aB
theorem Hc:B6 prog 115 2=some 4:=aB
theorem JM:B6 prog 122 0=some 0:=aB
theorem Th:B6 prog 146 0=some 0:=aB
theorem Ti:B6 prog 146 1=some 1:=aB
theorem Tj:B6 prog 146 2=some 2:=aB
theorem Mj:B6 prog 148 0=some 0:=aB
theorem Mk:B6 prog 148 1=some 1:=aB
theorem JN:B6 prog 148 2=some 2:=aB
theorem JO:B6 prog 152 0=some 0:=aB
theorem JP:B6 prog 152 1=some 3:=aB
theorem Ei:B6 prog 152 2=some 9:=aB
theorem Ml:B6 prog 179 0=some 0:=aB
theorem Mm:B6 prog 179 1=some 6:=aB
theorem Tk:B6 prog 182 1=some 1:=aB
theorem Tl:B6 prog 182 2=some 2:=aB
theorem Tm:B6 prog 200 1=some 1:=aB
theorem KR:B6 prog 25 0=some 0:=aB
theorem BE:B6 prog 25 1=some 1:=aB
theorem FN:B6 prog 25 2=some 2:=aB
theorem Tn:B6 prog 261 1=some 1:=aB
theorem JQ:B6 prog 261 2=some 2:=aB
theorem Ie:B6 prog 33 0=some 0:=aB
theorem HF:B6 prog 33 1=some 1:=aB
theorem BY:B6 prog 36 0=some 0:=aB
theorem Bc:B6 prog 36 1=some 1:=aB
theorem KT:B6 prog 38 0=some 0:=aB
theorem KU:B6 prog 38 1=some 1:=aB
theorem If:B6 prog 38 2=some 2:=aB
theorem KV:B6 prog 38 3=some 3:=aB
theorem C1:B6 prog 44 0=some 0:=aB
theorem Ig:B6 prog 44 1=some 1:=aB
theorem Cn:B6 prog 44 2=some 2:=aB
theorem B1:B6 prog 44 3=some 3:=aB
theorem Ej:B6 prog 44 4=some 4:=aB
theorem Am:B6 prog 48 0=some 0:=aB
theorem HG:B6 prog 48 1=some 1:=aB
theorem HH:B6 prog 48 2=some 2:=aB
theorem Co:B6 prog 48 3=some 3:=aB
theorem BB:B6 prog 48 4=some 4:=aB
theorem BK:B6 prog 48 5=some 6:=aB
theorem Ih:B6 prog 51 0=some 0:=aB
theorem KW:B6 prog 51 1=some 1:=aB
theorem EI:B6 prog 51 2=some 2:=aB
theorem Ii:B6 prog 51 3=some 3:=aB
theorem A0:B6 prog 97 0=some 0:=aB
theorem OV:fnOf prog 196=true:=aB
theorem Y6:(prog.info? 29).isSome=true:=aB
theorem QH:(prog.info? 29).map (·.zero)=some (some (.slice none 0 0)):=aB
theorem OW:Lb prog 211=some .u64:=aB
theorem WH:Lb prog 254=some .u64:=aB
theorem EQ:Lb prog 3=some .i64:=aB
theorem GO:Lb prog 5=some .u8:=aB
theorem L9:H0 prog 165=some (3,3):=aB
theorem QI:H0 prog 215=some (122,4):=aB
theorem To:H0 prog 99=some (174,3):=aB
theorem QJ:∀a:Nat->Int,Uh prog 4 122 (.agg (Ds a))=true:=by intros;kernel_rfl
theorem Tp:∀a:Key,Uh prog 3 174 (Jm a)=true:=by intros;kernel_rfl
theorem MA:∀a:Int,Uh prog 3 3 (EX a)=true:=by intros;kernel_rfl
theorem MB:∀a b:Int,MO prog 3 3 (EX a) (EX b)=some (a==b):=by intros;kernel_rfl
theorem QK:∀a b:Nat->Int,MO prog 4 122 (.agg (Ds a)) (.agg (Ds b))=some ((a 0==b 0 && (a 1==b 1 && (a 2==b 2 && (a 3==b 3 && (a 4==b 4 && (a 5==b 5 && true)))))) && true):=by intros;kernel_rfl
theorem Tq:∀a b:Key,MO prog 3 174 (Jm a) (Jm b)=some (a.1==b.1 && (a.2.1==b.2.1 && (a.2.2==b.2.2 && true))):=by intros;kernel_rfl
theorem Ah:prog.follows .mixedOrders=true:=aB
theorem Ts:(prog.info? 3).bind (·.zero)=some (.int .i64 0):=aB
theorem fx_mz215:(prog.info? 4).bind (·.zero)=some (.bool false):=aB
theorem fx_mz99:(prog.info? 3).bind (·.zero)=some (.int .i64 0):=aB
theorem GP:DP prog 101=some [(0,5),(5,1),(6,1)]:=aB
theorem Tt:DP prog 111=some [(0,3)]:=aB
theorem fx_pl115:DP prog 115=some [(0,3),(3,1),(4,1)]:=aB
theorem Tu:DP prog 148=some [(0,1),(1,1),(2,2)]:=aB
theorem ID:DP prog 152=some [(0,3),(3,6),(9,6)]:=aB
theorem fx_pl174:DP prog 174=some [(0,1),(1,1),(2,1)]:=aB
theorem fx_pl179:DP prog 179=some [(0,6),(6,6)]:=aB
theorem Gi:DP prog 36=some [(0,1),(1,1)]:=aB
theorem Rs:DP prog 38=some [(0,1),(1,1),(2,1),(3,2)]:=aB
theorem XN:DP prog 44=some [(0,1),(1,1),(2,1),(3,1),(4,1)]:=aB
theorem fx_pl48:DP prog 48=some [(0,1),(1,1),(2,1),(3,1),(4,2),(6,1)]:=aB
theorem LM:DP prog 51=some [(0,1),(1,1),(2,1),(3,2)]:=aB
theorem Ea:DP prog 97=some [(0,5)]:=aB
theorem Tv:Zy prog 9 287=some 5:=aB
theorem Y7:DA prog 112=some (12,#[.int .i64 0,.int .i64 0,.int .i64 0,.int .i64 0,.int .i64 0,.int .i64 0,.bool false,.bool false,.bool false,.bool false,.bool false,.bool false],179):=aB
theorem Y8:DA prog 113=some (6,#[.int .i64 0,.int .i64 0,.int .i64 0,.int .i64 0,.int .i64 0,.int .i64 0],122):=aB
theorem F4:DA prog 170=some (1,#[.int .i64 0],54):=aB
theorem Y9:DA prog 213=some (1,#[.nilFunc],212):=aB
theorem fx_sel22:DA prog 22=some (7,#[.int .i64 0,.int .i64 0,.int .i64 0,.int .i64 0,.int .i64 0,.int .i64 0,.int .i64 0],48):=aB
theorem CV:DA prog 29=some (1,#[.int .i64 0],3):=aB
theorem OX:DA prog 31=some (1,#[.bool false],4):=aB
theorem Tw:DA prog 40=some (5,#[.string ⟨#[]⟩,.int .i64 0,.int .i64 0,.int .i64 0,.int .i64 0],38):=aB
theorem OY:DA prog 41=some (5,#[.int .i64 0,.int .i64 0,.int .i64 0,.int .i64 0,.int .i64 0],51):=aB
theorem Tx:DA prog 42=some (4,#[.int .i64 0,.int .i64 0,.int .i64 0,.int .i64 0],148):=aB
theorem LN:DA prog 93=some (1,#[.slice none 0 0],29):=aB
theorem fx_sel98:DA prog 98=some (15,#[.int .i64 0,.int .i64 0,.int .i64 0,.int .i64 0,.int .i64 0,.int .i64 0,.int .i64 0,.int .i64 0,.int .i64 0,.bool false,.bool false,.bool false,.bool false,.bool false,.bool false],152):=aB
theorem fx_sl112:Hw prog 112=true:=aB
theorem fx_sl113:Hw prog 113=true:=aB
theorem Ty:Hw prog 170=true:=aB
theorem fx_sl213:Hw prog 213=true:=aB
theorem Eb:Hw prog 22=true:=aB
theorem Jk:Hw prog 23=true:=aB
theorem fx_sl26:Hw prog 26=true:=aB
theorem fx_sl287:Hw prog 287=true:=aB
theorem CX:Hw prog 29=true:=aB
theorem FC:Hw prog 40=true:=aB
theorem FD:Hw prog 41=true:=aB
theorem LO:Hw prog 42=true:=aB
theorem LP:Hw prog 93=true:=aB
theorem Hd:Hw prog 98=true:=aB
theorem GC:MM prog 9=true:=aB
theorem BC:Bq prog 101=some (true,7):=aB
theorem fx_ty108:Bq prog 108=some (false,1):=aB
theorem DW:Bq prog 111=some (true,3):=aB
theorem OZ:Bq prog 112=some (false,1):=aB
theorem LQ:Bq prog 113=some (false,1):=aB
theorem JR:Bq prog 115=some (true,5):=aB
theorem fx_ty120:Bq prog 120=some (true,6):=aB
theorem DK:Bq prog 122=some (true,6):=aB
theorem fx_ty146:Bq prog 146=some (true,5):=aB
theorem IE:Bq prog 148=some (true,4):=aB
theorem fx_ty150:Bq prog 150=some (true,6):=aB
theorem Bl:Bq prog 152=some (true,15):=aB
theorem LR:Bq prog 168=some (false,1):=aB
theorem fx_ty169:Bq prog 169=some (false,1):=aB
theorem Oa:Bq prog 174=some (true,3):=aB
theorem HI:Bq prog 179=some (true,12):=aB
theorem fx_ty180:Bq prog 180=some (false,1):=aB
theorem Ob:Bq prog 196=some (false,1):=aB
theorem fx_ty203:Bq prog 203=some (true,4):=aB
theorem fx_ty205:Bq prog 205=some (false,1):=aB
theorem HJ:Bq prog 206=some (false,1):=aB
theorem fx_ty212:Bq prog 212=some (false,1):=aB
theorem fx_ty214:Bq prog 214=some (false,1):=aB
theorem Oc:Bq prog 215=some (false,1):=aB
theorem CD:Bq prog 22=some (false,1):=aB
theorem Ij:Bq prog 23=some (false,1):=aB
theorem fx_ty245:Bq prog 245=some (false,1):=aB
theorem Od:Bq prog 246=some (false,1):=aB
theorem FE:Bq prog 25=some (true,3):=aB
theorem Ek:Bq prog 254=some (false,1):=aB
theorem Tz:Bq prog 261=some (true,3):=aB
theorem Es:Bq prog 29=some (false,1):=aB
theorem AF:Bq prog 3=some (false,1):=aB
theorem LS:Bq prog 31=some (false,1):=aB
theorem Ru:Bq prog 33=some (true,2):=aB
theorem BG:Bq prog 36=some (true,2):=aB
theorem Gj:Bq prog 38=some (true,5):=aB
theorem F5:Bq prog 4=some (false,1):=aB
theorem Ec:Bq prog 40=some (false,1):=aB
theorem C3:Bq prog 41=some (false,1):=aB
theorem He:Bq prog 42=some (false,1):=aB
theorem BH:Bq prog 44=some (true,5):=aB
theorem BM:Bq prog 45=some (false,1):=aB
theorem CK:Bq prog 46=some (false,1):=aB
theorem Dg:Bq prog 48=some (true,7):=aB
theorem NF:Bq prog 49=some (false,1):=aB
theorem fx_ty5:Bq prog 5=some (false,1):=aB
theorem Hf:Bq prog 51=some (true,5):=aB
theorem XO:Bq prog 54=some (false,1):=aB
theorem fx_ty60:Bq prog 60=some (false,1):=aB
theorem WI:Bq prog 9=some (false,1):=aB
theorem LT:Bq prog 93=some (false,1):=aB
theorem CL:Bq prog 97=some (true,5):=aB
theorem EJ:Bq prog 98=some (false,1):=aB
theorem XP:Bq prog 99=some (false,1):=aB
theorem ZA:(prog.underlying 169).isSome=true:=aB
theorem ZB:(prog.underlying 211).isSome=true:=aB
theorem FW:(prog.underlying 242).isSome=true:=aB
theorem Rv:(prog.underlying 3).isSome=true:=aB
theorem GD:(prog.underlying 5).isSome=true:=aB
theorem HK:prog.underlying 168=some (.chan .both 29):=aB
theorem BO:Be prog 101=some #[.int .i64 0,.int .i64 0,.slice none 0 0,.slice none 0 0,.slice none 0 0,.slice none 0 0,.map none]:=aB
theorem KX:Be prog 111=some #[.int .i64 0,.slice none 0 0,.slice none 0 0]:=aB
theorem Ik:Be prog 115=some #[.int .i64 0,.slice none 0 0,.slice none 0 0,.slice none 0 0,.slice none 0 0]:=aB
theorem WJ:Be prog 120=some #[.int .i64 0,.int .i64 0,.int .i64 0,.int .i64 0,.int .i64 0,.int .i64 0]:=aB
theorem HL:Be prog 122=some #[.int .i64 0,.int .i64 0,.int .i64 0,.int .i64 0,.int .i64 0,.int .i64 0]:=aB
theorem Il:Be prog 148=some #[.int .i64 0,.int .i64 0,.int .i64 0,.int .i64 0]:=aB
theorem DX:Be prog 152=some #[.int .i64 0,.int .i64 0,.int .i64 0,.int .i64 0,.int .i64 0,.int .i64 0,.int .i64 0,.int .i64 0,.int .i64 0,.bool false,.bool false,.bool false,.bool false,.bool false,.bool false]:=aB
theorem WK:Be prog 168=some #[.chan none]:=aB
theorem Oe:Be prog 174=some #[.int .i64 0,.int .i64 0,.int .i64 0]:=aB
theorem KY:Be prog 179=some #[.int .i64 0,.int .i64 0,.int .i64 0,.int .i64 0,.int .i64 0,.int .i64 0,.bool false,.bool false,.bool false,.bool false,.bool false,.bool false]:=aB
theorem Of:Be prog 206=some #[.nilFunc]:=aB
theorem fx_zero212:Be prog 212=some #[.nilFunc]:=aB
theorem WL:Be prog 215=some #[.map none]:=aB
theorem WM:Be prog 246=some #[.nilFunc]:=aB
theorem ZC:Be prog 25=some #[.int .i64 0,.slice none 0 0,.slice none 0 0]:=aB
theorem WN:Be prog 254=some #[.int .u64 0]:=aB
theorem WO:Be prog 261=some #[.string ⟨#[]⟩,.int .i64 0,.nilFunc]:=aB
theorem ZD:Be prog 29=some #[.slice none 0 0]:=aB
theorem fx_zero3:Be prog 3=some #[.int .i64 0]:=aB
theorem QL:Be prog 33=some #[.slice none 0 0,.slice none 0 0]:=aB
theorem B4:Be prog 36=some #[.int .i64 0,.int .i64 0]:=aB
theorem F6:Be prog 38=some #[.string ⟨#[]⟩,.int .i64 0,.int .i64 0,.int .i64 0,.int .i64 0]:=aB
theorem fx_zero4:Be prog 4=some #[.bool false]:=aB
theorem IF:Be prog 44=some #[.int .i64 0,.int .i64 0,.slice none 0 0,.slice none 0 0,.slice none 0 0]:=aB
theorem Eu:Be prog 48=some #[.int .i64 0,.int .i64 0,.int .i64 0,.int .i64 0,.int .i64 0,.int .i64 0,.int .i64 0]:=aB
theorem Ev:Be prog 51=some #[.int .i64 0,.int .i64 0,.int .i64 0,.int .i64 0,.int .i64 0]:=aB
theorem fx_zero54:Be prog 54=some #[.int .i64 0]:=aB
theorem ZE:Be prog 93=some #[.slice none 0 0]:=aB
theorem CH:Be prog 97=some #[.int .i64 0,.int .i64 0,.slice none 0 0,.slice none 0 0,.slice none 0 0]:=aB
theorem ZF:Be prog 98=some #[.slice none 0 0]:=aB
end Go.Ns
namespace Go.Ns
open Go.Conc Go.Proofs Go.Proofs.Tryz
attribute [local irreducible] BS DH Tr AU CT Bt
variable {W:Wk prog} {h:L} (d m:Int) (gs:List Good) (gsv:aU) (ms:List AG) (msv:aU) (cs:List AP) (csv:aU)
theorem BZ(n:Int)(lo:Int)(hi:Int):AU W 41 #[J n,J lo,J hi] h (λv h'=>v=(.bool (decide (lo<=n/\n<=hi)):aU)/\h=h'):=by
 refine Ct func41 Z (Sr (Az (.bool false) Z (V (BV (λσ' c h'=>c=[]/\h=h'/\σ' 6=.bool (Qr lo n hi)) ?_ ?_))))
 ·refine Rg (Mz (J lo) Z (Mz (J n) Z (I Z (DF Z Z (Mz (Qd lo n) Z (Ae (p:=lo<=n) ?_ ?_))))))
  ·intro a;exact Gg 3 10 (AA Z a) Z (Mo (J n) Z (Gg 3 10 (AA Z a) Z (Mo (J hi) Z (Gg 3 10 (AA Z a) Z (DF Z Z (Pk true (Qd n hi) Z (AA Z a) Z (Az (Qd n hi) Z (V (⟨Z,Z,Et (b:=(.bool (decide (n<=hi)):aU)) Z (congrArg Value.bool (by (simp [a];done):decide (n<=hi)=(Qr lo n hi)))⟩)))))))))
  ·intro a;exact Gs 3 10 (AB Z a) Z (Gs 3 10 (AB Z a) Z (Gs 3 10 (AB Z a) Z (Pk false (.bool false) Z (AB Z a) Z (Az (.bool false) Z (V (⟨Z,Z,Et (b:=(.bool false:aU)) Z (congrArg Value.bool (by (simp [a];done):false=(Qr lo n hi)))⟩))))))
 ·rintro _ _ _ ⟨e,f,g⟩;subst e;subst f;exact Rt (⟨Zr,Hx Z (v:=.bool (Qr lo n hi)) g (⟨(by rfl),Z⟩)⟩)
theorem Og(xl:Int)(xh:Int)(lo:Int)(hi:Int):AU W 198 #[.agg #[J xl,J xh],J lo,J hi] h (λv h'=>v=(.bool (decide ((lo<=xl/\xl<=xh)/\xh<=hi)):aU)/\h.Le h'):=by
 refine Ct func198 Z (Sr (I Z (Bo #[J xl,J xh] Z Z λ_ g _ i e _=>Az (.bool false) Z (V (BV (λσ' f h'=>f=[]/\g=h'/\σ' 6=.bool (Qc lo xl xh hi)) ?_ ?_)))))
 ·refine Rg (Mz (J lo) Z (Fz BY Z (Lz (J xl) Z (Rd.one AF e Z) (I Z (DF Z Z (Mz (Qd lo xl) Z (Ae (p:=lo<=xl) ?_ ?_)))))))
  ·intro a;refine Gg 4 11 (AA Z a) Z (AD BY Z (Gg 4 11 (AA Z a) Z (Lo (J xl) Z (Rd.one AF e Z) (Gg 4 11 (AA Z a) Z (AD Bc Z (Gg 4 11 (AA Z a) Z (Lo (J xh) Z (Rd.one AF e Z) (Gg 4 11 (AA Z a) Z (DF Z Z (Pk true (Qd xl xh) Z (AA Z a) Z (Mz (Qd xl xh) Z (Ae (p:=xl<=xh) ?_ ?_))))))))))))
   ·intro c;exact Gg 11 18 (AA Z c) Z (AD Bc Z (Gg 11 18 (AA Z c) Z (Lo (J xh) Z (Rd.one AF e Z) (Gg 11 18 (AA Z c) Z (Mo (J hi) Z (Gg 11 18 (AA Z c) Z (DF Z Z (Pk true (Qd xh hi) Z (AA Z c) Z (Az (Qd xh hi) Z (V (⟨Z,Z,Et (b:=(.bool (decide (xh<=hi)):aU)) Z (congrArg Value.bool (by (simp [a,c];done):decide (xh<=hi)=(Qc lo xl xh hi)))⟩)))))))))))
   ·intro c;exact Gs 11 18 (AB Z c) Z (Gs 11 18 (AB Z c) Z (Gs 11 18 (AB Z c) Z (Gs 11 18 (AB Z c) Z (Pk false (.bool false) Z (AB Z c) Z (Az (.bool false) Z (V (⟨Z,Z,Et (b:=(.bool false:aU)) Z (congrArg Value.bool (by (simp [a,c];done):false=(Qc lo xl xh hi)))⟩)))))))
  ·intro a;exact Gs 4 11 (AB Z a) Z (Gs 4 11 (AB Z a) Z (Gs 4 11 (AB Z a) Z (Gs 4 11 (AB Z a) Z (Gs 4 11 (AB Z a) Z (Pk false (.bool false) Z (AB Z a) Z (Mz (.bool false) Z (Gs 11 18 Z Z (Gs 11 18 Z Z (Gs 11 18 Z Z (Gs 11 18 Z Z (Pz false (.bool false) Z (Az (.bool false) Z (V (⟨Z,Z,Et (b:=(.bool false:aU)) Z (congrArg Value.bool (by (simp [a];done):false=(Qc lo xl xh hi)))⟩))))))))))))))
 ·rintro _ _ _ ⟨j,k,l⟩;subst j;subst k;exact Rt (⟨Zr,Hx Z (v:=.bool (Qc lo xl xh hi)) l (⟨(by rfl),i⟩)⟩)
theorem T0(xl:Int)(xh:Int):AU W 197 #[.agg #[J xl,J xh]] h (λv h'=>v=(.bool (decide (GW xl xh)):aU)/\h.Le h'):=by
 refine Ct func197 Z (Sr (I Z (Bo #[J xl,J xh] Z Z λ_ i _ j f _=>Az (.bool false) Z (V (BV (λσ' c h'=>c=[]/\L.Le i h'/\σ' 2=.bool (Qy xl xh)) ?_ ?_)))))
 ·refine Rg (Lz _ Z (AI BG (Bx f Z)) (I Z (Aa func198 OS Z Z Z ((Og xl xh 0 99 ).mono λ_ _ k=>?_))));obtain ⟨rfl,e⟩:=k;refine Mz (.bool (decide ((0<=xl/\xl<=xh)/\xh<=99))) Z (Ae (p:=(0<=xl/\xl<=xh)/\xh<=99) ?_ ?_)
  ·intro a;exact Gg 2 5 (AA Z a) Z (AD Bc Z (have g:=e.keep f Z;Gg 2 5 (AA Z a) Z (Lo (J xh) Z (Rd.one AF g Z) (Gg 2 5 (AA Z a) Z (AD BY Z (Gg 2 5 (AA Z a) Z (Lo (J xl) Z (Rd.one AF g Z) (Gg 2 5 (AA Z a) Z (A3 Z Z Y (Gg 2 5 (AA Z a) Z (Aw Z Z (Pk true (.bool (decide ((xh-xl)<3))) Z (AA Z a) Z (Az (.bool (decide ((xh-xl)<3))) Z (V (⟨Z,e,Et (b:=(.bool (decide ((xh-xl)<3)):aU)) Z (congrArg Value.bool (by (simp [a];done):decide ((xh-xl)<3)=(Qy xl xh)))⟩)))))))))))))))
  ·intro a;exact Gs 2 5 (AB Z a) Z (Gs 2 5 (AB Z a) Z (Gs 2 5 (AB Z a) Z (Gs 2 5 (AB Z a) Z (Gs 2 5 (AB Z a) Z (Gs 2 5 (AB Z a) Z (Pk false (.bool false) Z (AB Z a) Z (Az (.bool false) Z (V (⟨Z,e,Et (b:=(.bool false:aU)) Z (congrArg Value.bool (by (simp [a];done):false=(Qy xl xh)))⟩)))))))))
 ·rintro _ _ _ ⟨l,n,o⟩;subst l;exact Rt (⟨Zr,Hx Z (v:=.bool (Qy xl xh)) o (⟨(by rfl),(j.trans n)⟩)⟩)
theorem Fj(b:Bool):AU W 38 #[.bool b] h (λv h'=>v=(J (if b then (0:Int) else 6):aU)/\h=h'):=by
 refine Ct func38 Z (Sr (Az (J 0) Z (V (S2 (Mz (.bool b) Z (I Z (Cc Z (V (C5 Z (λa=>?_) (λa=>?_))))))))))
 ·have hc1_:b=false:=by simpa using a
  exact Sr (Az (J 6) Z (V (Rt (⟨Zr,Ot (J 6) Z (⟨aF,Z⟩)⟩))))
 ·have hc1_:b=true:=by simpa using a
  exact Sk (Sr (Az (J 0) Z (V (Rt (⟨Zr,Ot (J 0) Z (⟨aF,Z⟩)⟩)))))
theorem FO(b:Bool):AU W 40 #[.bool b] h (λv h'=>v=(J (if b then (0:Int) else 1):aU)/\h=h'):=by
 refine Ct func40 Z (Sr (Az (J 0) Z (V (S2 (Mz (.bool b) Z (I Z (Cc Z (V (C5 Z (λa=>?_) (λa=>?_))))))))))
 ·have hc1_:b=false:=by simpa using a
  exact Sr (Az (J 1) Z (V (Rt (⟨Zr,Ot (J 1) Z (⟨aF,Z⟩)⟩))))
 ·have hc1_:b=true:=by simpa using a
  exact Sk (Sr (Az (J 0) Z (V (Rt (⟨Zr,Ot (J 0) Z (⟨aF,Z⟩)⟩)))))
theorem GQ(n:Int)(hgs:AJ h gsv 5 Bw gs)(hms:AJ h msv 5 Bf ms)(hcs:AJ h csv 4 BI cs):AU W 39 #[.agg #[J d,J m,gsv,msv,csv],J n] h (λv h'=>v=(.bool (decide (0<=n/\n<=(gs.length:Int)-1)):aU)/\h.Le h'):=by
 have e:=hgs.len;have f:=hms.len;have g:=hcs.len;refine Ct func39 Z (Sr (I Z (Bo #[J d,J m,gsv,msv,csv] Z Z λ_ _ _ a b _=>Az (.bool false) Z (V (Sr (Mz (J n) Z (Fz A0 Z (Fz Cn Z (Lz gsv Z (Rd.one Ec b Z) (I Z (AZ FC (hgs.le a) Z (I Z (A3 Z Z Y (I Z (Aa func41 B9 Z Z Z ((BZ n 0 ((gs.length:Int)-1) ).mono λ_ _ c=>?_))))))))))))))));obtain ⟨rfl,rfl⟩:=c;exact Az (.bool (decide (0<=n/\n<=((gs.length:Int)-1)))) Z (V (Rt (⟨Zr,Ot (.bool (decide (0<=n/\n<=((gs.length:Int)-1)))) Z (⟨(by rfl),a⟩)⟩)))
theorem Mn(n:Int)(hgs:AJ h gsv 5 Bw gs)(hms:AJ h msv 5 Bf ms)(hcs:AJ h csv 4 BI cs):AU W 70 #[.agg #[J d,J m,gsv,msv,csv],J n] h (λv h'=>v=(.bool (decide (0<=n/\n<=(ms.length:Int)-1)):aU)/\h.Le h'):=by
 have e:=hgs.len;have f:=hms.len;have g:=hcs.len;refine Ct func70 Z (Sr (I Z (Bo #[J d,J m,gsv,msv,csv] Z Z λ_ _ _ a b _=>Az (.bool false) Z (V (Sr (Mz (J n) Z (Fz A0 Z (Fz B1 Z (Lz msv Z (Rd.one C3 b Z) (I Z (AZ FD (hms.le a) Z (I Z (A3 Z Z Y (I Z (Aa func41 B9 Z Z Z ((BZ n 0 ((ms.length:Int)-1) ).mono λ_ _ c=>?_))))))))))))))));obtain ⟨rfl,rfl⟩:=c;exact Az (.bool (decide (0<=n/\n<=((ms.length:Int)-1)))) Z (V (Rt (⟨Zr,Ot (.bool (decide (0<=n/\n<=((ms.length:Int)-1)))) Z (⟨(by rfl),a⟩)⟩)))
theorem MC(p:AW)(i:Int)(hi0:0<=i)(hi1:i<6):AU W 72 #[.agg (An p),J i] h (λv h'=>v=(J (Cd p ((i).toNat)):aU)/\h.Le h'):=by
 refine Ct func72 Z (Sr (I Z (Bo (An p) Z Z λ_ _ _ a b _=>Az (J 0) Z (V (S2 (Mz (J i) Z (Fz Ei Z ?_)))))));have c:(0:Int)<=i:=Y
 have e:i<((6:Nat):Int):=Y
 refine I Z (Bj FV Z Z c e (Lz (.bool (p.lies (i.toNat))) Z (Rd.one F5 b (KA (i:=i.toNat) Y)) (V (C5 Z (λf=>?_) (λf=>?_)))))
 ·exact Sr (Az (J 0) Z (V (Rt (⟨Zr,Ot (J 0) Z (⟨(by simp_all [Cd]),a⟩)⟩))))
 ·refine Sk (Sr (Mz (J i) Z (Fz JP Z ?_)));have g:(0:Int)<=i:=Y
  have j:i<((6:Nat):Int):=Y
  exact I Z (Bj FU Z Z g j (Lz (J (p.many (i.toNat))) Z (Rd.one AF b (Uk (i:=i.toNat) Y)) (Az (J (p.many (i.toNat))) Z (V (Rt (⟨Zr,Ot (J (p.many (i.toNat))) Z (⟨(by simp_all [Cd]),a⟩)⟩))))))
theorem WP(p:AW):AU W 112 #[.agg (An p)] h (λv h'=>v=(J (By p 6:Int):aU)/\h.Le h'):=by
 refine Ct func112 Z (Sr (I Z (Bo (An p) Z Z λ_ l _ n q _=>Az (J 0) Z (V (Sr (Az (J 0) Z (V (S2 (Fz Ei Z (Lz (.agg #[.bool (p.lies 0),.bool (p.lies 1),.bool (p.lies 2),.bool (p.lies 3),.bool (p.lies 4),.bool (p.lies 5)]) Z (Dl (o:=9) (ws:=#[.bool (p.lies 0),.bool (p.lies 1),.bool (p.lies 2),.bool (p.lies 3),.bool (p.lies 4),.bool (p.lies 5)]) fx_ty150 (Bx q Z) (Nb Z) Z) (Mz (J 0) Z (V (Bk (Aq (λi σ' c h'=>∃(k:Nat),i=6-k/\(k<=6)/\c=[]/\L.Le l h'/\σ' 2=J 0/\σ' 7=.agg #[.bool (p.lies 0),.bool (p.lies 1),.bool (p.lies 2),.bool (p.lies 3),.bool (p.lies 4),.bool (p.lies 5)]/\σ' 3=J (By p k:Int)/\σ' 8=J k) ⟨0,Z,Y,Z,Lr,Z,Z,Z,Z⟩ (λi _ _ _ r=>?_)))))))))))))));obtain ⟨k,rfl,z,s,e,j,f,g,a⟩:=r;subst s;have t:=Nd p k;refine Sr (I Z (Aw a Z (V (Sq (AR Z (λu=>?_) (λu=>?_))))))
 ·refine Sk (Sq (Bk (Sq (Rg ?_))));have w:(0:Int)<=(k:Int):=Y
  have x:(k:Int)<((6:Nat):Int):=Y
  refine I Z (Lf YN f a w x (SX Y) (Az (.bool (p.lies k)) Z (V (Sr (Mz (.bool (p.lies k)) Z (V (C5 Z (λy=>?_) (λy=>?_))))))))
  ·exact Rg (Mv (J (By p k:Int)) Z g (Yd Z Y (Az (J ((By p k:Int)+1)) Z (V (Rg (Ad _ _ Z a Z Y (Mz (J ((k:Int)+1)) Z (V (⟨_,Y,k+1,Z,Y,Z,e,j,f,(Et (b:=(J ((By p k:Int)+1):aU)) Z (by congr 1;simp_all [By])),Z⟩)))))))))
  ·exact Sk (Rg (Ad _ _ Z a Z Y (Mz (J ((k:Int)+1)) Z (V (⟨_,Y,k+1,Z,Y,Z,e,j,f,(Et (b:=(J (By p k:Int):aU)) g (by congr 1;simp_all [By])),Z⟩)))))
 ·exact Xt (Sr (Mv (J (By p k:Int)) Z g (Az (J (By p k:Int)) Z (V (Rt (⟨Zr,Ot (J (By p k:Int)) Z (⟨(by obtain rfl:k=6:=Y;rfl),(n.trans e)⟩)⟩))))))
theorem Jz(a:List Int)(av:aU)(b:List Int)(bv:aU)(ha:AJ h av 1 eI a)(hb:AJ h bv 1 eI b):AU W 15 #[av,bv] h (λv h'=>v=(.bool (decide (a=b)):aU)/\h.Le h'):=by
 have H:=ha.len;have K:=hb.len;refine Ct func15 Z (Sr (Az (.bool false) Z (V (S2 (Mz av Z (I Z (AZ CX ha Z (Mz bv Z (I Z (AZ CX hb Z (I Z (Ar Z Z (V (AR Z (λn=>?_) (λn=>?_)))))))))))))))
 ·exact Sr (Az (.bool false) Z (V (Rt (⟨Zr,Ot (.bool false) Z (⟨(by (rw [decide_eq_false (ne_len Y)];done)),Lr⟩)⟩))))
 ·refine Sk (S2 (Az (J 0) Z (V (Bk (Aq (λi σ' f h'=>∃(k:Nat),i=a.length-k/\(k<=a.length)/\(a.take k=b.take k)/\f=[]/\L.Le h h'/\σ' 0=av/\σ' 1=bv/\σ' 5=J k) ⟨0,Z,Y,(by rfl),Z,Lr,Z,Z,Z⟩ (λi _ _ _ o=>?_))))));obtain ⟨k,rfl,p,j,q,c,g,l,e⟩:=o;subst q;refine S2 (Mv (J k) Z e (Mv av Z g (I Z (AZ CX (ha.le c) Z (I Z (Aw Z Z (V (AR Z (λr=>?_) (λr=>?_)))))))))
  ·refine Sk (Sq (Bk (Sq (BT 8 false [1,6,10,16,21,26,30,36] Ah aB (Rz Z (Mo av g vz) (Rz Z (Mo (J k) e vz) ?_))))));have s:(0:Int)<=(k:Int):=Y
   have t:(k:Int)<((a.length:Nat):Int):=Y
   refine tI Z Z AO ha Z Z s t λu w x=>have y:AX _ u w 1 (eI (a.getD k 0)):=AX.getD 0 x;Rl (Qs a k) Z (Br AF (y.le c) Z) (Rz Z (Mo bv l vz) (Rz Z (Mo (J k) e vz) ?_));have z:(0:Int)<=(k:Int):=Y
   have A:(k:Int)<((b.length:Nat):Int):=Y
   refine tI Z Z AO hb Z Z z A λB C D=>have E:AX _ B C 1 (eI (b.getD k 0)):=AX.getD 0 D;Rl (Qs b k) Z (Br AF (E.le c) Z) (tN (I Z (Ar Z Z (V (AR Z (λF=>?_) (λF=>?_))))))
   ·exact Sr (Az (.bool false) Z (V (Rt (⟨Zr,Ot (.bool false) Z (⟨(by (rw [decide_eq_false (ne_getD (k:=k) (d:=0) ‹_›)])),c⟩)⟩))))
   ·exact Sk (Rg (Mv (J k) Z e (Yd Z Y (Az (J ((k:Int)+1)) Z (V (⟨_,Y,k+1,Z,Y,(by exact Nf 0 j Y Y aF),Z,c,g,l,Z⟩))))))
  ·exact Xt (Sr (Az (.bool true) Z (V (Rt (⟨Zr,Ot (.bool true) Z (⟨(by (rw [decide_eq_true (RG j p ‹_› Y)];done)),c⟩)⟩)))))
theorem Dv(n:Int)(lo:Int)(hi:Int):AU W 19 #[J n,J lo,J hi] h (λv h'=>v=(.bool (decide (lo<=n/\n<=hi)):aU)/\h=h'):=by
 refine Ct func19 Z (Sr (Az (.bool false) Z (V (BV (λσ' c h'=>c=[]/\h=h'/\σ' 6=.bool (Qr lo n hi)) ?_ ?_))))
 ·refine Rg (Mz (J n) Z (Mz (J lo) Z (I Z (CO Z Z (Mz (Qd lo n) Z (Ae (p:=lo<=n) ?_ ?_))))))
  ·intro a;exact Gg 3 10 (AA Z a) Z (Mo (J n) Z (Gg 3 10 (AA Z a) Z (Mo (J hi) Z (Gg 3 10 (AA Z a) Z (DF Z Z (Pk true (Qd n hi) Z (AA Z a) Z (Az (Qd n hi) Z (V (⟨Z,Z,Et (b:=(.bool (decide (n<=hi)):aU)) Z (congrArg Value.bool (by (simp [a];done):decide (n<=hi)=(Qr lo n hi)))⟩)))))))))
  ·intro a;exact Gs 3 10 (AB Z a) Z (Gs 3 10 (AB Z a) Z (Gs 3 10 (AB Z a) Z (Pk false (.bool false) Z (AB Z a) Z (Az (.bool false) Z (V (⟨Z,Z,Et (b:=(.bool false:aU)) Z (congrArg Value.bool (by (simp [a];done):false=(Qr lo n hi)))⟩))))))
 ·rintro _ _ _ ⟨e,f,g⟩;subst e;subst f;exact Rt (⟨Zr,Hx Z (v:=.bool (Qr lo n hi)) g (⟨(by rfl),Z⟩)⟩)
theorem Dh(xl:Int)(xh:Int)(lo:Int)(hi:Int):AU W 103 #[.agg #[J xl,J xh],J lo,J hi] h (λv h'=>v=(.bool (decide ((lo<=xl/\xl<=xh)/\xh<=hi)):aU)/\h.Le h'):=by
 refine Ct func103 Z (Sr (I Z (Bo #[J xl,J xh] Z Z λ_ g _ i e _=>Az (.bool false) Z (V (BV (λσ' f h'=>f=[]/\g=h'/\σ' 6=.bool (Qc lo xl xh hi)) ?_ ?_)))))
 ·refine Rg (Fz BY Z (Lz (J xl) Z (Rd.one AF e Z) (Mz (J lo) Z (I Z (CO Z Z (Mz (Qd lo xl) Z (Ae (p:=lo<=xl) ?_ ?_)))))))
  ·intro a;refine Gg 4 11 (AA Z a) Z (AD Bc Z (Gg 4 11 (AA Z a) Z (Lo (J xh) Z (Rd.one AF e Z) (Gg 4 11 (AA Z a) Z (AD BY Z (Gg 4 11 (AA Z a) Z (Lo (J xl) Z (Rd.one AF e Z) (Gg 4 11 (AA Z a) Z (CO Z Z (Pk true (Qd xl xh) Z (AA Z a) Z (Mz (Qd xl xh) Z (Ae (p:=xl<=xh) ?_ ?_))))))))))))
   ·intro c;exact Gg 11 18 (AA Z c) Z (AD Bc Z (Gg 11 18 (AA Z c) Z (Lo (J xh) Z (Rd.one AF e Z) (Gg 11 18 (AA Z c) Z (Mo (J hi) Z (Gg 11 18 (AA Z c) Z (DF Z Z (Pk true (Qd xh hi) Z (AA Z c) Z (Az (Qd xh hi) Z (V (⟨Z,Z,Et (b:=(.bool (decide (xh<=hi)):aU)) Z (congrArg Value.bool (by (simp [a,c];done):decide (xh<=hi)=(Qc lo xl xh hi)))⟩)))))))))))
   ·intro c;exact Gs 11 18 (AB Z c) Z (Gs 11 18 (AB Z c) Z (Gs 11 18 (AB Z c) Z (Gs 11 18 (AB Z c) Z (Pk false (.bool false) Z (AB Z c) Z (Az (.bool false) Z (V (⟨Z,Z,Et (b:=(.bool false:aU)) Z (congrArg Value.bool (by (simp [a,c];done):false=(Qc lo xl xh hi)))⟩)))))))
  ·intro a;exact Gs 4 11 (AB Z a) Z (Gs 4 11 (AB Z a) Z (Gs 4 11 (AB Z a) Z (Gs 4 11 (AB Z a) Z (Gs 4 11 (AB Z a) Z (Pk false (.bool false) Z (AB Z a) Z (Mz (.bool false) Z (Gs 11 18 Z Z (Gs 11 18 Z Z (Gs 11 18 Z Z (Gs 11 18 Z Z (Pz false (.bool false) Z (Az (.bool false) Z (V (⟨Z,Z,Et (b:=(.bool false:aU)) Z (congrArg Value.bool (by (simp [a];done):false=(Qc lo xl xh hi)))⟩))))))))))))))
 ·rintro _ _ _ ⟨j,k,l⟩;subst j;subst k;exact Rt (⟨Zr,Hx Z (v:=.bool (Qc lo xl xh hi)) l (⟨(by rfl),i⟩)⟩)
theorem EK(a:Int)(b:Int):AU W 11 #[J a,J b] h (λv h'=>v=(.agg #[J a,J b]:aU)/\h.Le h'):=by
 exact Ct func11 Z (Sr (I Z (AV B4 λ_ _ c e f _=>V (Sr (Mz (J a) Z (Mz (J b) Z (I Z (Av (cells:=#[J a,J b]) Gi B4 aB (I Z (So (.agg #[J a,J b]) #[J a,J b] BG Z f Z aD Z λ_ g i=>V (Rt (⟨Zr,Hn Z (v:=.agg #[J a,J b]) Z (AI BG (Bx g Z)) (⟨Z,(e.upd (Ln Lr c) i)⟩)⟩))))))))))))
theorem Hg(n:Int)(hgs:AJ h gsv 5 Bw gs)(hms:AJ h msv 5 Bf ms)(hcs:AJ h csv 4 BI cs):AU W 73 #[.agg #[J d,J m,gsv,msv,csv],J n] h (λv h'=>v=(.bool (decide ((0<=n/\n<=(ms.length:Int)-1)/\(ms.getD (n).toNat AG.z).kind=0)):aU)/\h.Le h'):=by
 have x:=hgs.len;have y:=hms.len;have A:=hcs.len;refine Ct func73 Z (Sr (I Z (Bo #[J d,J m,gsv,msv,csv] Z Z λ_ i _ c g _=>Az (.bool false) Z (V (BV (λσ' f h'=>f=[]/\L.Le i h'/\σ' 4=.bool (decide ((0<=n/\n<=(ms.length:Int)-1)/\(((ms.getD (n.toNat) AG.z).kind)=0)))) ?_ ?_)))))
 ·refine Rg (Lz _ Z (AI CL (Bx g Z)) (Mz (J n) Z (I Z (AS func70 QB Z Z ((Mn d m gs gsv ms msv cs csv n (hgs.le c) (hms.le c) (hcs.le c) ).mono λ_ _ j=>?_)))));obtain ⟨rfl,e⟩:=j;refine Mz (.bool (decide (0<=n/\n<=(ms.length:Int)-1))) Z (Ae (p:=0<=n/\n<=(ms.length:Int)-1) ?_ ?_)
  ·intro a;refine Gg 3 8 (AA Z a) Z (AD A0 Z (Gg 3 8 (AA Z a) Z (AD B1 Z (Gg 3 8 (AA Z a) Z (Lo msv Z (Rd.one C3 (e.keep g Z) Z) (Gg 3 8 (AA Z a) Z (Mo (J n) Z ?_)))))));have k:(0:Int)<=n:=Y
   have l:n<((ms.length:Nat):Int):=Y
   exact Gg 3 8 (AA Z a) Z (Ag Fi hms Z Z k l λo q r=>have s:AX _ o q 5 (Bf (ms.getD (n.toNat) AG.z)):=AX.getD AG.z r;Gg 3 8 (AA Z a) Z (AD Ih Z (Gg 3 8 (AA Z a) Z (Lo (J ((ms.getD (n.toNat) AG.z).kind)) Z (Br NF (s.le (c.trans e)) Z) (Gg 3 8 (AA Z a) Z (A7 Z Z (Pk true (.bool (decide (((ms.getD (n.toNat) AG.z).kind)=0))) Z (AA Z a) Z (Az (.bool (decide (((ms.getD (n.toNat) AG.z).kind)=0))) Z (V (⟨Z,e,Et (b:=(.bool (decide (((ms.getD (n.toNat) AG.z).kind)=0)):aU)) Z (congrArg Value.bool (by (simp [a];done):decide (((ms.getD (n.toNat) AG.z).kind)=0)=(decide ((0<=n/\n<=(ms.length:Int)-1)/\(((ms.getD (n.toNat) AG.z).kind)=0)))))⟩))))))))))
  ·intro a;exact Gs 3 8 (AB Z a) Z (Gs 3 8 (AB Z a) Z (Gs 3 8 (AB Z a) Z (Gs 3 8 (AB Z a) Z (Gs 3 8 (AB Z a) Z (Gs 3 8 (AB Z a) Z (Gs 3 8 (AB Z a) Z (Gs 3 8 (AB Z a) Z (Pk false (.bool false) Z (AB Z a) Z (Az (.bool false) Z (V (⟨Z,e,Et (b:=(.bool false:aU)) Z (congrArg Value.bool (by (simp [a];done):false=(decide ((0<=n/\n<=(ms.length:Int)-1)/\(((ms.getD (n.toNat) AG.z).kind)=0)))))⟩)))))))))))
 ·rintro _ _ _ ⟨t,u,w⟩;subst t;exact Rt (⟨Zr,Hx Z (v:=.bool (decide ((0<=n/\n<=(ms.length:Int)-1)/\(((ms.getD (n.toNat) AG.z).kind)=0)))) w (⟨(by rfl),(c.trans u)⟩)⟩)
theorem ZG(hgs:AJ h gsv 5 Bw gs)(hms:AJ h msv 5 Bf ms)(hcs:AJ h csv 4 BI cs):AU W 190 #[.agg #[J d,J m,gsv,msv,csv]] h (λv h'=>v=(J (GI d m):aU)/\h.Le h'):=by
 have q:=hgs.len;have r:=hms.len;have s:=hcs.len;refine Ct func190 Z (Sr (I Z (Bo #[J d,J m,gsv,msv,csv] Z Z λ_ g _ e f _=>Az (J 0) Z (V (Sq (BV (λσ' c h'=>c=[]/\g=h'/\σ' 2=J 0/\σ' 14=.bool (Q1d d m)) ?_ ?_))))))
 ·refine Rg (Fz A0 Z (Fz C1 Z (Lz (J d) Z (Rd.one AF f Z) (I Z (Aa func41 B9 Z Z Z ((BZ d 1 99 ).mono λ_ _ i=>?_))))));obtain ⟨rfl,rfl⟩:=i;refine I Z (A8 Z (Mz (.bool (decide (¬(1<=d/\d<=99)))) Z (Ae (p:=¬(1<=d/\d<=99)) ?_ ?_)))
  ·intro a;exact Gs 5 8 (AA Z a) Z (Gs 5 8 (AA Z a) Z (Gs 5 8 (AA Z a) Z (Gs 5 8 (AA Z a) Z (Gs 5 8 (AA Z a) Z (Pk true (.bool true) Z (AA Z a) Z (V (⟨Z,Z,Z,Et (b:=(.bool true:aU)) Z (congrArg Value.bool (by (simp [a];done):true=(Q1d d m)))⟩)))))))
  ·intro a;refine Gg 5 8 (AB Z a) Z (AD A0 Z (Gg 5 8 (AB Z a) Z (AD Ig Z (Gg 5 8 (AB Z a) Z (Lo (J m) Z (Rd.one AF f Z) (Gg 5 8 (AB Z a) Z (Aa func41 B9 Z Z Z ((BZ m 0 2 ).mono λ_ _ j=>?_))))))));obtain ⟨rfl,rfl⟩:=j;exact Gg 5 8 (AB Z a) Z (A8 Z (Pk false (.bool (decide (¬(0<=m/\m<=2)))) Z (AB Z a) Z (V (⟨Z,Z,Z,Et (b:=(.bool (decide (¬(0<=m/\m<=2))):aU)) Z (congrArg Value.bool (by (simp [a];done):decide (¬(0<=m/\m<=2))=(Q1d d m)))⟩))))
 ·rintro _ _ _ ⟨k,l,t,n⟩;subst k;subst l;refine AR n (λo=>?_) (λo=>?_)
  ·exact Sr (Az (J 1) Z (V (Rt (⟨Zr,Ot (J 1) Z (⟨(by simp_all [GI]),e⟩)⟩))))
  ·exact Sk (Sr (Az (J 0) Z (V (Rt (⟨Zr,Ot (J 0) Z (⟨(by simp_all [GI]),e⟩)⟩)))))
theorem PK(xs:List Int)(xsv:aU)(fv:aU)(p:Int->Bool)(hxs:AJ h xsv 1 eI xs)(hf:∀x ∈ xs,∀h1,h.Le h1->CT W fv #[J x] h1 λv h2=>v=.bool (p x)/\h1.Le h2):AU W 107 #[xsv,fv] h (λv h'=>v=(J (idxOf p xs):aU)/\h.Le h'):=by
 have B:=hxs.len;refine Ct func107 Z (Sr (Az (J 0) Z (V (S2 (Mz xsv Z (I Z (AZ CX hxs Z (Mz (J 0) Z (V (Bk (Aq (λf σ' b h'=>∃(k:Nat),f=xs.length-k/\(k<=xs.length)/\((xs.take k).any p=false)/\b=[]/\L.Le h h'/\σ' 0=xsv/\σ' 1=fv/\σ' 7=J (xs.length:Int)/\σ' 8=J k) ⟨0,Z,Y,aD,Z,Lr,Z,Z,Z,Z⟩ (λf _ _ _ n=>?_))))))))))));obtain ⟨k,rfl,C,c,o,a,g,i,j,e⟩:=n;subst o;refine Sr (I Z (Aw e j (V (Sq (AR Z (λq=>?_) (λq=>?_))))))
 ·refine Sk (Sq (Bk (Sr (Mv (J k) Z e (Az (J k) Z (V (Sr (Mv fv Z i (Mv xsv Z g (Mz (J k) Z ?_))))))))));have r:(0:Int)<=(k:Int):=Y
  have s:(k:Int)<((xs.length:Nat):Int):=Y
  refine I Z (Ag AO hxs Z Z r s λt u w=>have y:AX _ t u 1 (eI (xs.getD k 0)):=AX.getD 0 w;Lz (Qs xs k) Z (Br AF (y.le a) Z) (I Z (Fu Z (vs:=#[J (xs.getD k 0)]) (by simp only [List.map_toArray,List.map_cons,List.map_nil,AL] <;> rfl) ((hf (xs.getD k 0) (E7 Y) _ a).mono λ_ _ z=>?_))));obtain ⟨rfl,l⟩:=z;refine V (C5 Z (λA=>?_) (λA=>?_))
  ·exact Sr (Mz (J k) Z (Az (J k) Z (V (Rt (⟨Zr,Ot (J k) Z (⟨(by (rw [Li (k:=k) Y c ‹_›];done)),(a.trans l)⟩)⟩)))))
  ·exact Sk (Rg (Ad _ _ Z e Z Y (Mz (J ((k:Int)+1)) Z (V (⟨_,Y,k+1,Z,Y,(by exact Nh (d:=0) Y c ‹_›),Z,(a.trans l),g,i,j,Z⟩)))))
 ·exact Xt (Sr (Az (J (-1)) Z (V (Rt (⟨Zr,Ot (J (-1)) Z (⟨(by (rw [KB (k:=k) Y c])),a⟩)⟩)))))
theorem F7(xs:List Int)(xsv:aU)(fv:aU)(p:Int->Bool)(hxs:AJ h xsv 1 eI xs)(hf:∀x ∈ xs,∀h1,h.Le h1->CT W fv #[J x] h1 λv h2=>v=.bool (p x)/\h1.Le h2):AU W 76 #[xsv,fv] h (λv h'=>v=(.bool (xs.any p):aU)/\h.Le h'):=by
 have f:=hxs.len;refine Ct func76 Z (Sr (Az (.bool false) Z (V (Sr (Mz xsv Z (Mz fv Z (I Z (AS func107 VZ Z Z ((PK xs xsv fv p hxs (λx a h1 b=>hf x a h1 (L.Le.trans Lr b))).mono λ_ _ c=>?_)))))))));obtain ⟨rfl,e⟩:=c;exact I Z (CO Z Z (Az (.bool (decide (0<=(idxOf p xs)))) Z (V (Rt (⟨Zr,Ot (.bool (decide (0<=(idxOf p xs)))) Z (⟨(by rw [show decide (0<=idxOf p xs)=xs.any p from by rw [Bool.eq_iff_iff];simp [H3]]),e⟩)⟩)))))
theorem Mx(xs:List AP)(xsv:aU)(fv:aU)(p:AP->Bool)(hxs:AJ h xsv 4 BI xs)(hf:∀x ∈ xs,∀h1,h.Le h1->CT W fv #[.agg #[J x.good,J x.day,J x.low,J x.high]] h1 λv h2=>v=.bool (p x)/\h1.Le h2):AU W 152 #[xsv,fv] h (λv h'=>v=(J (idxOf p xs):aU)/\h.Le h'):=by
 have C:=hxs.len;refine Ct func152 Z (Sr (Az (J 0) Z (V (S2 (Mz xsv Z (I Z (AZ LO hxs Z (Mz (J 0) Z (V (Bk (Aq (λf σ' b h'=>∃(k:Nat),f=xs.length-k/\(k<=xs.length)/\((xs.take k).any p=false)/\b=[]/\L.Le h h'/\σ' 0=xsv/\σ' 1=fv/\σ' 7=J (xs.length:Int)/\σ' 8=J k) ⟨0,Z,Y,aD,Z,Lr,Z,Z,Z,Z⟩ (λf _ _ _ n=>?_))))))))))));obtain ⟨k,rfl,D,c,o,a,g,i,j,e⟩:=n;subst o;refine Sr (I Z (Aw e j (V (Sq (AR Z (λq=>?_) (λq=>?_))))))
 ·refine Sk (Sq (Bk (Sr (Mv (J k) Z e (Az (J k) Z (V (Sr (Mv fv Z i (Mv xsv Z g (Mz (J k) Z ?_))))))))));have r:(0:Int)<=(k:Int):=Y
  have s:(k:Int)<((xs.length:Nat):Int):=Y
  refine I Z (Ag OU hxs Z Z r s λt u w=>have y:AX _ t u 4 (BI (xs.getD k AP.z)):=AX.getD AP.z w;Lz _ Z (AI IE (y.le a)) (I Z (Fu Z (vs:=#[.agg (Qo xs k)]) (by simp only [List.map_toArray,List.map_cons,List.map_nil,AL] <;> rfl) ((hf (xs.getD k AP.z) (E7 Y) _ a).mono λ_ _ A=>?_))));obtain ⟨rfl,l⟩:=A;refine V (C5 Z (λB=>?_) (λB=>?_))
  ·exact Sr (Mz (J k) Z (Az (J k) Z (V (Rt (⟨Zr,Ot (J k) Z (⟨(by (rw [Li (k:=k) Y c ‹_›];done)),(a.trans l)⟩)⟩)))))
  ·exact Sk (Rg (Ad _ _ Z e Z Y (Mz (J ((k:Int)+1)) Z (V (⟨_,Y,k+1,Z,Y,(by exact Nh (d:=AP.z) Y c ‹_›),Z,(a.trans l),g,i,j,Z⟩)))))
 ·exact Xt (Sr (Az (J (-1)) Z (V (Rt (⟨Zr,Ot (J (-1)) Z (⟨(by (rw [KB (k:=k) Y c])),a⟩)⟩)))))
theorem KZ(xs:List AP)(xsv:aU)(fv:aU)(p:AP->Bool)(hxs:AJ h xsv 4 BI xs)(hf:∀x ∈ xs,∀h1,h.Le h1->CT W fv #[.agg #[J x.good,J x.day,J x.low,J x.high]] h1 λv h2=>v=.bool (p x)/\h1.Le h2):AU W 126 #[xsv,fv] h (λv h'=>v=(.bool (xs.any p):aU)/\h.Le h'):=by
 have f:=hxs.len;refine Ct func126 Z (Sr (Az (.bool false) Z (V (Sr (Mz xsv Z (Mz fv Z (I Z (AS func152 V4 Z Z ((Mx xs xsv fv p hxs (λx a h1 b=>hf x a h1 (L.Le.trans Lr b))).mono λ_ _ c=>?_)))))))));obtain ⟨rfl,e⟩:=c;exact I Z (CO Z Z (Az (.bool (decide (0<=(idxOf p xs)))) Z (V (Rt (⟨Zr,Ot (.bool (decide (0<=(idxOf p xs)))) Z (⟨(by rw [show decide (0<=idxOf p xs)=xs.any p from by rw [Bool.eq_iff_iff];simp [H3]]),e⟩)⟩)))))
theorem Oh(xs:List Good)(xsv:aU)(fv:aU)(p:Good->Bool)(hxs:AJ h xsv 5 Bw xs)(hf:∀x ∈ xs,∀h1,h.Le h1->CT W fv #[.agg #[.string x.name,J x.cost,J x.pack,J x.low,J x.high]] h1 λv h2=>v=.bool (p x)/\h1.Le h2):AU W 199 #[xsv,fv] h (λv h'=>v=(J (idxOf p xs):aU)/\h.Le h'):=by
 have C:=hxs.len;refine Ct func199 Z (Sr (Az (J 0) Z (V (S2 (Mz xsv Z (I Z (AZ FC hxs Z (Mz (J 0) Z (V (Bk (Aq (λf σ' b h'=>∃(k:Nat),f=xs.length-k/\(k<=xs.length)/\((xs.take k).any p=false)/\b=[]/\L.Le h h'/\σ' 0=xsv/\σ' 1=fv/\σ' 7=J (xs.length:Int)/\σ' 8=J k) ⟨0,Z,Y,aD,Z,Lr,Z,Z,Z,Z⟩ (λf _ _ _ n=>?_))))))))))));obtain ⟨k,rfl,D,c,o,a,g,i,j,e⟩:=n;subst o;refine Sr (I Z (Aw e j (V (Sq (AR Z (λq=>?_) (λq=>?_))))))
 ·refine Sk (Sq (Bk (Sr (Mv (J k) Z e (Az (J k) Z (V (Sr (Mv fv Z i (Mv xsv Z g (Mz (J k) Z ?_))))))))));have r:(0:Int)<=(k:Int):=Y
  have s:(k:Int)<((xs.length:Nat):Int):=Y
  refine I Z (Ag HD hxs Z Z r s λt u w=>have y:AX _ t u 5 (Bw (xs.getD k Good.z)):=AX.getD Good.z w;Lz _ Z (AI Gj (y.le a)) (I Z (Fu Z (vs:=#[.agg (Qj xs k)]) (by simp only [List.map_toArray,List.map_cons,List.map_nil,AL] <;> rfl) ((hf (xs.getD k Good.z) (E7 Y) _ a).mono λ_ _ A=>?_))));obtain ⟨rfl,l⟩:=A;refine V (C5 Z (λB=>?_) (λB=>?_))
  ·exact Sr (Mz (J k) Z (Az (J k) Z (V (Rt (⟨Zr,Ot (J k) Z (⟨(by (rw [Li (k:=k) Y c ‹_›];done)),(a.trans l)⟩)⟩)))))
  ·exact Sk (Rg (Ad _ _ Z e Z Y (Mz (J ((k:Int)+1)) Z (V (⟨_,Y,k+1,Z,Y,(by exact Nh (d:=Good.z) Y c ‹_›),Z,(a.trans l),g,i,j,Z⟩)))))
 ·exact Xt (Sr (Az (J (-1)) Z (V (Rt (⟨Zr,Ot (J (-1)) Z (⟨(by (rw [KB (k:=k) Y c])),a⟩)⟩)))))
theorem LU(xs:List Good)(xsv:aU)(fv:aU)(p:Good->Bool)(hxs:AJ h xsv 5 Bw xs)(hf:∀x ∈ xs,∀h1,h.Le h1->CT W fv #[.agg #[.string x.name,J x.cost,J x.pack,J x.low,J x.high]] h1 λv h2=>v=.bool (p x)/\h1.Le h2):AU W 195 #[xsv,fv] h (λv h'=>v=(.bool (xs.any p):aU)/\h.Le h'):=by
 have f:=hxs.len;refine Ct func195 Z (Sr (Az (.bool false) Z (V (Sr (Mz xsv Z (Mz fv Z (I Z (AS func199 WG Z Z ((Oh xs xsv fv p hxs (λx a h1 b=>hf x a h1 (L.Le.trans Lr b))).mono λ_ _ c=>?_)))))))));obtain ⟨rfl,e⟩:=c;exact I Z (CO Z Z (Az (.bool (decide (0<=(idxOf p xs)))) Z (V (Rt (⟨Zr,Ot (.bool (decide (0<=(idxOf p xs)))) Z (⟨(by rw [show decide (0<=idxOf p xs)=xs.any p from by rw [Bool.eq_iff_iff];simp [H3]]),e⟩)⟩)))))
theorem PL(n:Int):AU W 125 #[J n] h (λv h'=>v=(.bool (decide (¬(0<=n/\n<=99))):aU)/\h=h'):=by
 refine Ct func125 Z (Sr (Az (.bool false) Z (V (Sr (Mz (J n) Z (I Z (Aa func41 B9 Z Z Z ((BZ n 0 99 ).mono λ_ _ a=>?_))))))));obtain ⟨rfl,rfl⟩:=a;exact I Z (A8 Z (Az (Q17 n) Z (V (Rt (⟨Zr,Ot (Q17 n) Z (⟨Z,Z⟩)⟩)))))
theorem LV(l:List Int)(lv:aU)(m:Int)(hl:AJ h lv 1 eI l):AU W 105 #[lv,J m] h (λv h'=>v=(J (A4 l m):aU)/\h.Le h'):=by
 have k:=hl.len;refine Ct func105 Z (Sr (Az (J 0) Z (V (Sq (Bk (Sr (Mz lv Z (I Z (AZ CX hl Z (Mz (J m) Z (I Z (Ar Z Z (Az (.bool (decide (¬(l.length:Int)=m))) Z (V (AR Z (λf=>?_) (λf=>?_))))))))))))))))
 ·exact Sr (Az (J 2) Z (V (Rt (⟨Zr,Ot (J 2) Z (⟨(by simp_all [A4]),Lr⟩)⟩))))
 ·refine Sr (Mz lv Z ?_);have g:∀x ∈ l,∀a,L.Le h a->CT W (.func (.func 125) #[] #[]) #[J x] a λv b=>v=.bool ((λx=>decide (¬(0<=x/\x<=99))) x)/\a.Le b:=by
   intro x n a _;exact Bs func125 Vk Z ((PL x ).mono λv b c=>⟨c.1,by rw [<-c.2];exact L.Le.refl _⟩)
  refine I Z (AS func76 L5 Z Z ((F7 l lv (.func (.func 125) #[] #[]) (λx=>decide (¬(0<=x/\x<=99))) hl g).mono λ_ _ i=>?_));obtain ⟨rfl,e⟩:=i;refine Az (.bool (l.any (λx=>decide (¬(0<=x/\x<=99))))) Z (V (C5 Z (λj=>?_) (λj=>?_)))
  ·exact Sr (Az (J 1) Z (V (Rt (⟨Zr,Ot (J 1) Z (⟨(by simp_all [A4]),e⟩)⟩))))
  ·exact Sk (Sr (Az (J 0) Z (V (Rt (⟨Zr,Ot (J 0) Z (⟨(by simp_all [A4]),e⟩)⟩)))))
theorem WQ(hgs:AJ h gsv 5 Bw gs)(hms:AJ h msv 5 Bf ms)(hcs:AJ h csv 4 BI cs):AU W 192 #[.agg #[J d,J m,gsv,msv,csv]] h (λv h'=>v=(J (DN d gs ms):aU)/\h.Le h'):=by
 have av:=hgs.len;have aw:=hms.len;have ax:=hcs.len;refine Ct func192 Z (Sr (I Z (Bo #[J d,J m,gsv,msv,csv] Z Z λy O _ i r _=>Az (J 0) Z (V (S2 (Fz A0 Z (Fz B1 Z (Lz msv Z (Rd.one C3 r Z) (have A:=hms.le i;I Z (AZ FD A Z (I Z (Cb Z Z (V (AR Z (λP=>?_) (λP=>?_)))))))))))))))
 ·exact Sr (Az (J 2) Z (V (Rt (⟨Zr,Ot (J 2) Z (⟨(by (symm;congr 1;rw [DN,aT ‹_›];done)),i⟩)⟩))))
 ·refine Sk (Sr (Az (J 0) Z (V (S2 (Fz A0 Z (Fz B1 Z (Lz msv Z (Rd.one C3 r Z) (I Z (AZ FD A Z (Mz (J 0) Z (V (Bk (Aq (λB σ' s h'=>∃(k:Nat),B=ms.length-k/\(k<=ms.length)/\(∀j,j<k->Fw d gs ms j=0)/\s=[]/\L.Le O h'/\σ' 1=Pt y/\σ' 13=msv/\σ' 14=J (ms.length:Int)/\σ' 3=J (Dt ms k)/\σ' 15=J k) ⟨0,Z,Y,aK,Z,Lr,Z,Z,Z,Z,Z⟩ (λB _ _ _ Q=>?_))))))))))))));obtain ⟨k,rfl,hk,a,R,f,t,C,D,S,u⟩:=Q;subst R;refine Sr (I Z (Aw u D (V (Sq (AR Z (λT=>?_) (λT=>?_))))))
  ·refine Sk (Sq (Bk (Sq (Rg ?_))));have U:(0:Int)<=(k:Int):=Y
   have X:(k:Int)<((ms.length:Nat):Int):=Y
   refine I Z (Ag Fi hms C u U X λbk am a6=>have a7:AX _ bk am 5 (Bf (ms.getD k AG.z)):=AX.getD AG.z a6;have g:=i.trans f;Lz _ Z (AI Hf (a7.le g)) (have E:=f.keep r Z;I Z (AV Ev λbl _ l n a8 _=>have a9:y≠bl:=CR E l;I Z (So (.agg (Qb ms k)) (Qb ms k) Hf Z a8 Z aD Z λ_ w p=>V (Sq (Bk (Sr (Fz Ih Z (Lz (J ((ms.getD k AG.z).kind)) Z (Rd.one NF w Z) (I Z (Aa func41 B9 Z Z Z ((BZ ((ms.getD k AG.z).kind) 0 4 ).mono λ_ _ ba=>?_))))))))))));obtain ⟨rfl,rfl⟩:=ba;refine I Z (A8 Z (Az (.bool (decide (¬(0<=((ms.getD k AG.z).kind)/\((ms.getD k AG.z).kind)<=4)))) Z (V (AR Z (λF=>?_) (λF=>?_)))))
   ·exact Sr (Az (J 1) Z (V (Rt (⟨Zr,Ot (J 1) Z (⟨(by (symm;congr 1;rw [DN,aS ‹_›];exact CP (k:=k) a Y (by unfold Fw;(simp only [*,not_true_eq_false,not_false_eq_true,if_true,if_false,true_or,or_true,reduceCtorEq,Bool.false_eq_true];done)) aC)),((g.trans n).upd (Ln g l) p)⟩)⟩))))
   ·have hc48_:=Dn F;refine Sr (have H:=(p _ a9).trans (n.keep E Z);Ld _ Z t (AI CL (Bx H Z)) (Fz KW Z (Lz (J ((ms.getD k AG.z).good)) Z (Rd.one AF w Z) (have c:=(g.trans n).upd (Ln g l) p;I Z (AS func39 IB Z Z ((GQ d m gs gsv ms msv cs csv ((ms.getD k AG.z).good) (hgs.le c) (hms.le c) (hcs.le c) ).mono λ_ _ bb=>?_))))));obtain ⟨rfl,e⟩:=bb;refine I Z (A8 Z (Az (.bool (decide (¬(0<=((ms.getD k AG.z).good)/\((ms.getD k AG.z).good)<=(gs.length:Int)-1)))) Z (V (AR Z (λK=>?_) (λK=>?_)))))
    ·exact Sr (Az (J 6) Z (V (Rt (⟨Zr,Ot (J 6) Z (⟨(by (symm;congr 1;rw [DN,aS ‹_›];exact CP (k:=k) a Y (by unfold Fw;(clear a;simp_all;done)) aC)),(c.trans e)⟩)⟩))))
    ·have hc59_:=Dn K;refine Sr (Fz EI Z (have q:=e.keep w Z;Lz (J ((ms.getD k AG.z).day)) Z (Rd.one AF q Z) (Fa A0 Z t (Fz C1 Z (Lz (J d) Z (Rd.one AF (e.keep H Z) Z) (I Z (Aa func41 B9 Z Z Z ((BZ ((ms.getD k AG.z).day) 1 d ).mono λ_ _ bc=>?_))))))));obtain ⟨rfl,rfl⟩:=bc;refine I Z (A8 Z (Az (.bool (decide (¬(1<=((ms.getD k AG.z).day)/\((ms.getD k AG.z).day)<=d)))) Z (V (AR Z (λM=>?_) (λM=>?_)))))
     ·exact Sr (Az (J 1) Z (V (Rt (⟨Zr,Ot (J 1) Z (⟨(by (symm;congr 1;rw [DN,aS ‹_›];exact CP (k:=k) a Y (by unfold Fw;(clear a;simp_all;done)) aC)),(c.trans e)⟩)⟩))))
     ·have hc67_:=Dn M;refine Sr (Fz EI Z (Lz (J ((ms.getD k AG.z).day)) Z (Rd.one AF q Z) (Mv (J (Dt ms k)) Z S (I Z (Aw Z Z (Az (.bool (decide (((ms.getD k AG.z).day)<(Dt ms k)))) Z (V (AR Z (λbd=>?_) (λbd=>?_)))))))))
      ·exact Sr (Az (J 7) Z (V (Rt (⟨Zr,Ot (J 7) Z (⟨(by (symm;congr 1;rw [DN,aS ‹_›];exact CP (k:=k) a Y (by unfold Fw;(clear a;simp_all;done)) aC)),(c.trans e)⟩)⟩))))
      ·refine Sr (Fz Ii Z (Lz (.agg #[J ((ms.getD k AG.z).low),J ((ms.getD k AG.z).high)]) Z (Dl (o:=3) (ws:=#[J ((ms.getD k AG.z).low),J ((ms.getD k AG.z).high)]) BG (Bx q Z) (Nb Z) Z) (I Z (Ao func197 OR Z ((T0 ((ms.getD k AG.z).low) ((ms.getD k AG.z).high) ).mono λ_ _ be=>?_)))));obtain ⟨rfl,x⟩:=be;refine I Z (A8 Z (Az (.bool (decide (¬(GW ((ms.getD k AG.z).low) ((ms.getD k AG.z).high))))) Z (V (AR Z (λN=>?_) (λN=>?_)))))
       ·exact Sr (Az (J 1) Z (V (Rt (⟨Zr,Ot (J 1) Z (⟨(by (symm;congr 1;rw [DN,aS ‹_›];exact CP (k:=k) a Y (by unfold Fw;(clear a;simp_all;done)) aC)),((c.trans e).trans x)⟩)⟩))))
       ·have hc75_:=Dn N;exact Sk (Rg (Fz EI Z (Lz (J ((ms.getD k AG.z).day)) Z (Rd.one AF (x.keep q Z) Z) (Az (J ((ms.getD k AG.z).day)) Z (V (Rg (Ad _ _ Z u Z Y (Mz (J ((k:Int)+1)) Z (V (have bf:=(((f.trans n).upd (Ln f l) p).trans e).trans x;⟨_,Y,k+1,Z,Y,(by exact FQ a (by unfold Fw;(clear a;simp_all;done))),Z,bf,t,C,D,(Et (b:=(J ((ms.getD k AG.z).day):aU)) Z (by simp [Dt])),Z⟩))))))))))
  ·exact Xt (Sr (Az (J 0) Z (V (Rt (⟨Zr,Ot (J 0) Z (⟨(by (symm;congr 1;rw [DN,aS ‹_›];exact Db (k:=k) a Y)),(i.trans f)⟩)⟩)))))
theorem T1(hgs:AJ h gsv 5 Bw gs)(hms:AJ h msv 5 Bf ms)(hcs:AJ h csv 4 BI cs):AU W 193 #[.agg #[J d,J m,gsv,msv,csv]] h (λv h'=>v=(J (Dm d gs cs):aU)/\h.Le h'):=by
 have aw:=hgs.len;have ax:=hms.len;have ay:=hcs.len;refine Ct func193 Z (Sr (I Z (Bo #[J d,J m,gsv,msv,csv] Z Z λr N _ l s _=>Az (J 0) Z (V (S2 (Fz A0 Z (Fz Ej Z (Lz csv Z (Rd.one He s Z) (have B:=hcs.le l;I Z (AZ LO B Z (I Z (Cb Z Z (V (AR Z (λO=>?_) (λO=>?_)))))))))))))))
 ·exact Sr (Az (J 2) Z (V (Rt (⟨Zr,Ot (J 2) Z (⟨(by (symm;congr 1;rw [Dm,aT ‹_›];done)),l⟩)⟩))))
 ·refine Sk (S2 (Fz A0 Z (Fz Ej Z (Lz csv Z (Rd.one He s Z) (I Z (AZ LO B Z (Mz (J 0) Z (V (Bk (Aq (λC σ' c h'=>∃(k:Nat),C=cs.length-k/\(k<=cs.length)/\(∀j,j<k->HW d gs cs j=0)/\c=[]/\L.Le N h'/\σ' 1=Pt r/\σ' 12=csv/\σ' 13=J (cs.length:Int)/\σ' 14=J k) ⟨0,Z,Y,aK,Z,Lr,Z,Z,Z,Z⟩ (λC _ _ _ P=>?_)))))))))));obtain ⟨k,rfl,hk,e,Q,f,n,t,u,q⟩:=P;subst Q;refine Sr (I Z (Aw q u (V (Sq (AR Z (λR=>?_) (λR=>?_))))))
  ·refine Sk (Sq (Bk (Sq (Rg ?_))));have S:(0:Int)<=(k:Int):=Y
   have T:(k:Int)<((cs.length:Nat):Int):=Y
   refine I Z (Ag OU hcs t q S T λU X a7=>have a8:AX _ U X 4 (BI (cs.getD k AP.z)):=AX.getD AP.z a7;have w:=l.trans f;Lz _ Z (AI IE (a8.le w)) (have D:=f.keep s Z;I Z (AV Il λbo _ x y a9 _=>have ba:r≠bo:=CR D x;I Z (So (.agg (Qo cs k)) (Qo cs k) IE Z a9 Z aD Z λ_ E A=>V (Bk (Sr (have F:=(A _ ba).trans (y.keep D Z);Ld _ Z n (AI CL (Bx F Z)) (Fz Mj Z (Lz (J ((cs.getD k AP.z).good)) Z (Rd.one AF E Z) (have g:=(w.trans y).upd (Ln w x) A;I Z (AS func39 IB Z Z ((GQ d m gs gsv ms msv cs csv ((cs.getD k AP.z).good) (hgs.le g) (hms.le g) (hcs.le g) ).mono λ_ bp bb=>?_))))))))))));obtain ⟨rfl,i⟩:=bb;refine I Z (A8 Z (Az (.bool (decide (¬(0<=((cs.getD k AP.z).good)/\((cs.getD k AP.z).good)<=(gs.length:Int)-1)))) Z (V (AR Z (λH=>?_) (λH=>?_)))))
   ·exact Sr (Az (J 6) Z (V (Rt (⟨Zr,Ot (J 6) Z (⟨(by (symm;congr 1;rw [Dm,aS ‹_›];exact CP (k:=k) e Y (by unfold HW;(simp only [*,not_true_eq_false,not_false_eq_true,if_true,if_false,true_or,or_true,reduceCtorEq,Bool.false_eq_true];done)) aC)),(g.trans i)⟩)⟩))))
   ·have hc52_:=Dn H;refine BV (λσ' c h'=>c=[]/\L.Le bp h'/\σ' 1=Pt r/\σ' 12=csv/\σ' 13=J (cs.length:Int)/\σ' 14=J k/\σ' 24=.bool (decide ((¬(0<=((cs.getD k AP.z).day)/\((cs.getD k AP.z).day)<=d))\/(¬((0<=((cs.getD k AP.z).low)/\((cs.getD k AP.z).low)<=((cs.getD k AP.z).high))/\((cs.getD k AP.z).high)<=999))))) ?_ ?_
    ·refine Rg (Fz Mk Z (have K:=i.keep E Z;Lz (J ((cs.getD k AP.z).day)) Z (Rd.one AF K Z) (Fa A0 Z n (Fz C1 Z (Lz (J d) Z (Rd.one AF (i.keep F Z) Z) (I Z (Aa func41 B9 Z Z Z ((BZ ((cs.getD k AP.z).day) 0 d ).mono λ_ _ bc=>?_))))))));obtain ⟨rfl,rfl⟩:=bc;refine I Z (A8 Z (Mz (.bool (decide (¬(0<=((cs.getD k AP.z).day)/\((cs.getD k AP.z).day)<=d)))) Z (Ae (p:=¬(0<=((cs.getD k AP.z).day)/\((cs.getD k AP.z).day)<=d)) ?_ ?_)))
     ·intro a;exact Gs 7 32 (AA Z a) Z (Gs 7 32 (AA Z a) Z (Gs 7 32 (AA Z a) Z (Gs 7 32 (AA Z a) Z (Pk true (.bool true) Z (AA Z a) Z (Az (.bool true) Z (V (⟨Z,Lr,n,t,u,q,Et (b:=(.bool true:aU)) Z (congrArg Value.bool (by grind:true=(decide ((¬(0<=((cs.getD k AP.z).day)/\((cs.getD k AP.z).day)<=d))\/(¬((0<=((cs.getD k AP.z).low)/\((cs.getD k AP.z).low)<=((cs.getD k AP.z).high))/\((cs.getD k AP.z).high)<=999))))))⟩)))))))
     ·intro a;refine Gg 7 32 (AB Z a) Z (AD JN Z (Gg 7 32 (AB Z a) Z (Lo (.agg #[J ((cs.getD k AP.z).low),J ((cs.getD k AP.z).high)]) Z (Dl (o:=2) (ws:=#[J ((cs.getD k AP.z).low),J ((cs.getD k AP.z).high)]) BG (Bx K Z) (Nb Z) Z) (Gg 7 32 (AB Z a) Z (Aa func198 OS Z Z Z ((Og ((cs.getD k AP.z).low) ((cs.getD k AP.z).high) 0 999 ).mono λ_ _ bd=>?_))))));obtain ⟨rfl,ar⟩:=bd;exact Gg 7 32 (AB Z a) Z (A8 Z (Pk false (.bool (decide (¬((0<=((cs.getD k AP.z).low)/\((cs.getD k AP.z).low)<=((cs.getD k AP.z).high))/\((cs.getD k AP.z).high)<=999)))) Z (AB Z a) Z (Az (.bool (decide (¬((0<=((cs.getD k AP.z).low)/\((cs.getD k AP.z).low)<=((cs.getD k AP.z).high))/\((cs.getD k AP.z).high)<=999)))) Z (V (⟨Z,ar,n,t,u,q,Et (b:=(.bool (decide (¬((0<=((cs.getD k AP.z).low)/\((cs.getD k AP.z).low)<=((cs.getD k AP.z).high))/\((cs.getD k AP.z).high)<=999))):aU)) Z (congrArg Value.bool (by grind:decide (¬((0<=((cs.getD k AP.z).low)/\((cs.getD k AP.z).low)<=((cs.getD k AP.z).high))/\((cs.getD k AP.z).high)<=999))=(decide ((¬(0<=((cs.getD k AP.z).day)/\((cs.getD k AP.z).day)<=d))\/(¬((0<=((cs.getD k AP.z).low)/\((cs.getD k AP.z).low)<=((cs.getD k AP.z).high))/\((cs.getD k AP.z).high)<=999))))))⟩)))))
    ·rintro _ _ _ ⟨be,M,bf,bg,bh,bi,bj⟩;subst be;refine AR bj (λbk=>?_) (λbk=>?_)
     ·exact Sr (Az (J 1) Z (V (Rt (⟨Zr,Ot (J 1) Z (⟨(by (symm;congr 1;rw [Dm,aS ‹_›];exact CP (k:=k) e Y (by unfold HW;(clear e;simp_all;done)) aC)),((g.trans i).trans M)⟩)⟩))))
     ·exact Sk (Rg (Ad _ _ Z bi Z Y (Mz (J ((k:Int)+1)) Z (V (have bl:=(((f.trans y).upd (Ln f x) A).trans i).trans M;⟨_,Y,k+1,Z,Y,(by exact FQ e (by unfold HW;(clear e;simp_all;done))),Z,bl,bf,bg,bh,Z⟩)))))
  ·exact Xt (Sr (Az (J 0) Z (V (Rt (⟨Zr,Ot (J 0) Z (⟨(by (symm;congr 1;rw [Dm,aS ‹_›];exact Db (k:=k) e Y)),(l.trans f)⟩)⟩)))))
theorem T3(s:aW)(hsz:s.size<=1000):AU W 194 #[.string s] h (λv h'=>v=(.bool (GT s):aU)/\h.Le h'):=by
 have x:=DQ s;refine Ct func194 Z (Sr (Az (.bool false) Z (V (S2 (Mz (.string s) Z (I Z (Zz Tv Z Y λq y t u=>I Z (AZ fx_sl287 u Z (Mz (J 0) Z (V (Bk (Aq (λw σ' e h'=>∃(k:Nat),w=(bytesOf s).length-k/\(k<=(bytesOf s).length)/\(∀j,j<k->KC s j=0)/\e=[]/\L.Le y h'/\σ' 0=.string s/\σ' 6=q/\σ' 7=J ((bytesOf s).length:Int)/\σ' 8=J k) ⟨0,Z,Y,aK,Z,Lr,Z,Z,Z,Z⟩ (λw _ _ z A=>?_)))))))))))));obtain ⟨k,rfl,hk,o,B,g,i,l,n,f⟩:=A;subst B;have C:=O2 s k;refine Sr (I Z (Aw f n (V (Sq (AR Z (λD=>?_) (λD=>?_))))))
 ·refine Sk (Sq (Bk (Sr (Mv (J k) Z f ?_))));have E:(0:Int)<=(k:Int):=Y
  have F:(k:Int)<(((bytesOf s).length:Nat):Int):=Y
  refine I Z (Ag Y5 u l f E F λH K M=>have N:AX _ H K 1 (eB ((bytesOf s).getD k 0)):=AX.getD 0 M;Lz (.int .u8 ((bytesOf s).getD k 0)) Z (Br fx_ty5 (N.le g) Z) (Az (J k) Z (Az (.int .u8 ((bytesOf s).getD k 0)) Z (V (BV (λσ' e h'=>e=[]/\z=h'/\σ' 0=.string s/\σ' 6=q/\σ' 7=J ((bytesOf s).length:Int)/\σ' 8=J k/\σ' 26=.bool (decide ((¬(97<=((bytesOf s).getD k 0)/\((bytesOf s).getD k 0)<=122))/\(((k:Int)=0)\/(¬(48<=((bytesOf s).getD k 0)/\((bytesOf s).getD k 0)<=57)))))) ?_ ?_)))))
  ·refine Rg (Mz (.int .u8 ((bytesOf s).getD k 0)) Z (I Z (Bm (r:=(bytesOf s).getD k 0) GD EQ Z (by rw [IntWalk.i64_in _ Y]) (I Z (Aa func41 B9 Z Z Z ((BZ ((bytesOf s).getD k 0) 97 122 ).mono λ_ _ O=>?_))))));obtain ⟨rfl,rfl⟩:=O;refine I Z (A8 Z (Mz (.bool (decide (¬(97<=((bytesOf s).getD k 0)/\((bytesOf s).getD k 0)<=122)))) Z (Ae (p:=¬(97<=((bytesOf s).getD k 0)/\((bytesOf s).getD k 0)<=122)) ?_ ?_)))
   ·intro a;refine Gg 4 17 (AA Z a) Z (Mo (J k) Z (Gg 4 17 (AA Z a) Z (A7 Z Z (Gg 4 17 (AA Z a) Z (Mo (.bool (decide ((k:Int)=0))) Z (Ae (p:=(k:Int)=0) ?_ ?_))))))
    ·intro c;exact Gs 7 20 (AA Z c) Z (Gs 7 20 (AA Z c) Z (Gs 7 20 (AA Z c) Z (Gs 7 20 (AA Z c) Z (Gg 4 17 (AA Z a) Z (Ax (v:=.bool true) (AA Z c) Z (Pk true (.bool true) Z (AA Z a) Z (V (⟨Z,Z,i,l,n,f,Et (b:=(.bool true:aU)) Z (congrArg Value.bool (by grind:true=(decide ((¬(97<=((bytesOf s).getD k 0)/\((bytesOf s).getD k 0)<=122))/\(((k:Int)=0)\/(¬(48<=((bytesOf s).getD k 0)/\((bytesOf s).getD k 0)<=57)))))))⟩))))))))
    ·intro c;refine Gg 7 20 (AB Z c) Z (Mo (.int .u8 ((bytesOf s).getD k 0)) Z (Gg 7 20 (AB Z c) Z (Bm (r:=(bytesOf s).getD k 0) GD EQ Z (by rw [IntWalk.i64_in _ Y]) (Gg 7 20 (AB Z c) Z (Aa func41 B9 Z Z Z ((BZ ((bytesOf s).getD k 0) 48 57 ).mono λ_ _ P=>?_))))));obtain ⟨rfl,rfl⟩:=P;exact Gg 7 20 (AB Z c) Z (A8 Z (Gg 4 17 (AA Z a) Z (Ax (v:=.bool (decide (¬(48<=((bytesOf s).getD k 0)/\((bytesOf s).getD k 0)<=57)))) (AB Z c) Z (Pk true (.bool (decide (¬(48<=((bytesOf s).getD k 0)/\((bytesOf s).getD k 0)<=57)))) Z (AA Z a) Z (V (⟨Z,Z,i,l,n,f,Et (b:=(.bool (decide (¬(48<=((bytesOf s).getD k 0)/\((bytesOf s).getD k 0)<=57))):aU)) Z (congrArg Value.bool (by grind:decide (¬(48<=((bytesOf s).getD k 0)/\((bytesOf s).getD k 0)<=57))=(decide ((¬(97<=((bytesOf s).getD k 0)/\((bytesOf s).getD k 0)<=122))/\(((k:Int)=0)\/(¬(48<=((bytesOf s).getD k 0)/\((bytesOf s).getD k 0)<=57)))))))⟩))))))
   ·intro a;exact Gs 4 17 (AB Z a) Z (Gs 4 17 (AB Z a) Z (Gs 4 17 (AB Z a) Z (AM (j:=7) (d:=20) Z Z Z Z Z Z (AM (j:=7) (d:=20) Z Z Z Z Z Z (AM (j:=7) (d:=20) Z Z Z Z Z Z (AM (j:=7) (d:=20) Z Z Z Z Z Z (Gs 4 17 (AB Z a) Z (Pk false (.bool false) Z (AB Z a) Z (V (⟨Z,Z,i,l,n,f,Et (b:=(.bool false:aU)) Z (congrArg Value.bool (by grind:false=(decide ((¬(97<=((bytesOf s).getD k 0)/\((bytesOf s).getD k 0)<=122))/\(((k:Int)=0)\/(¬(48<=((bytesOf s).getD k 0)/\((bytesOf s).getD k 0)<=57)))))))⟩))))))))))
  ·rintro _ _ _ ⟨Q,R,S,T,U,X,ay⟩;subst Q;subst R;refine AR ay (λaz=>?_) (λaz=>?_)
   ·exact Sr (Az (.bool false) Z (V (Rt (⟨Zr,Ot (.bool false) Z (⟨(by (symm;congr 1;exact Ul o Y (by unfold KC;simp only [Kq,M6, *,not_true_eq_false,not_false_eq_true,if_true,if_false,or_self,or_true,true_or,and_self,and_true,true_and];simp_all;done))),(t.trans g)⟩)⟩))))
   ·exact Sk (Rg (Ad _ _ Z X Z Y (Mz (J ((k:Int)+1)) Z (V (⟨_,Y,k+1,Z,Y,(by exact FQ o (by unfold KC;simp only [Kq,M6];simp_all;done)),Z,g,S,T,U,Z⟩)))))
 ·refine Xt (Sr (Mv (.string s) Z i (I Z (ok_lenS GC Z (I Z (Aa func41 B9 Z Z Z ((BZ (s.size:Int) 1 10 ).mono λ_ _ a0=>?_)))))));obtain ⟨rfl,rfl⟩:=a0;exact Az (.bool (decide (1<=(s.size:Int)/\(s.size:Int)<=10))) Z (V (Rt (⟨Zr,Ot (.bool (decide (1<=(s.size:Int)/\(s.size:Int)<=10))) Z (⟨(by (symm;congr 1;exact Um o Y)),(t.trans g)⟩)⟩)))
theorem T4(o:Good)(x:Good)(rx:Nat)(hrx:AX h rx 0 5 #[.string x.name,J x.cost,J x.pack,J x.low,J x.high]):AU W 196 #[.agg #[.string o.name,J o.cost,J o.pack,J o.low,J o.high],Pt rx] h (λv h'=>v=(.bool ((o.name).toList==(x.name).toList):aU)/\h.Le h'):=by
 exact Ct func196 Z (Sr (I Z (Bo #[.string o.name,J o.cost,J o.pack,J o.low,J o.high] Z Z λ_ _ _ a b _=>Az (.bool false) Z (V (Sr (Fz KT Z (Lz (.string o.name) Z (Rd.one WI b Z) (Fz KT Z (Lz (.string x.name) Z (CB (o:=0) WI (hrx.le a) Z) (I Z (ok_eqlS Z Z (Az (.bool ((o.name).toList==(x.name).toList)) Z (V (Rt (⟨Zr,Ot (.bool ((o.name).toList==(x.name).toList)) Z (⟨Z,a⟩)⟩)))))))))))))))
theorem WR(hgs:AJ h gsv 5 Bw gs)(hms:AJ h msv 5 Bf ms)(hcs:AJ h csv 4 BI cs)(hnm:∀k,(gs.getD k Good.z).name.size<=1000):AU W 191 #[.agg #[J d,J m,gsv,msv,csv]] h (λv h'=>v=(J (Dz gs):aU)/\h.Le h'):=by
 have a2:=hgs.len;have a3:=hms.len;have a4:=hcs.len;refine Ct func191 Z (Sr (I Z (Bo #[J d,J m,gsv,msv,csv] Z Z λD h5 _ q E _=>Az (J 0) Z (V (S2 (Fz A0 Z (Fz Cn Z (Lz gsv Z (Rd.one Ec E Z) (have N:=hgs.le q;I Z (AZ FC N Z (I Z (Aa func41 B9 Z Z Z ((BZ (gs.length:Int) 1 3 ).mono λ_ _ a6=>?_)))))))))))));obtain ⟨rfl,rfl⟩:=a6;refine I Z (A8 Z (V (AR Z (λO=>?_) (λO=>?_))))
 ·exact Sr (Az (J 2) Z (V (Rt (⟨Zr,Ot (J 2) Z (⟨(by (symm;congr 1;rw [Dz,aT ‹_›];done)),q⟩)⟩))))
 ·have hc16_:=Dn O;refine Sk (S2 (Fz A0 Z (Fz Cn Z (Lz gsv Z (Rd.one Ec E Z) (I Z (AZ FC N Z (Mz (J 0) Z (V (Bk (Aq (λP σ' e h'=>∃(k:Nat),P=gs.length-k/\(k<=gs.length)/\(∀j,j<k->IT gs j=0)/\e=[]/\L.Le h5 h'/\σ' 1=Pt D/\σ' 13=gsv/\σ' 14=J (gs.length:Int)/\σ' 15=J k) ⟨0,Z,Y,aK,Z,Lr,Z,Z,Z,Z⟩ (λP _ _ _ a7=>?_)))))))))));obtain ⟨k,rfl,hk,i,bx,l,r,s,t,f⟩:=a7;subst bx;have hnk:=hnm k;refine Sr (I Z (Aw f t (V (Sq (AR Z (λa8=>?_) (λa8=>?_))))))
  ·refine Sk (Sq (Bk (Sr (Mv (J k) Z f ?_))));have a9:(0:Int)<=(k:Int):=Y
   have ba:(k:Int)<((gs.length:Nat):Int):=Y
   refine I Z (Ag HD hgs s f a9 ba λbz au bb=>have bc:AX _ bz au 5 (Bw (gs.getD k Good.z)):=AX.getD Good.z bb;have n:=q.trans l;Lz _ Z (AI Gj (bc.le n)) (have Q:=l.keep E Z;I Z (AV F6 λu _ w y bd _=>have be:D≠u:=CR Q w;Az (J k) Z (I Z (So (.agg (Qj gs k)) (Qj gs k) Gj Z bd Z aD Z λ_ F A=>V (Bk (Sr (Fz KT Z (Lz (.string ((gs.getD k Good.z).name)) Z (Rd.one WI F Z) (I Z (Ao func194 WD Z ((T3 ((gs.getD k Good.z).name) Y).mono λ_ R bf=>?_))))))))))));obtain ⟨rfl,g⟩:=bf;refine I Z (Cc Z (Az (.bool (!(GT ((gs.getD k Good.z).name)))) Z (V (C5 Z (λH=>?_) (λH=>?_)))))
   ·have hc51_:(GT ((gs.getD k Good.z).name))=false:=by simpa using H
    exact Sr (Az (J 4) Z (V (Rt (⟨Zr,Ot (J 4) Z (⟨(by (symm;congr 1;rw [Dz,aS ‹_›];exact CP (k:=k) i Y (by unfold IT;(simp only [*,not_true_eq_false,not_false_eq_true,if_true,if_false,true_or,or_true,reduceCtorEq,Bool.false_eq_true];done)) aC)),(((n.trans y).upd (Ln n w) A).trans g)⟩)⟩))))
   ·have hc51_:(GT ((gs.getD k Good.z).name))=true:=by simpa using H
    refine Sr (Fa A0 Z r (Fz Cn Z (Lz gsv Z (Rd.one Ec (g.keep ((A _ be).trans (y.keep Q Z)) Z) Z) (Mz (J k) Z (have K:=((n.trans y).upd (Ln n w) A).trans g;I Z (Zx (0) k HD (hgs.le K) Z Z (⟨_,Z⟩) Y Y λS bg=>?_))))));have bh:AJ R S 5 Bw (gs.take k):=by simpa using bg
    refine I Z (GY Z ?_);have bi:∀x ∈ (gs.take k),∀B,L.Le R B->CT W (.func (.func 196) #[] #[Pt u]) #[.agg #[.string x.name,J x.cost,J x.pack,J x.low,J x.high]] B λv T=>v=.bool ((λx=>(x.name).toList==((gs.getD k Good.z).name).toList) x)/\B.Le T:=by
     intro x hx B l1;exact Bs func196 WF Z ((T4 x (gs.getD k Good.z) u (Bx (l1.keep (g.keep F Z) Z) Z) ).mono λv T U=>⟨U.1,U.2⟩)
    refine I Z (AS func195 WE Z Z ((LU (gs.take k) S (.func (.func 196) #[] #[Pt u]) (λx=>(x.name).toList==((gs.getD k Good.z).name).toList) bh bi).mono λ_ b0 bj=>?_));obtain ⟨rfl,C⟩:=bj;refine Az (.bool ((gs.take k).any (λx=>(x.name).toList==((gs.getD k Good.z).name).toList))) Z (V (C5 Z (λbk=>?_) (λbk=>?_)))
    ·exact Sr (Az (J 5) Z (V (Rt (⟨Zr,Ot (J 5) Z (⟨(by (symm;congr 1;rw [Dz,aS ‹_›];exact CP (k:=k) i Y (by unfold IT;(simp only [*,not_true_eq_false,not_false_eq_true,if_true,if_false,true_or,or_true,reduceCtorEq,Bool.false_eq_true];done)) aC)),(K.trans C)⟩)⟩))))
    ·refine BV (λσ' e h'=>e=[]/\L.Le b0 h'/\σ' 1=Pt D/\σ' 13=gsv/\σ' 14=J (gs.length:Int)/\σ' 15=J k/\σ' 33=.bool (Q7 gs k)) ?_ ?_
     ·refine Rg (Fz KU Z (have M:=C.keep (g.keep F Z) Z;Lz (J (Q1j gs k)) Z (Rd.one AF M Z) (I Z (Aa func41 B9 Z Z Z ((BZ (Q1j gs k) 0 999 ).mono λ_ _ bl=>?_)))));obtain ⟨rfl,rfl⟩:=bl;refine I Z (A8 Z (Mz (.bool (decide (¬(0<=(Q1j gs k)/\(Q1j gs k)<=999)))) Z (Ae (p:=¬(0<=(Q1j gs k)/\(Q1j gs k)<=999)) ?_ ?_)))
      ·intro a;exact Gs 4 38 (AA Z a) Z (Gs 4 38 (AA Z a) Z (Gs 4 38 (AA Z a) Z (Gs 4 38 (AA Z a) Z (Pk true (.bool true) Z (AA Z a) Z (Mz (.bool true) Z (Gs 10 44 Z Z (Gs 10 44 Z Z (Gs 10 44 Z Z (Gs 10 44 Z Z (Pz true (.bool true) Z (Az (.bool true) Z (V (⟨Z,Lr,r,s,t,f,Et (b:=(.bool true:aU)) Z (congrArg Value.bool (by grind:true=(Q7 gs k)))⟩)))))))))))))
      ·intro a;refine Gg 4 38 (AB Z a) Z (AD If Z (Gg 4 38 (AB Z a) Z (Lo (J (Q18 gs k)) Z (Rd.one AF M Z) (Gg 4 38 (AB Z a) Z (Aa func41 B9 Z Z Z ((BZ (Q18 gs k) 1 20 ).mono λ_ _ bm=>?_))))));obtain ⟨rfl,rfl⟩:=bm;refine Gg 4 38 (AB Z a) Z (A8 Z (Pk false (.bool (decide (¬(1<=(Q18 gs k)/\(Q18 gs k)<=20)))) Z (AB Z a) Z (Mz (.bool (decide (¬(1<=(Q18 gs k)/\(Q18 gs k)<=20)))) Z (Ae (p:=¬(1<=(Q18 gs k)/\(Q18 gs k)<=20)) ?_ ?_))))
       ·intro c;exact Gs 10 44 (AA Z c) Z (Gs 10 44 (AA Z c) Z (Gs 10 44 (AA Z c) Z (Gs 10 44 (AA Z c) Z (Pk true (.bool true) Z (AA Z c) Z (Az (.bool true) Z (V (⟨Z,Lr,r,s,t,f,Et (b:=(.bool true:aU)) Z (congrArg Value.bool (by grind:true=(Q7 gs k)))⟩)))))))
       ·intro c;refine Gg 10 44 (AB Z c) Z (AD KV Z (Gg 10 44 (AB Z c) Z (Lo (.agg #[J ((gs.getD k Good.z).low),J ((gs.getD k Good.z).high)]) Z (Dl (o:=3) (ws:=#[J ((gs.getD k Good.z).low),J ((gs.getD k Good.z).high)]) BG (Bx M Z) (Nb Z) Z) (Gg 10 44 (AB Z c) Z (Ao func197 OR Z ((T0 ((gs.getD k Good.z).low) ((gs.getD k Good.z).high) ).mono λ_ _ bn=>?_))))));obtain ⟨rfl,ax⟩:=bn;exact Gg 10 44 (AB Z c) Z (A8 Z (Pk false (.bool (decide (¬(Qw gs k)))) Z (AB Z c) Z (Az (.bool (decide (¬(Qw gs k)))) Z (V (⟨Z,ax,r,s,t,f,Et (b:=(.bool (decide (¬(Qw gs k))):aU)) Z (congrArg Value.bool (by grind:decide (¬(Qw gs k))=(Q7 gs k)))⟩)))))
     ·rintro _ _ _ ⟨bo,X,bp,bq,br,bs,bt⟩;subst bo;refine AR bt (λbu=>?_) (λbu=>?_)
      ·exact Sr (Az (J 1) Z (V (Rt (⟨Zr,Ot (J 1) Z (⟨(by (symm;congr 1;rw [Dz,aS ‹_›];exact CP (k:=k) i Y (by unfold IT;(simp only [*,not_true_eq_false,not_false_eq_true,if_true,if_false,true_or,or_true,reduceCtorEq,Bool.false_eq_true];done)) aC)),((K.trans C).trans X)⟩)⟩))))
      ·exact Sk (Rg (Ad _ _ Z bs Z Y (Mz (J ((k:Int)+1)) Z (V (have bv:=((((l.trans y).upd (Ln l w) A).trans g).trans C).trans X;⟨_,Y,k+1,Z,Y,(by exact FQ i (by unfold IT;(simp only [*,not_true_eq_false,not_false_eq_true,if_true,if_false,or_self,reduceCtorEq,Bool.false_eq_true];done))),Z,bv,bp,bq,br,Z⟩)))))
  ·exact Xt (Sr (Az (J 0) Z (V (Rt (⟨Zr,Ot (J 0) Z (⟨(by (symm;congr 1;rw [Dz,aS ‹_›];exact Db (k:=k) i Y)),(q.trans l)⟩)⟩)))))
def Rw:Array aU:=#[.func (.func 190) #[] #[],.func (.func 191) #[] #[],.func (.func 192) #[] #[],.func (.func 193) #[] #[]]
def Rx:Array aU:=#[.string ⟨#[99,97,109,101]⟩,.func (.func 188) #[] #[],.string ⟨#[115,111,108,100]⟩,.func (.func 189) #[] #[],.string ⟨#[108,111,115,116]⟩,.func (.func 189) #[] #[],.string ⟨#[103,105,118,101,110]⟩,.func (.func 189) #[] #[],.string ⟨#[98,97,99,107]⟩,.func (.func 188) #[] #[]]
def Di(h:L):Prop:=AX h 2 0 4 Rw/\AX h 1 0 10 Rx
variable {W:Wk prog} {h:L} (d m:Int) (gs:List Good) (gsv:aU) (ms:List AG) (msv:aU) (cs:List AP) (csv:aU)
theorem Di.le{h h':L}(g:Di h)(l:h.Le h'):Di h':=⟨g.1.le l,g.2.le l⟩
def NG(k:Nat):aU:=Rw.getD k undef
def WS(k:Nat):aU:=Rx.getD (k*2+1) undef
theorem WT{k:Nat}(h:k<4):(if false=true then some (Value.agg ((#[.func (.func 190) #[] #[],.func (.func 191) #[] #[],.func (.func 192) #[] #[],.func (.func 193) #[] #[]]:Array aU).extract (k*1) (k*1+1))) else (#[.func (.func 190) #[] #[],.func (.func 191) #[] #[],.func (.func 192) #[] #[],.func (.func 193) #[] #[]]:Array aU)[k*1]?)=some (NG k):=by
 match k,h with
 | 0,_=>rfl
 | 1,_=>rfl
 | 2,_=>rfl
 | 3,_=>rfl
theorem ZH{k:Nat}(h:k<5):Rx[0+k*2+1]? =some (WS k):=by
 match k,h with
 | 0,_=>rfl
 | 1,_=>rfl
 | 2,_=>rfl
 | 3,_=>rfl
 | 4,_=>rfl
theorem R0(d m:Int)(gs:List Good)(gsv:aU)(ms:List AG)(msv:aU)(cs:List AP)(csv:aU)(hgs:AJ h gsv 5 Bw gs)(hms:AJ h msv 5 Bf ms)(hcs:AJ h csv 4 BI cs)(hnm:∀k,(gs.getD k Good.z).name.size<=1000){k:Nat}(hk:k<4) :
  CT W (NG k) #[.agg #[J d,J m,gsv,msv,csv]] h λv h'=>v=J (Er d m gs ms cs k)/\h.Le h':=by
 match k,hk with
 | 0,_=>exact Bs (first:=#[]) (cap:=#[]) func190 V9 rfl (ZG (W:=W) (h:=h) d m gs gsv ms msv cs csv hgs hms hcs)
 | 1,_=>exact Bs (first:=#[]) (cap:=#[]) func191 WA rfl (WR (W:=W) (h:=h) d m gs gsv ms msv cs csv hgs hms hcs hnm)
 | 2,_=>exact Bs (first:=#[]) (cap:=#[]) func192 WB rfl (WQ (W:=W) (h:=h) d m gs gsv ms msv cs csv hgs hms hcs)
 | 3,_=>exact Bs (first:=#[]) (cap:=#[]) func193 WC rfl (T1 (W:=W) (h:=h) d m gs gsv ms msv cs csv hgs hms hcs)
theorem QM(n:Int):AU W 188 #[J n] h (λv h'=>v=(J n:aU)/\h=h'):=by
 exact Ct func188 Z (Sr (Az (J 0) Z (V (Sr (Mz (J n) Z (Az (J n) Z (V (Rt (⟨Zr,Ot (J n) Z (⟨Z,Z⟩)⟩)))))))))
theorem MD(n:Int)(hn:0<=n/\n<=99):AU W 189 #[J n] h (λv h'=>v=(J (-n):aU)/\h=h'):=by
 exact Ct func189 Z (Sr (Az (J 0) Z (V (Sr (Mz (J n) Z (I Z (ok_neg Z Y (Az (J (-n)) Z (V (Rt (⟨Zr,Ot (J (-n)) Z (⟨Z,Z⟩)⟩)))))))))))
theorem D4(hgs:AJ h gsv 5 Bw gs)(hms:AJ h msv 5 Bf ms)(hcs:AJ h csv 4 BI cs)(hG:Di h)(hnm:∀k,(gs.getD k Good.z).name.size<=1000):AU W 68 #[.agg #[J d,J m,gsv,msv,csv]] h (λv h'=>v=(J (Au d m gs ms cs):aU)/\h.Le h'):=by
 have B:=hgs.len;have C:=hms.len;have D:=hcs.len;refine Ct func68 Z (Sr (I Z (Bo #[J d,J m,gsv,msv,csv] Z Z λp q _ c r _=>Az (J 0) Z (V (S2 (Lz _ Z (AI fx_ty203 (hG.le c).1) (Mz (J 0) Z (V (Bk (Aq (λi σ' e h'=>∃(k:Nat),i=4-k/\(k<=4)/\(∀j,j<k->Er d m gs ms cs j=0)/\e=[]/\L.Le q h'/\σ' 1=Pt p/\σ' 6=.agg #[.func (.func 190) #[] #[],.func (.func 191) #[] #[],.func (.func 192) #[] #[],.func (.func 193) #[] #[]]/\σ' 7=J k) ⟨0,Z,Y,aK,Z,Lr,Z,Z,Z⟩ (λi _ _ _ s=>?_)))))))))));obtain ⟨k,rfl,E,f,t,a,l,n,g⟩:=s;subst t;refine Sr (I Z (Aw g Z (V (Sq (AR Z (λu=>?_) (λu=>?_))))))
 ·refine Sk (Sq (Bk (Sq (Rg ?_))));have w:(0:Int)<=(k:Int):=Y
  have x:(k:Int)<((4:Nat):Int):=Y
  refine I Z (Lf YO n g w x (WT Y) (Az (NG k) Z (V (Sr (Mz (NG k) Z (Ld _ Z l (AI BH (Bx (a.keep r Z) Z)) (I Z (Av (cells:=#[J d,J m,gsv,msv,csv]) Ea CH aB (have b:=c.trans a;I Z (GG Z Z ((R0 d m gs gsv ms msv cs csv (hgs.le b) (hms.le b) (hcs.le b) hnm (k:=k) Y).mono λ_ _ y=>?_)))))))))));obtain ⟨rfl,o⟩:=y;refine Az (J (Er d m gs ms cs k)) Z (V (Sr (Mz (J (Er d m gs ms cs k)) Z (I Z (Ar Z Z (V (AR Z (λA=>?_) (λA=>?_))))))))
  ·exact Sr (Mz (J (Er d m gs ms cs k)) Z (Az (J (Er d m gs ms cs k)) Z (V (Rt (⟨Zr,Ot (J (Er d m gs ms cs k)) Z (⟨(by (symm;congr 1;exact CP (k:=k) f Y Z ‹_›)),(b.trans o)⟩)⟩)))))
  ·exact Sk (Rg (Ad _ _ Z g Z Y (Mz (J ((k:Int)+1)) Z (V (⟨_,Y,k+1,Z,Y,(by exact FQ f (Dn ‹_›)),Z,(a.trans o),l,n,Z⟩)))))
 ·exact Xt (Sr (Az (J 0) Z (V (Rt (⟨Zr,Ot (J 0) Z (⟨(by (symm;congr 1;exact Db (k:=k) f Y)),(c.trans a)⟩)⟩)))))
theorem T5(n:Int)(hn:0<=n/\n<=99){k:Nat}(hk:k<5):CT W (WS k) #[J n] h λv h'=>v=J (signed k n)/\h.Le h':=by
 match k,hk with
 | 0,_=>exact Bs (first:=#[]) (cap:=#[]) func188 OQ rfl ((QM (W:=W) (h:=h) n).mono λv h' a=>⟨a.1,by rw [<-a.2];exact L.Le.refl _⟩)
 | 1,_=>exact Bs (first:=#[]) (cap:=#[]) func189 KQ rfl ((MD (W:=W) (h:=h) n hn).mono λv h' a=>⟨a.1,by rw [<-a.2];exact L.Le.refl _⟩)
 | 2,_=>exact Bs (first:=#[]) (cap:=#[]) func189 KQ rfl ((MD (W:=W) (h:=h) n hn).mono λv h' a=>⟨a.1,by rw [<-a.2];exact L.Le.refl _⟩)
 | 3,_=>exact Bs (first:=#[]) (cap:=#[]) func189 KQ rfl ((MD (W:=W) (h:=h) n hn).mono λv h' a=>⟨a.1,by rw [<-a.2];exact L.Le.refl _⟩)
 | 4,_=>exact Bs (first:=#[]) (cap:=#[]) func188 OQ rfl ((QM (W:=W) (h:=h) n).mono λv h' a=>⟨a.1,by rw [<-a.2];exact L.Le.refl _⟩)
theorem Im(p:AW)(g:Int)(dy:Int)(hgs:AJ h gsv 5 Bw gs)(hms:AJ h msv 5 Bf ms)(hcs:AJ h csv 4 BI cs)(hG:Di h)(hg0:0<=g)(hg1:g<3)(hp:Bn p)(hml:ms.length<=6)(hkind:∀k,0<=(ms.getD k AG.z).kind/\(ms.getD k AG.z).kind<=4):AU W 67 #[.agg #[J d,J m,gsv,msv,csv],.agg (An p),J g,J dy] h (λv h'=>v=(.tuple #[J ((AQ ms p g dy).1),J ((AQ ms p g dy).2)]:aU)/\h.Le h'):=by
 have hpf:=hp.1 g.toNat;have ez:=hgs.len;have e0:=hms.len;have e1:=hcs.len;refine Ct func67 Z (Sr (I Z (Bo #[J d,J m,gsv,msv,csv] Z Z λw _ _ e2 hu _=>I Z (Bo (An p) Z Z λhl hv _ a2 bs _=>Az (J 0) Z (Az (J 0) Z (V (Sr (Mz (J g) Z (Fz JO Z ?_)))))))));have e3:(0:Int)<=g:=Y
 have e4:g<((3:Nat):Int):=Y
 refine I Z (Bj Lu Z Z e3 e4 (Lz (J (p.first (g.toNat))) Z (Rd.one AF bs (RF (i:=g.toNat) Y)) (Az (J (p.first (g.toNat))) Z (V (Sr (Mz (J (p.first (g.toNat))) Z (Az (J (p.first (g.toNat))) Z (V (S2 (Fz A0 Z (Fz B1 Z (have bt:=a2.keep hu Z;Lz msv Z (Rd.one C3 bt Z) (have a7:=e2.trans a2;I Z (AZ FD (hms.le a7) Z (Mz (J 0) Z (V (Bk (Aq (λnn σ' ds' h'=>∃(k:Nat)(n:Int)(a:Int),nn=ms.length-k/\(k<=ms.length)/\(-99*((k:Int)+1)<=n/\n<=99*((k:Int)+1))/\(Cx ms p g dy (ms.length-k) k n a=Cx ms p g dy ms.length 0 (p.first g.toNat) (p.first g.toNat))/\ds'=[]/\L.Le hv h'/\σ' 2=J g/\σ' 3=J dy/\σ' 4=Pt w/\σ' 5=Pt hl/\σ' 19=msv/\σ' 20=J (ms.length:Int)/\σ' 8=J n/\σ' 9=J a/\σ' 21=J k) ⟨0,p.first g.toNat,p.first g.toNat,Z,Y,Y,(by rfl),Z,Lr,Z,Z,Z,Z,Z,Z,Z,Z,Z⟩ (λnn _ _ _ e5=>?_)))))))))))))))))));obtain ⟨k,n,a,rfl,hk,hn,j,hw,r,N,O,x,P,Q,R,K,M,y⟩:=e5;subst hw;have hkd:=hkind k;have hre:=Ge hp k;have hsg:=Kr (k:=(ms.getD k AG.z).kind.toNat) hre;refine Sr (I Z (Aw y R (V (Sq (AR Z (λe6=>?_) (λe6=>?_))))))
 ·refine Sk (Sq (Bk (Sr (Mv (J k) Z y ?_))));have e7:(0:Int)<=(k:Int):=Y
  have e8:(k:Int)<((ms.length:Nat):Int):=Y
  refine I Z (Ag Fi hms Q y e7 e8 λhx bu e9=>have fa:AX _ hx bu 5 (Bf (ms.getD k AG.z)):=AX.getD AG.z e9;have A:=a7.trans r;Lz _ Z (AI Hf (fa.le A)) (have au:=r.keep bt Z;have bv:=r.keep bs Z;I Z (AV Ev λey _ u s fb _=>have a0:w≠ey:=CR au u;have fc:hl≠ey:=CR bv u;Az (J k) Z (I Z (So (.agg (Qb ms k)) (Qb ms k) Hf Z fb Z aD Z λ_ av t=>V (S2 (Fz EI Z (Lz (J ((ms.getD k AG.z).day)) Z (Rd.one AF av Z) (Mv (J dy) Z O (I Z (Cb Z Z (V (AR Z (λfd=>?_) (λfd=>?_))))))))))))))
  ·exact Xt (Sr (Mv (J n) Z K (Mv (J a) Z M (Az (J n) Z (Az (J a) Z (V (Rt (have fe:=(A.trans s).upd (Ln A u) t;⟨Zr,Ou (J n) (J a) Z (⟨(by (rw [AQ,<-j,O3 (ms:=ms) (k:=k) (dy:=dy) Y ‹_›])),fe⟩)⟩))))))))
  ·refine Sk (S2 (Fz KW Z (Lz (J ((ms.getD k AG.z).good)) Z (Rd.one AF av Z) (Mv (J g) Z N (I Z (A7 Z Z (V (AR Z (λff=>?_) (λff=>?_)))))))))
   ·refine BT 10 false [0,5,11,15,20,26,31,36,42,47] Ah aB (Py Z (λ_=>Mo (J n) K vz) (Py Z (λ_=>AD Ih Z vz) (Rl (J ((ms.getD k AG.z).kind)) Z (Rd.one NF av Z) ?_)));have fg:(0:Int)<=(ms.getD k AG.z).kind:=Y
    have fh:(ms.getD k AG.z).kind<((5:Nat):Int):=Y
    refine Py Z (λ_=>Bj YP Z Z fg fh vz) (Py Z (λ_=>AD Tm Z vz) (have bd:=(A.trans s).upd (Ln A u) t;Rl (WS (((ms.getD k AG.z).kind).toNat)) Z (Un fx_ty108 (hG.le bd).2 (ZH Y)) (Rz Z (Lo (.agg (An p)) P (AI Bl (Bx ((t _ fc).trans (s.keep bv Z)) Z)) vz) (Rm (J k) Z (tE Z Z (AS func72 L3 Z Z ((MC p (k:Int) Y Y).mono λ_ _ fi=>?_)))))));obtain ⟨rfl,B⟩:=fi;refine eT B (tE Z Z (GG Z Z ((T5 (Cd p k) Y (k:=(((ms.getD k AG.z).kind).toNat)) Y).mono λ_ _ fj=>?_)));obtain ⟨rfl,C⟩:=fj;refine eT C (tN (Yd Z Y (Az (J (n+(signed (((ms.getD k AG.z).kind).toNat) (Cd p k)))) Z (V (Sq (NV 18 [[],[0],[],[2],[2,3],[2,3,4],[0,1,2,3,4,5],[0,1,2,3,4,5,6],[0,1,2,3,4,5,6,7],[0,1,2,3,4,5,6,7,8],[0,1,2,3,4,5,6,7,8,9],[0,1,2,3,4,5,6,7],[0,1,2,3,4,5,6,7,11],[0,1,2,3,4,5,6,7,8,9,10,11,12],[0,1,2,3,4,5,6,7,8,9,10,11,12,13],[0,1,2,3,4,5,6,7,8,9,10,11,12,13,14],[0,1,2,3,4,5,6,7],[0,1,2,3,4,5,6,7,16]] [(lF (J k)),(lF (J ((k:Int)+1))),(lF (Pt w)),(lF (.pointer (some ⟨w,3,none⟩))),(lF msv),(lF (J (ms.length:Int))),(lF (.bool (decide (((k:Int)+1)=(ms.length:Int))))),(lF (.bool (decide (((k:Int)+1)=(ms.length:Int))))),(lF (Pt w)),(lF (.pointer (some ⟨w,3,none⟩))),(lF msv),(lF (J k)),(lF (J ((k:Int)+1))),(λv h=>∃(D:Nat)(E:Nat),v=(.pointer (some ⟨D,E,none⟩):aU)/\AX h D E 5 (Q9 ms k)),(λv h=>∃(D:Nat)(E:Nat),v=(.pointer (some ⟨D,E+2,none⟩):aU)/\AX h D E 5 (Q9 ms k)),(lF (J ((ms.getD (k+1) AG.z).day))),(lF (.pointer (some ⟨ey,2,none⟩))),(lF (J ((ms.getD k AG.z).day)))] Ah aB (K8 (K4 (K1 ⟨(λ_ _ _ l ⟨D,E,e,f0⟩=>⟨D,E,e,f0.le l⟩),(λ_ _ _ l ⟨D,E,e,f0⟩=>⟨D,E,e,f0.le l⟩),K2 (K1 trivial)⟩))) ⟨?_,?_,?_,?_,?_,?_,?_,?_,?_,?_,?_,?_,?_,?_,?_,?_,?_,?_,?_⟩))))))
    ·intro _ _ _ fk _ _;exact (Mo (J k) (Et (fk 10 Z) Z) (fL Z))
    ·intro _ _ _ _ fl _;obtain ⟨hy,_⟩:=fl;exact (Ci (hy trivial) Z Y (fL Z))
    ·intro _ _ _ fm _ _;exact (AD A0 (Et (fm 4 Z) x) (fL Z))
    ·intro _ _ _ _ bw _;obtain ⟨fn,_⟩:=bw;exact (AD B1 (fn trivial) (fL Z))
    ·intro _ _ be _ bx _;obtain ⟨_,fo,_⟩:=bx;have bz:=(be.keep (C.keep (B.keep ((t _ a0).trans (s.keep au Z)) Z) Z) Z);exact (Lo msv (fo trivial) (Rd.one C3 bz Z) (fL Z))
    ·intro _ _ bf _ b0 _;obtain ⟨_,_,fp,_⟩:=b0;exact (AZ FD (hms.le (((bd.trans B).trans C).trans bf)) (fp trivial) (fL Z))
    ·intro _ _ _ _ b1 _;obtain ⟨_,fq,_,_,_,fr,_⟩:=b1;exact (A7 (fq trivial) (fr trivial) (fL Z))
    ·intro _ _ _ _ b2 _;obtain ⟨_,_,_,_,_,_,fs,_⟩:=b2;exact (Mo (.bool (decide (((k:Int)+1)=(ms.length:Int)))) (fs trivial) (fL Z))
    ·intro _ _ _ b3 b4 b5;obtain ⟨_,_,_,_,_,_,_,ft,_⟩:=b4;have hm:=DB (ft trivial) b5;exact (AD A0 (Et (b3 4 Z) x) (fL Z))
    ·intro _ _ _ _ b6 b7;obtain ⟨_,_,_,_,_,_,_,fu,fv,_⟩:=b6;have b8:=fu trivial;have b9:=DB b8 b7;exact (AD B1 (fv (AB b8 b9)) (fL Z))
    ·intro _ _ bg _ ca cb;obtain ⟨_,_,_,_,_,_,_,fw,_,fx,_⟩:=ca;have cc:=fw trivial;have cd:=DB cc cb;have ce:=(bg.keep (C.keep (B.keep ((t _ a0).trans (s.keep au Z)) Z) Z) Z);exact (Lo msv (fx (AB cc cd)) (Rd.one C3 ce Z) (fL Z))
    ·intro _ _ _ cf cg ch;obtain ⟨_,_,_,_,_,_,_,fy,_⟩:=cg;have ho:=DB (fy trivial) ch;exact (Mo (J k) (Et (cf 10 Z) Z) (fL Z))
    ·intro _ _ _ _ ci cj;obtain ⟨_,_,_,_,_,_,_,fz,f1,_⟩:=ci;have ck:=fz trivial;have cl:=DB ck cj;exact (Ci (f1 (AB ck cl)) Z Y (fL Z))
    ·intro _ _ bh _ cm cn;obtain ⟨_,_,_,_,_,_,_,f2,_,_,f3,_,f4,_⟩:=cm;have bi:=f2 trivial;have a5:=DB bi cn;have co:(0:Int)<=(k:Int)+1:=Y
     have cp:(k:Int)+1<((ms.length:Nat):Int):=Y
     exact (Ag Fi hms (f3 (AB bi a5)) (f4 (AB bi a5)) co cp λcq aw cr=>have ct:AX _ cq aw 5 (Bf (ms.getD (k+1) AG.z)):=AX.getD AG.z cr;fL ⟨cq,aw,Z,(ct.le (((bd.trans B).trans C).trans bh))⟩)
    ·intro _ _ _ _ cu cv;obtain ⟨_,_,_,_,_,_,_,f5,_,_,_,_,_,f6,_⟩:=cu;have cw:=f5 trivial;have cx:=DB cw cv;obtain ⟨f7,bj,f8,f9⟩:=f6 (AB cw cx);exact (AD EI f8 (fL ⟨f7,bj,Z,f9⟩))
    ·intro _ _ _ _ cy cz;obtain ⟨_,_,_,_,_,_,_,ga,_,_,_,_,_,_,gb,_⟩:=cy;have c0:=ga trivial;have c1:=DB c0 cz;obtain ⟨_,_,gc,gd⟩:=gb (AB c0 c1);exact (Lo (J ((ms.getD (k+1) AG.z).day)) gc (CB (o:=2) AF gd Z) (fL Z))
    ·intro _ _ _ c2 c3 c4;obtain ⟨_,_,_,_,_,_,_,ge,_⟩:=c3;have hq:=DB (ge trivial) c4;exact (AD EI (Et (c2 11 Z) Z) (fL Z))
    ·intro _ _ bk _ c5 c6;obtain ⟨_,_,_,_,_,_,_,gf,gg,_⟩:=c5;have c7:=gf trivial;have c8:=DB c7 c6;exact (Lo (J ((ms.getD k AG.z).day)) (gg (AB c7 c8)) (Rd.one AF (bk.keep (C.keep (B.keep av Z) Z) Z) Z) (fL Z))
    ·intro _ _ ao c c9;obtain ⟨_,_,_,_,_,_,_,gi,_,_,_,_,_,_,_,gj,_,gk,_⟩:=c9;have U:=gi trivial;refine Ae (p:=((k:Int)+1)=(ms.length:Int)) ?_ ?_
     ·intro S;exact Gs 7 52 (AA U S) Z (Pk true (.bool true) Z (AA U S) Z (V (A9 Z (Rg (Mv (J a) Z (Et (c 9 Z) M) (Mv (J (n+(signed (((ms.getD k AG.z).kind).toNat) (Cd p k)))) Z (Et (c 8 Z) Z) (I Z (NN Z Z (Az (J (min a (n+(signed (((ms.getD k AG.z).kind).toNat) (Cd p k))))) Z (V (Rg (Ad _ _ Z (Et (c 21 Z) y) Z Y (Mz (J ((k:Int)+1)) Z (V (have da:=((((r.trans s).upd (Ln r u) t).trans B).trans C).trans ao;⟨_,Y,k+1,n+(signed (((ms.getD k AG.z).kind).toNat) (Cd p k)),min a (n+(signed (((ms.getD k AG.z).kind).toNat) (Cd p k))),Z,Y,Y,(by rw [<-j,ES (ms:=ms) (k:=k) (dy:=dy) Y ‹_›];unfold G1 GB;repeat (first | rw [aT ‹_›] | rw [aT (.inl ‹_›)])),Z,da,(Et (c 2 Z) N),(Et (c 3 Z) O),(Et (c 4 Z) x),(Et (c 5 Z) P),(Et (c 19 Z) Q),(Et (c 20 Z) R),(Et (c 8 Z) Z),Z,Z⟩)))))))))))))))
     ·intro S;refine Gg 7 52 (AB U S) Z (Cb (gj (AB U S)) (gk (AB U S)) (Pk false (.bool (decide (((ms.getD k AG.z).day)<((ms.getD (k+1) AG.z).day)))) Z (AB U S) Z (V (AR Z (λdb=>?_) (λdb=>?_)))))
      ·exact Rg (Mv (J a) Z (Et (c 9 Z) M) (Mv (J (n+(signed (((ms.getD k AG.z).kind).toNat) (Cd p k)))) Z (Et (c 8 Z) Z) (I Z (NN Z Z (Az (J (min a (n+(signed (((ms.getD k AG.z).kind).toNat) (Cd p k))))) Z (V (Rg (Ad _ _ Z (Et (c 21 Z) y) Z Y (Mz (J ((k:Int)+1)) Z (V (have dc:=((((r.trans s).upd (Ln r u) t).trans B).trans C).trans ao;⟨_,Y,k+1,n+(signed (((ms.getD k AG.z).kind).toNat) (Cd p k)),min a (n+(signed (((ms.getD k AG.z).kind).toNat) (Cd p k))),Z,Y,Y,(by rw [<-j,ES (ms:=ms) (k:=k) (dy:=dy) Y ‹_›];unfold G1 GB;repeat (first | rw [aT ‹_›] | rw [aT (.inr ‹_›)])),Z,dc,(Et (c 2 Z) N),(Et (c 3 Z) O),(Et (c 4 Z) x),(Et (c 5 Z) P),(Et (c 19 Z) Q),(Et (c 20 Z) R),(Et (c 8 Z) Z),Z,Z⟩)))))))))))
      ·exact Sk (Rg (Ad _ _ Z (Et (c 21 Z) y) Z Y (Mz (J ((k:Int)+1)) Z (V (have dd:=((((r.trans s).upd (Ln r u) t).trans B).trans C).trans ao;⟨_,Y,k+1,n+(signed (((ms.getD k AG.z).kind).toNat) (Cd p k)),a,rfl,Y,Y,(by rw [<-j,ES (ms:=ms) (k:=k) (dy:=dy) Y ‹_›];unfold G1 GB;repeat (first | rw [aT ‹_›] | rw [aS (by rintro (q | q) <;> contradiction)])),rfl,dd,(Et (c 2 rfl) N),(Et (c 3 rfl) O),(Et (c 4 rfl) x),(Et (c 5 rfl) P),(Et (c 19 rfl) Q),(Et (c 20 rfl) R),(Et (c 8 rfl) rfl),(Et (c 9 rfl) M),(Et (b:=(J ((k:Int)+1):aU)) rfl (by rfl))⟩)))))
   ·refine Sk (Sq (NV 18 [[],[0],[],[2],[2,3],[2,3,4],[0,1,2,3,4,5],[0,1,2,3,4,5,6],[0,1,2,3,4,5,6,7],[0,1,2,3,4,5,6,7,8],[0,1,2,3,4,5,6,7,8,9],[0,1,2,3,4,5,6,7],[0,1,2,3,4,5,6,7,11],[0,1,2,3,4,5,6,7,8,9,10,11,12],[0,1,2,3,4,5,6,7,8,9,10,11,12,13],[0,1,2,3,4,5,6,7,8,9,10,11,12,13,14],[0,1,2,3,4,5,6,7],[0,1,2,3,4,5,6,7,16]] [(lF (J k)),(lF (J ((k:Int)+1))),(lF (Pt w)),(lF (.pointer (some ⟨w,3,none⟩))),(lF msv),(lF (J (ms.length:Int))),(lF (.bool (decide (((k:Int)+1)=(ms.length:Int))))),(lF (.bool (decide (((k:Int)+1)=(ms.length:Int))))),(lF (Pt w)),(lF (.pointer (some ⟨w,3,none⟩))),(lF msv),(lF (J k)),(lF (J ((k:Int)+1))),(λv h=>∃(F:Nat)(H:Nat),v=(.pointer (some ⟨F,H,none⟩):aU)/\AX h F H 5 (Q9 ms k)),(λv h=>∃(F:Nat)(H:Nat),v=(.pointer (some ⟨F,H+2,none⟩):aU)/\AX h F H 5 (Q9 ms k)),(lF (J ((ms.getD (k+1) AG.z).day))),(lF (.pointer (some ⟨ey,2,none⟩))),(lF (J ((ms.getD k AG.z).day)))] Ah aB (K8 (K4 (K1 ⟨(λ_ _ _ l ⟨F,H,e,f0⟩=>⟨F,H,e,f0.le l⟩),(λ_ _ _ l ⟨F,H,e,f0⟩=>⟨F,H,e,f0.le l⟩),K2 (K1 trivial)⟩))) ⟨?_,?_,?_,?_,?_,?_,?_,?_,?_,?_,?_,?_,?_,?_,?_,?_,?_,?_,?_⟩))
    ·intro _ _ _ de _ _;exact (Mo (J k) (Et (de 10 Z) Z) (fL Z))
    ·intro _ _ _ _ df _;obtain ⟨gl,_⟩:=df;exact (Ci (gl trivial) Z Y (fL Z))
    ·intro _ _ _ dg _ _;exact (AD A0 (Et (dg 4 Z) x) (fL Z))
    ·intro _ _ _ _ dh _;obtain ⟨gm,_⟩:=dh;exact (AD B1 (gm trivial) (fL Z))
    ·intro _ _ bl _ di _;obtain ⟨_,gn,_⟩:=di;exact (Lo msv (gn trivial) (Rd.one C3 (bl.keep ((t _ a0).trans (s.keep au Z)) Z) Z) (fL Z))
    ·intro _ _ bm _ dj _;obtain ⟨_,_,gp,_⟩:=dj;have dk:=hms.le (((A.trans s).upd (Ln A u) t).trans bm);exact (AZ FD dk (gp trivial) (fL Z))
    ·intro _ _ _ _ dl _;obtain ⟨_,gq,_,_,_,gr,_⟩:=dl;exact (A7 (gq trivial) (gr trivial) (fL Z))
    ·intro _ _ _ _ dm _;obtain ⟨_,_,_,_,_,_,gt,_⟩:=dm;exact (Mo (.bool (decide (((k:Int)+1)=(ms.length:Int)))) (gt trivial) (fL Z))
    ·intro _ _ _ dn dp dq;obtain ⟨_,_,_,_,_,_,_,gu,_⟩:=dp;have hr:=DB (gu trivial) dq;exact (AD A0 (Et (dn 4 Z) x) (fL Z))
    ·intro _ _ _ _ dr ds;obtain ⟨_,_,_,_,_,_,_,gv,gw,_⟩:=dr;have dt:=gv trivial;have du:=DB dt ds;exact (AD B1 (gw (AB dt du)) (fL Z))
    ·intro _ _ bn _ dv dw;obtain ⟨_,_,_,_,_,_,_,gx,_,gy,_⟩:=dv;have dx:=gx trivial;have dz:=DB dx dw;exact (Lo msv (gy (AB dx dz)) (Rd.one C3 (bn.keep ((t _ a0).trans (s.keep au Z)) Z) Z) (fL Z))
    ·intro _ _ _ d0 d1 d2;obtain ⟨_,_,_,_,_,_,_,gz,_⟩:=d1;have hs:=DB (gz trivial) d2;exact (Mo (J k) (Et (d0 10 Z) Z) (fL Z))
    ·intro _ _ _ _ d3 d4;obtain ⟨_,_,_,_,_,_,_,g0,g1,_⟩:=d3;have d5:=g0 trivial;have d6:=DB d5 d4;exact (Ci (g1 (AB d5 d6)) Z Y (fL Z))
    ·intro _ _ bo _ d7 d8;obtain ⟨_,_,_,_,_,_,_,g2,_,_,g3,_,g4,_⟩:=d7;have bp:=g2 trivial;have a6:=DB bp d8;have d9:(0:Int)<=(k:Int)+1:=Y
     have ea:(k:Int)+1<((ms.length:Nat):Int):=Y
     exact (Ag Fi hms (g3 (AB bp a6)) (g4 (AB bp a6)) d9 ea λeb ax ec=>have ed:AX _ eb ax 5 (Bf (ms.getD (k+1) AG.z)):=AX.getD AG.z ec;have ee:=ed.le (((A.trans s).upd (Ln A u) t).trans bo);fL ⟨eb,ax,Z,ee⟩)
    ·intro _ _ _ _ ef eg;obtain ⟨_,_,_,_,_,_,_,g5,_,_,_,_,_,g6,_⟩:=ef;have eh:=g5 trivial;have ei:=DB eh eg;obtain ⟨g7,bq,g8,g9⟩:=g6 (AB eh ei);exact (AD EI g8 (fL ⟨g7,bq,Z,g9⟩))
    ·intro _ _ _ _ ej ek;obtain ⟨_,_,_,_,_,_,_,ha,_,_,_,_,_,_,hb,_⟩:=ej;have el:=ha trivial;have em:=DB el ek;obtain ⟨_,_,hc,hd⟩:=hb (AB el em);exact (Lo (J ((ms.getD (k+1) AG.z).day)) hc (CB (o:=2) AF hd Z) (fL Z))
    ·intro _ _ _ en eo ep;obtain ⟨_,_,_,_,_,_,_,he,_⟩:=eo;have ht:=DB (he trivial) ep;exact (AD EI (Et (en 11 Z) Z) (fL Z))
    ·intro _ _ br _ eq er;obtain ⟨_,_,_,_,_,_,_,hf,hg,_⟩:=eq;have es:=hf trivial;have et:=DB es er;exact (Lo (J ((ms.getD k AG.z).day)) (hg (AB es et)) (Rd.one AF (br.keep av Z) Z) (fL Z))
    ·intro _ _ ap f eu;obtain ⟨_,_,_,_,_,_,_,hh,_,_,_,_,_,_,_,hi,_,hj,_⟩:=eu;have X:=hh trivial;refine Ae (p:=((k:Int)+1)=(ms.length:Int)) ?_ ?_
     ·intro T;exact Gs 7 52 (AA X T) Z (Pk true (.bool true) Z (AA X T) Z (V (A9 Z (Rg (Mv (J a) Z (Et (f 9 Z) M) (Mv (J n) Z (Et (f 8 Z) K) (I Z (NN Z Z (Az (J (min a n)) Z (V (Rg (Ad _ _ Z (Et (f 21 Z) y) Z Y (Mz (J ((k:Int)+1)) Z (V (have ev:=((r.trans s).upd (Ln r u) t).trans ap;⟨_,Y,k+1,n,min a n,Z,Y,Y,(by rw [<-j,ES (ms:=ms) (k:=k) (dy:=dy) Y ‹_›];unfold G1 GB;repeat (first | rw [aS ‹_›] | rw [aT (.inl ‹_›)])),Z,ev,(Et (f 2 Z) N),(Et (f 3 Z) O),(Et (f 4 Z) x),(Et (f 5 Z) P),(Et (f 19 Z) Q),(Et (f 20 Z) R),(Et (f 8 Z) K),Z,Z⟩)))))))))))))))
     ·intro T;refine Gg 7 52 (AB X T) Z (Cb (hi (AB X T)) (hj (AB X T)) (Pk false (.bool (decide (((ms.getD k AG.z).day)<((ms.getD (k+1) AG.z).day)))) Z (AB X T) Z (V (AR Z (λew=>?_) (λew=>?_)))))
      ·exact Rg (Mv (J a) Z (Et (f 9 Z) M) (Mv (J n) Z (Et (f 8 Z) K) (I Z (NN Z Z (Az (J (min a n)) Z (V (Rg (Ad _ _ Z (Et (f 21 Z) y) Z Y (Mz (J ((k:Int)+1)) Z (V (have ex:=((r.trans s).upd (Ln r u) t).trans ap;⟨_,Y,k+1,n,min a n,Z,Y,Y,(by rw [<-j,ES (ms:=ms) (k:=k) (dy:=dy) Y ‹_›];unfold G1 GB;repeat (first | rw [aS ‹_›] | rw [aT (.inr ‹_›)])),Z,ex,(Et (f 2 Z) N),(Et (f 3 Z) O),(Et (f 4 Z) x),(Et (f 5 Z) P),(Et (f 19 Z) Q),(Et (f 20 Z) R),(Et (f 8 Z) K),Z,Z⟩)))))))))))
      ·exact Sk (Rg (Ad _ _ Z (Et (f 21 Z) y) Z Y (Mz (J ((k:Int)+1)) Z (V (⟨_,Y,k+1,n,a,rfl,Y,Y,(by rw [<-j,ES (ms:=ms) (k:=k) (dy:=dy) Y ‹_›];unfold G1 GB;repeat (first | rw [aS ‹_›] | rw [aS (by rintro (q | q) <;> contradiction)])),rfl,(((r.trans s).upd (Ln r u) t).trans ap),(Et (f 2 rfl) N),(Et (f 3 rfl) O),(Et (f 4 rfl) x),(Et (f 5 rfl) P),(Et (f 19 rfl) Q),(Et (f 20 rfl) R),(Et (f 8 rfl) K),(Et (f 9 rfl) M),(Et (b:=(J ((k:Int)+1):aU)) rfl (by rfl))⟩)))))
 ·exact Xt (Sr (Mv (J n) Z K (Mv (J a) Z M (Az (J n) Z (Az (J a) Z (V (Rt (⟨Zr,Ou (J n) (J a) Z (⟨(by (rw [AQ,<-j,RH (ms:=ms) (k:=k) ‹_›];done)),(a7.trans r)⟩)⟩))))))))
theorem R1(c:AP)(d:Int)(m:Int)(gs:List Good)(gsv:aU)(ms:List AG)(msv:aU)(cs:List AP)(csv:aU)(r:Nat)(p:AW)(rp:Nat)(hgs:AJ h gsv 5 Bw gs)(hms:AJ h msv 5 Bf ms)(hcs:AJ h csv 4 BI cs)(hr:AX h r 0 5 #[J d,J m,gsv,msv,csv])(hrp:AX h rp 0 15 (An p))(hG:Di h)(hc0:0<=c.good)(hc1:c.good<3)(hp:Bn p)(hml:ms.length<=6)(hkind:∀k,0<=(ms.getD k AG.z).kind/\(ms.getD k AG.z).kind<=4):AU W 127 #[.agg #[J c.good,J c.day,J c.low,J c.high],Pt r,Pt rp] h (λv h'=>v=(.bool (decide (¬(c.low<=(AQ ms p c.good c.day).1/\(AQ ms p c.good c.day).1<=c.high))):aU)/\h.Le h'):=by
 have j:=hgs.len;have l:=hms.len;have n:=hcs.len;refine Ct func127 Z (Sr (I Z (Bo #[J c.good,J c.day,J c.low,J c.high] Z Z λ_ _ _ a b _=>Az (.bool false) Z (V (Sr (Lz _ Z (AI CL (hr.le a)) (Lz (.agg (An p)) Z (AI Bl (hrp.le a)) (Fz Mj Z (Lz (J c.good) Z (Rd.one AF b Z) (Fz Mk Z (Lz (J c.day) Z (Rd.one AF b Z) (I Z (CI func67 Ji Z Z Z Z ((Im d m gs gsv ms msv cs csv p c.good c.day (hgs.le a) (hms.le a) (hcs.le a) (hG.le a) Y Y Y Y Y).mono λ_ _ g=>?_))))))))))))));obtain ⟨rfl,e⟩:=g;refine Mz (.tuple #[J (Qx ms p c),J ((AQ ms p c.good c.day).2)]) Z (I Z (Ex (J (Qx ms p c)) Z (I Z (Ex (J ((AQ ms p c.good c.day).2)) Z (Az (J (Qx ms p c)) Z (Az (J ((AQ ms p c.good c.day).2)) Z (V (Sr (Mz (J (Qx ms p c)) Z (Fz JN Z (Fz BY Z (have f:=e.keep b Z;Lz (J c.low) Z (Rd.one AF f Z) (Fz JN Z (Fz Bc Z (Lz (J c.high) Z (Rd.one AF f Z) (I Z (Aa func41 B9 Z Z Z ((BZ (Qx ms p c) c.low c.high ).mono λ_ _ i=>?_))))))))))))))))));obtain ⟨rfl,rfl⟩:=i;exact I Z (A8 Z (Az (.bool (decide (¬(c.low<=(Qx ms p c)/\(Qx ms p c)<=c.high)))) Z (V (Rt (⟨Zr,Ot (.bool (decide (¬(c.low<=(Qx ms p c)/\(Qx ms p c)<=c.high)))) Z (⟨(by rfl),(a.trans e)⟩)⟩)))))
theorem T6(p:AW)(hgs:AJ h gsv 5 Bw gs)(hms:AJ h msv 5 Bf ms)(hcs:AJ h csv 4 BI cs)(hG:Di h)(hp:Bn p)(hml:ms.length<=6)(hkind:∀k,0<=(ms.getD k AG.z).kind/\(ms.getD k AG.z).kind<=4)(hgl:gs.length<=3)(hcg:∀x ∈ cs,0<=x.good/\x.good<3):AU W 111 #[.agg #[J d,J m,gsv,msv,csv],.agg (An p)] h (λv h'=>v=(.bool (BF d gs.length ms cs p):aU)/\h.Le h'):=by
 have ao:=hgs.len;have ap:=hms.len;have aq:=hcs.len;refine Ct func111 Z (Sr (I Z (Bo #[J d,J m,gsv,msv,csv] Z Z λe _ _ H K _=>I Z (Bo (An p) Z Z λf M _ u w _=>Az (.bool false) Z (V (S2 (Fz A0 Z (Fz Cn Z (have l:=u.keep K Z;Lz gsv Z (Rd.one Ec l Z) (have n:=H.trans u;I Z (AZ FC (hgs.le n) Z (Mz (J 0) Z (V (Bk (Aq (λy σ' o h'=>∃(k:Nat),y=gs.length-k/\(k<=gs.length)/\(∀j,j<k->¬(AQ ms p (j:Int) d).2<0)/\o=[]/\L.Le M h'/\σ' 2=Pt e/\σ' 3=Pt f/\σ' 11=J (gs.length:Int)/\σ' 12=J k) ⟨0,Z,Y,aK,Z,Lr,Z,Z,Z,Z⟩ (λy _ _ N O=>?_))))))))))))))));obtain ⟨k,rfl,hk,A,P,a,b,q,B,r⟩:=O;subst P;refine Sr (I Z (Aw r B (V (Sq (AR Z (λQ=>?_) (λQ=>?_))))))
 ·refine Sk (Sq (Bk (Sr (Mv (J k) Z r (Az (J k) Z (V (Sr (have C:=a.keep l Z;Ld _ Z b (AI CL (Bx C Z)) (Ld (.agg (An p)) Z q (AI Bl (Bx (a.keep w Z) Z)) (Mz (J k) Z (Fa A0 Z b (Fz C1 Z (Lz (J d) Z (Rd.one AF C Z) (have c:=n.trans a;I Z (CI func67 Ji Z Z Z Z ((Im d m gs gsv ms msv cs csv p (k:Int) d (hgs.le c) (hms.le c) (hcs.le c) (hG.le c) Y Y Y Y Y).mono λ_ _ R=>?_))))))))))))))));obtain ⟨rfl,D⟩:=R;refine Mz (.tuple #[J ((AQ ms p (k:Int) d).1),J ((AQ ms p (k:Int) d).2)]) Z (I Z (Ex (J ((AQ ms p (k:Int) d).1)) Z (I Z (Ex (J ((AQ ms p (k:Int) d).2)) Z (Az (J ((AQ ms p (k:Int) d).1)) Z (Az (J ((AQ ms p (k:Int) d).2)) Z (V (Sr (Mz (J ((AQ ms p (k:Int) d).2)) Z (I Z (Aw Z Z (V (AR Z (λS=>?_) (λS=>?_))))))))))))))
  ·exact Sr (Az (.bool false) Z (V (Rt (⟨Zr,Ot (.bool false) Z (⟨(by (symm;congr 1;exact Uo (k:=k) Y ‹_›)),(c.trans D)⟩)⟩))))
  ·exact Sk (Rg (Ad _ _ Z r Z Y (Mz (J ((k:Int)+1)) Z (V (⟨_,Y,k+1,Z,Y,(by exact Pf A ‹_›),Z,(a.trans D),b,q,B,Z⟩)))))
 ·refine Xt (Sr (Fa A0 Z b (Fz Ej Z (have E:=a.keep l Z;Lz csv Z (Rd.one He E Z) (I Z (GZ b q ?_))))));have s:=n.trans a;have T:∀x ∈ cs,∀g,L.Le N g->CT W (.func (.func 127) #[] #[Pt e,Pt f]) #[.agg #[J x.good,J x.day,J x.low,J x.high]] g λv F=>v=.bool ((λx=>decide (¬(x.low<=(AQ ms p x.good x.day).1/\(AQ ms p x.good x.day).1<=x.high))) x)/\g.Le F:=by
   intro x U g t;have X:=hcg x U;have i:=s.trans t;exact Bs func127 Vm Z ((R1 x d m gs gsv ms msv cs csv e p f (hgs.le i) (hms.le i) (hcs.le i) (Bx (t.keep E Z) Z) (Bx (t.keep (a.keep w Z) Z) Z) (hG.le i) Y Y Y Y Y).mono λv F hp=>⟨hp.1,hp.2⟩)
  refine I Z (AS func126 Vl Z Z ((KZ cs csv (.func (.func 127) #[] #[Pt e,Pt f]) (λx=>decide (¬(x.low<=(AQ ms p x.good x.day).1/\(AQ ms p x.good x.day).1<=x.high))) (hcs.le s) T).mono λ_ _ a1=>?_));obtain ⟨rfl,am⟩:=a1;exact I Z (Cc Z (Az (.bool (!(cs.any (λx=>decide (¬(x.low<=(AQ ms p x.good x.day).1/\(AQ ms p x.good x.day).1<=x.high)))))) Z (V (Rt (⟨Zr,Ot (.bool (!(cs.any (λx=>decide (¬(x.low<=(AQ ms p x.good x.day).1/\(AQ ms p x.good x.day).1<=x.high)))))) Z (⟨(by (symm;congr 1;exact SY (k:=k) Y A)),(s.trans am)⟩)⟩)))))
theorem T7(f:List Int)(fv:aU)(y:List Int)(yv:aU)(l:List Int)(lv:aU)(hgs:AJ h gsv 5 Bw gs)(hms:AJ h msv 5 Bf ms)(hcs:AJ h csv 4 BI cs)(hf:AJ h fv 1 eI f)(hy:AJ h yv 1 eI y)(hl:AJ h lv 1 eI l)(hG:Di h)(hnm:∀k,(gs.getD k Good.z).name.size<=1000):AU W 66 #[.agg #[J d,J m,gsv,msv,csv],fv,yv,lv] h (λv h'=>v=(.tuple #[.agg (An (Ba d m gs ms cs f y l)),J (BA d m gs ms cs f y l)]:aU)/\h.Le h'):=by
 have br:=hgs.len;have bs:=hms.len;have bt:=hcs.len;have bu:=hf.len;have bv:=hy.len;have bw:=hl.len;refine Ct func66 Z (Sr (I Z (Bo #[J d,J m,gsv,msv,csv] Z Z λr7 _ _ b bx _=>I Z (AV DX λM cm q x bz _=>have A:cm M=some (true,.cells Qt 152 (0,0)):=bz;Az (J 0) Z (V (S2 (have N:=x.keep bx Z;Lz _ Z (AI BH (Bx N Z)) (have r:=b.trans x;I Z (Ao func68 Gr Z ((D4 d m gs gsv ms msv cs csv (hgs.le r) (hms.le r) (hcs.le r) (hG.le r) Y).mono λ_ _ b0=>?_))))))))));obtain ⟨rfl,c⟩:=b0;refine Az (Td d m gs ms cs) Z (V (Sr (Mz (Td d m gs ms cs) Z (I Z (Ar Z Z (V (AR Z (λO=>?_) (λO=>?_))))))))
 ·exact Sr (I Z (Av (cells:=Q1) ID DX aB (Mz (Td d m gs ms cs) Z (I Z (So (.agg Q1) Qt Bl Z (c.keep A Z) Z (Nb Z) Z λ_ b1 b2=>Az (Td d m gs ms cs) Z (V (Rt (⟨Zr,EC Z (v:=.agg Qt) (v':=J (Au d m gs ms cs)) Z (AI Bl (Bx b1 Z)) Z (⟨(by exact G3 (RK ‹_›) ‹_›),((r.trans c).upd (Ln b q) b2)⟩)⟩))))))))
 ·have a:=I3 (Dn O);have hgl:=a.glen;have hml:=a.mlen;have hcl:=a.clen;have hdy:=a.days;have hmo:=a.most;have hkind:=a.kind;refine Sk (S2 (Mz fv Z (Fz Cn Z (have P:=c.keep N Z;Lz gsv Z (Rd.one Ec P Z) (have B:=r.trans c;I Z (AZ FC (hgs.le B) Z (I Z (AS func105 OK Z Z ((LV f fv (gs.length:Int) (hf.le B) ).mono λ_ _ b3=>?_)))))))));obtain ⟨rfl,n⟩:=b3;refine Az (J (A4 f (gs.length:Int))) Z (V (Sr (Mz (J (A4 f (gs.length:Int))) Z (I Z (Ar Z Z (V (AR Z (λQ=>?_) (λQ=>?_))))))))
  ·exact Sr (I Z (Av (cells:=Q1) ID DX aB (Mz (J (A4 f (gs.length:Int))) Z (I Z (So (.agg Q1) Qt Bl Z (n.keep (c.keep A Z) Z) Z (Nb Z) Z λ_ b4 b5=>Az (J (A4 f (gs.length:Int))) Z (V (Rt (⟨Zr,EC Z (v:=.agg Qt) (v':=J (A4 f (gs.length:Int))) Z (AI Bl (Bx b4 Z)) Z (⟨(by exact G3 (RL ‹_› ‹_›) ‹_›),((B.trans n).upd (Ln b q) b5)⟩)⟩))))))))
  ·obtain ⟨_,hnb51_⟩:=GJ (Dn Q);refine Sk (S2 (Mz yv Z (Fz B1 Z (have R:=n.keep P Z;Lz msv Z (Rd.one C3 R Z) (have s:=B.trans n;I Z (AZ FD (hms.le s) Z (I Z (AS func105 OK Z Z ((LV y yv (ms.length:Int) (hy.le s) ).mono λ_ cn b6=>?_)))))))));obtain ⟨rfl,g⟩:=b6;refine Az (J (A4 y (ms.length:Int))) Z (V (Sr (Mz (J (A4 y (ms.length:Int))) Z (I Z (Ar Z Z (V (AR Z (λS=>?_) (λS=>?_))))))))
   ·exact Sr (I Z (Av (cells:=Q1) ID DX aB (Mz (J (A4 y (ms.length:Int))) Z (I Z (So (.agg Q1) Qt Bl Z (g.keep (n.keep (c.keep A Z) Z) Z) Z (Nb Z) Z λ_ b7 b8=>Az (J (A4 y (ms.length:Int))) Z (V (Rt (⟨Zr,EC Z (v:=.agg Qt) (v':=J (A4 y (ms.length:Int))) Z (AI Bl (Bx b7 Z)) Z (⟨(by exact G3 (RM ‹_› ‹_› ‹_›) ‹_›),((s.trans g).upd (Ln b q) b8)⟩)⟩))))))))
   ·obtain ⟨_,hnb66_⟩:=GJ (Dn S);refine Sk (Sr (have D:=(g.keep (n.keep (c.keep A Z) Z) Z);I Z (AV DX λE co w T ca _=>have cb:co E=some (true,.cells Qt 152 (0,0)):=ca;V (Sr (Fz JO Z (I Z (MN Lu Z (Mz fv Z (have U:=(s.trans g).trans T;I Z (SS (enc:=eI) (ys:=f) (c':=An (AW.zero.setFirsts f)) AO Z Z cb (Nb Z) (hf.le U) Y aJ aJ (Mt Y) λ_ cc X=>V (Sr (Fz JP Z (I Z (MN FU Z (Mz yv Z (have a4:=U.upd (Ln ((((b.trans x).trans c).trans n).trans g) w) X;I Z (SS (enc:=eI) (ys:=y) (c':=An (Ql f y)) AO Z Z cc (Nb Z) (hy.le a4) Y aJ aJ (Nj Y) λ_ cd a5=>V (Sr (Az (J (-1)) Z (V (S2 (Mz lv Z (have ce:=a4.upd (Ln ((((b.trans x).trans c).trans n).trans g) w) a5;I Z (AZ CX (hl.le ce) Z (Mz (J 0) Z (V (Bk (have cf:=(T.upd (Ln Lr w) X).upd (Ln Lr w) a5;Aq (λnn σ' F h'=>∃(k:Nat),nn=l.length-k/\(k<=l.length)/\(∀j,j<k->Ku ms l j=0)/\F=[]/\L.Le cn h'/\σ' 4=Pt r7/\σ' 8=Pt M/\σ' 13=Pt E/\σ' 49=lv/\σ' 50=J (l.length:Int)/\σ' 14=J (JZ l k)/\σ' 51=J k/\h' E=some (true,.cells (An (E0 (Ql f y) l k)) 152 (0,0))) ⟨0,Z,Y,aK,Z,cf,Z,Z,Z,Z,Z,Z,Z,(by have e:(An (E0 (Ql f y) l 0):Array aU)=An (Ql f y):=(by rfl);rw [e];exact cd)⟩ (λnn _ _ _ cg=>?_)))))))))))))))))))))))))))));obtain ⟨k,rfl,hk,C,cp,o,cl,p,H,a6,a7,ci,K,a8⟩:=cg;subst cp;refine Sr (I Z (Aw K a7 (V (Sq (AR Z (λa9=>?_) (λa9=>?_))))))
    ·refine Sk (Sq (Bk (Sq (Rg ?_))));have ba:(0:Int)<=(k:Int):=Y
     have bb:(k:Int)<((l.length:Nat):Int):=Y
     refine I Z (Ag AO hl a6 K ba bb λcj av bc=>have bd:AX _ cj av 1 (eI (l.getD k 0)):=AX.getD 0 bc;have t:=(s.trans g).trans o;Lz (Qs l k) Z (Br AF (bd.le t) Z) (Az (Qs l k) Z (V (Sq (Bk (Sr (Ld _ Z cl (AI BH (Bx (o.keep (g.keep R Z) Z) Z)) (I Z (Av (cells:=#[J d,J m,gsv,msv,csv]) Ea CH aB (Mz (Qs l k) Z (I Z (AS func73 Jj Z Z ((Hg d m gs gsv ms msv cs csv (l.getD k 0) (hgs.le t) (hms.le t) (hcs.le t) ).mono λ_ _ be=>?_)))))))))))));obtain ⟨rfl,u⟩:=be;refine I Z (A8 Z (Az (.bool (decide (¬((0<=(l.getD k 0)/\(l.getD k 0)<=(ms.length:Int)-1)/\(ms.getD ((l.getD k 0)).toNat AG.z).kind=0)))) Z (V (AR Z (λao=>?_) (λao=>?_)))))
     ·exact Sr (I Z (Av (cells:=Q1) ID DX aB (I Z (Ac (v:=.agg Q1) (c':=An AW.zero) Bl p Z (u.keep (o.keep D Z) Z) Z Z (Nb Z) Z λ_ bf bg=>Az (J 6) Z (V (Rt (⟨Zr,EC Z (v:=.agg Qt) (v':=J 6) p (AI Bl (Bx bf Z)) Z (⟨(by exact G3 (IU ‹_› ‹_› ‹_› (CP (k:=k) C Y (lieAt_6 ‹_›) aC)) aC),((t.trans u).upd (Ln b q) bg)⟩)⟩)))))))
     ·have hc122_:=Dn ao;refine Sr (Mz (Qs l k) Z (Mv (J (JZ l k)) Z ci (I Z (DF Z Z (Az (.bool (decide ((l.getD k 0)<=(JZ l k)))) Z (V (AR Z (λbh=>?_) (λbh=>?_))))))))
      ·exact Sr (I Z (Av (cells:=Q1) ID DX aB (I Z (Ac (v:=.agg Q1) (c':=An AW.zero) Bl p Z (u.keep (o.keep D Z) Z) Z Z (Nb Z) Z λ_ bi bj=>Az (J 7) Z (V (Rt (⟨Zr,EC Z (v:=.agg Qt) (v':=J 7) p (AI Bl (Bx bi Z)) Z (⟨(by exact G3 (IU ‹_› ‹_› ‹_› (CP (k:=k) C Y (lieAt_7 ‹_› ‹_›) aC)) aC),((t.trans u).upd (Ln b q) bj)⟩)⟩)))))))
      ·refine Sk (Rg (Mz (Qs l k) Z (Mz (Qs l k) Z (Fa Ei Z H ?_))));have bk:(0:Int)<=l.getD k 0:=Y
       have bl:l.getD k 0<((6:Nat):Int):=Y
       exact I Z (Bj FV Z Z bk bl (I Z (So (.bool true) (An ((E0 (Ql f y) l k).setLie ((l.getD k 0).toNat) true)) F5 Z (u.keep a8 Z) Z (by show _<=15;omega) (IR (i:=(l.getD k 0).toNat) Y) λ_ bm bn=>Az (Qs l k) Z (V (Rg (Ad _ _ Z K Z Y (Mz (J ((k:Int)+1)) Z (V (⟨_,Y,k+1,Z,Y,(by exact FQ C (lieAt_0 ‹_› ‹_›)),Z,((o.trans u).upd (Ln Lr w) bn),cl,p,H,a6,a7,Z,Z,(by have e:(An (E0 (Ql f y) l (k+1)):Array aU)=An ((E0 (Ql f y) l k).setLie ((l.getD k 0).toNat) true):=(by rw [Se Y]);rw [e];exact bm)⟩)))))))))
    ·exact Xt (Sr (Ld (.agg (An (E0 (Ql f y) l k))) Z H (AI Bl (Bx a8 Z)) (I Z (Ac (v:=.agg (An (E0 (Ql f y) l k))) (c':=An (E0 (Ql f y) l k)) Bl p Z (o.keep D Z) (IV _) (IW _) (Ja _) (Jb _ _) λ_ bo bp=>Az (J 0) Z (V (Rt (have bq:=((s.trans g).trans o).upd (Ln b q) bp;⟨Zr,EC Z (v:=.agg (An (E0 (Ql f y) l k))) (v':=J 0) p (AI Bl (Bx bo Z)) Z (⟨(by exact Sf (IU ‹_› ‹_› ‹_› (Db (k:=k) C Y)) ‹_› hk),bq⟩)⟩)))))))
theorem ZI(f:List Int)(fv:aU)(y:List Int)(yv:aU)(l:List Int)(lv:aU)(hgs:AJ h gsv 5 Bw gs)(hms:AJ h msv 5 Bf ms)(hcs:AJ h csv 4 BI cs)(hf:AJ h fv 1 eI f)(hy:AJ h yv 1 eI y)(hl:AJ h lv 1 eI l)(hG:Di h)(hnm:∀k,(gs.getD k Good.z).name.size<=1000):AU W 24 #[.agg #[J d,J m,gsv,msv,csv],fv,yv,lv] h (λv h'=>∃(w1:aU)(w2:aU),v=(.tuple #[w1,w2,J (BA d m gs ms cs f y l)]:aU)/\AJ h' w1 1 eI (G4 d m gs ms cs f y l)/\AJ h' w2 1 eI (IX d m gs ms cs f y l)/\h.Le h'):=by
 have ba:=hgs.len;have bb:=hms.len;have bc:=hcs.len;have bd:=hf.len;have be:=hy.len;have bf:=hl.len;refine Ct func24 Z (Sr (I Z (Bo #[J d,J m,gsv,msv,csv] Z Z λP _ _ a Q _=>Az Q8 Z (Az Q8 Z (Az (J 0) Z (V (Sr (Lz _ Z (AI BH (Bx Q Z)) (Mz fv Z (Mz yv Z (Mz lv Z (I Z (CI func66 Yq Z Z Z Z ((T7 d m gs gsv ms msv cs csv f fv y yv l lv (hgs.le a) (hms.le a) (hcs.le a) (hf.le a) (hy.le a) (hl.le a) (hG.le a) Y).mono λ_ _ bg=>?_))))))))))))));obtain ⟨rfl,o⟩:=bg;refine Mz (.tuple #[.agg (An (Ba d m gs ms cs f y l)),J (BA d m gs ms cs f y l)]) Z (I Z (Ex (.agg (An (Ba d m gs ms cs f y l))) Z (I Z (Ex (J (BA d m gs ms cs f y l)) Z (have R:=o.keep Q Z;I Z (AV DX λu b4 w x bi _=>have bj:b4 u=some (true,.cells Qt 152 (0,0)):=bi;have bk:P≠u:=CR R w;I Z (Ac (v:=.agg (An (Ba d m gs ms cs f y l))) (c':=An (Ba d m gs ms cs f y l)) Bl Z Z bj (IV _) (IW _) (Ja _) (Jb _ _) λp bl A=>Az (J (BA d m gs ms cs f y l)) Z (V (S2 (Mz (J (BA d m gs ms cs f y l)) Z (I Z (Ar Z Z (V (AR Z (λS=>?_) (λS=>?_)))))))))))))))
 ·exact Sr (Mz (J (BA d m gs ms cs f y l)) Z (Az Q8 Z (Az Q8 Z (Az (J (BA d m gs ms cs f y l)) Z (V (Rt (have bm:=((a.trans o).trans x).upd (Ln (a.trans o) w) A;⟨Zr,PZ Z (v:=.slice none 0 0) (v':=.slice none 0 0) (v2:=J (BA d m gs ms cs f y l)) Z Z Z (⟨.slice none 0 0,.slice none 0 0,(by rfl),(by have e:G4 d m gs ms cs f y l=[]:=(by exact RN ‹_›);rw [e];exact AJ.nil _ _ _),(by have e:IX d m gs ms cs f y l=[]:=(by exact Sg ‹_›);rw [e];exact AJ.nil _ _ _),bm⟩)⟩)))))))
 ·obtain ⟨g,hpo⟩:=Xc (Dn S);have hgl:=g.glen;have hml:=g.mlen;have hdy:=g.days;have hkind:=g.kind;refine Sk (S2 (Fz Cn Z (have T:=(A _ bk).trans (x.keep R Z);Lz gsv Z (Rd.one Ec T Z) (have B:=((a.trans o).trans x).upd (Ln (a.trans o) w) A;I Z (AZ FC (hgs.le B) Z (Mz (J 0) Z (V (Bk (Aq (λU σ' C h'=>∃(k:Nat)(j:aU)(c:aU),U=gs.length-k/\(k<=gs.length)/\C=[]/\L.Le p h'/\σ' 4=Pt P/\σ' 10=J 0/\σ' 11=Pt u/\σ' 29=J (gs.length:Int)/\σ' 30=J k/\σ' 8=j/\σ' 9=c/\AN p h' j 3 1 eI ((List.range k).map (λ(i:Nat)=>(AQ ms (Ba d m gs ms cs f y l) (i:Int) d).1))/\AN p h' c 3 1 eI ((List.range k).map (λ(i:Nat)=>(AQ ms (Ba d m gs ms cs f y l) (i:Int) d).2))/\Apart c j) ⟨0,.slice none 0 0,.slice none 0 0,Z,Y,Z,Lr,Z,Z,Z,Z,Z,Z,Z,(by have e:(List.range 0).map (λ(i:Nat)=>(AQ ms (Ba d m gs ms cs f y l) (i:Int) d).1)=[]:=(by rfl);rw [e];exact AN.nil _ _ _ _ _),(by have e:(List.range 0).map (λ(i:Nat)=>(AQ ms (Ba d m gs ms cs f y l) (i:Int) d).2)=[]:=(by rfl);rw [e];exact AN.nil _ _ _ _ _),Apart.nil⟩ (λU _ _ _ bn=>?_))))))))));obtain ⟨k,j,c,rfl,X,b5,r,D,b6,bw,bx,E,bz,b0,b1,b2,b3⟩:=bn;subst b5;refine Sr (I Z (Aw E bx (V (Sq (AR Z (λbq=>?_) (λbq=>?_))))))
  ·refine Sk (Sq (Bk (Sr (Mv (J k) Z E (Az (J k) Z (V (Sr (have az:=r.keep T Z;Ld _ Z D (AI BH (Bx az Z)) (I Z (Av (cells:=#[J d,J m,gsv,msv,csv]) Ea CH aB (Ld (.agg (An (Ba d m gs ms cs f y l))) Z bw (AI Bl (Bx (r.keep bl Z) Z)) (Mz (J k) Z (Fa C1 Z D (Lz (J d) Z (Rd.one AF az Z) (have s:=B.trans r;I Z (CI func67 Ji Z Z Z Z ((Im d m gs gsv ms msv cs csv (Ba d m gs ms cs f y l) (k:Int) d (hgs.le s) (hms.le s) (hcs.le s) (hG.le s) Y Y Y Y Y).mono λ_ _ br=>?_)))))))))))))))));obtain ⟨rfl,F⟩:=br;exact Mz (.tuple #[J ((AQ ms (Ba d m gs ms cs f y l) (k:Int) d).1),J ((AQ ms (Ba d m gs ms cs f y l) (k:Int) d).2)]) Z (I Z (Ex (J ((AQ ms (Ba d m gs ms cs f y l) (k:Int) d).1)) Z (I Z (Ex (J ((AQ ms (Ba d m gs ms cs f y l) (k:Int) d).2)) Z (Az (J ((AQ ms (Ba d m gs ms cs f y l) (k:Int) d).1)) Z (Az (J ((AQ ms (Ba d m gs ms cs f y l) (k:Int) d).2)) Z (V (Rg (Mv j Z bz (Mz (J ((AQ ms (Ba d m gs ms cs f y l) (k:Int) d).1)) Z (I Z (AY (cells:=#[J ((AQ ms (Ba d m gs ms cs f y l) (k:Int) d).1)]) CV aC aC aB λ_ _ bs H bt _=>have bu:=AN.built (enc:=eI) (xs:=[(AQ ms (Ba d m gs ms cs f y l) (k:Int) d).1]) (n:=1) bs bt Z Z aI Z;have a0:=(b1.le F).le H;have a1:=(r.trans F).trans H;have a2:=(b2.le F).le H;I Z (B0 (h0:=p) Df Z Z a0 (bu.sl) (λ_ q=>Ln a1 q) aH aJ λt _ bv K=>have ai:Apart t c:=Apart.grown K a2 (Apart.symm b3);Mv c Z b0 (Mz (J ((AQ ms (Ba d m gs ms cs f y l) (k:Int) d).2)) Z (I Z (AY (cells:=#[J ((AQ ms (Ba d m gs ms cs f y l) (k:Int) d).2)]) CV aC aC aB λ_ _ a3 M a4 _=>have a5:=AN.built (enc:=eI) (xs:=[(AQ ms (Ba d m gs ms cs f y l) (k:Int) d).2]) (n:=1) a3 a4 Z Z aI Z;have aj:=((AN.grown K a2 (Apart.symm b3)).le M);have ak:=(L.Le.grown K a1 λb e=>Ln Lr (a0.fresh b e)).trans M;have al:=bv.le M;I Z (B0 (h0:=p) Df Z Z aj (a5.sl) (λ_ q=>Ln ak q) aH aJ λN _ a6 O=>have a7:Apart N t:=Apart.grown O al (Apart.symm ai);Az t Z (Az N Z (V (Rg (Ad _ _ Z E Z Y (Mz (J ((k:Int)+1)) Z (V (have a8:=L.Le.grown O ak λb e=>Ln Lr (aj.fresh b e);⟨_,Y,k+1,t,N,Z,Y,Z,a8,D,b6,bw,bx,Z,Z,Z,(by have e:(List.range (k+1)).map (λ(i:Nat)=>(AQ ms (Ba d m gs ms cs f y l) (i:Int) d).1)=((List.range k).map (λ(i:Nat)=>(AQ ms (Ba d m gs ms cs f y l) (i:Int) d).1))++[(AQ ms (Ba d m gs ms cs f y l) (k:Int) d).1]:=(by exact Fe _ _);rw [e];exact (AN.grown O al (Apart.symm ai))),(by have e:(List.range (k+1)).map (λ(i:Nat)=>(AQ ms (Ba d m gs ms cs f y l) (i:Int) d).2)=((List.range k).map (λ(i:Nat)=>(AQ ms (Ba d m gs ms cs f y l) (i:Int) d).2))++[(AQ ms (Ba d m gs ms cs f y l) (k:Int) d).2]:=(by exact Fe _ _);rw [e];exact a6),a7⟩))))))))))))))))))))))))
  ·exact Xt (Sr (Mv j Z bz (Mv c Z b0 (Az j Z (Az c Z (Az (J 0) Z (V (Rt (⟨Zr,PZ Z (v:=j) (v':=c) (v2:=J 0) Z Z Z (⟨j,c,(by (rw [Dn (aG:¬¬BA d m gs ms cs f y l=0)])),(by have e:G4 d m gs ms cs f y l=(List.range k).map (λ(i:Nat)=>(AQ ms (Ba d m gs ms cs f y l) (i:Int) d).1):=(by exact O6 ‹_› X ‹_›);rw [e];exact b1.sl),(by have e:IX d m gs ms cs f y l=(List.range k).map (λ(i:Nat)=>(AQ ms (Ba d m gs ms cs f y l) (i:Int) d).2):=(by exact RO ‹_› X ‹_›);rw [e];exact b2.sl),(B.trans r)⟩)⟩)))))))))
end Go.Ns
