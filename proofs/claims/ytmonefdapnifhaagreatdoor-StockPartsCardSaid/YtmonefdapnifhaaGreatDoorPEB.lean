/- Rules and walks, part 2 of 6. No conditions. -/
import Derived.Sort.AssemblyPlain
import Derived.Sort.LotD3
import Derived.Test.YtmonefdapnifhaaGreatDoorPEA
set_option linter.unusedVariables false
set_option linter.unusedSimpArgs false
set_option linter.unnecessarySimpa false
set_option linter.unusedSectionVars false
set_option linter.constructorNameAsVariable false
namespace Go.Ns
open Go.Conc
section
variable {P:Program} {E:F8 P} {O:Nat->aU} {ds:List Deferred} {h:V} {T:(Nat->aU)->List Deferred->V->Prop}
variable {dst:Option Nat} {ty:aV} {pos:String} {af:Array Edge} {gd:Option (Nat×Bool)}
def UponV(W:Wk P)(R:aU->V->Prop):Next->V->Prop
 | .enter f args,h=>AW W f args h R
 | .round l f tmps a c,h=>Bu W l f tmps a c h R
 | _,_=>False
def CC(W:Wk P)(fv:aU)(args:Array aU)(h:V)(R:aU->V->Prop):Prop:=
 (do let d<-Deferred.ofValue fv args;invoke d.target d.args:Sem Next).gh P h (UponV W R)
theorem CC.mono{W:Wk P}{fv:aU}{args:Array aU}{h:V}{R R':aU->V->Prop}(x:CC W fv args h R)(hr:∀v h',R v h'->R' v h'):CC W fv args h R':=by
 refine Ev _ (λa h' y=>?_) h x;cases a <;> first | exact y | exact AW.mono y hr | exact Bu.mono y hr
theorem FT{f:Operand}{args:Array Operand}{tys:Array aV}{fv:aU}{vs:Array aU}(hv:AL O f=fv)(ha:args.map (AL O)=vs)(x:CC E.wk fv vs h λv h'=>T (putS O dst v) ds h') :
  BS E ⟨dst,.call ⟨.value f,args,tys⟩,ty,pos,af,gd⟩ O ds h T:=by
 unfold BS execOp;simp only [];unfold resolve;simp only [hv,ha];refine Ev _ (λa h' y=>?_) h x;cases a <;> first | exact y | exact y.elim
theorem Dr{f x:Operand}{tys:Array aV}{fv v1:aU}(hv:AL O f=fv)(h1:AL O x=v1)(y:CC E.wk fv #[v1] h λv h'=>T (putS O dst v) ds h') :
  BS E ⟨dst,.call ⟨.value f,#[x],tys⟩,ty,pos,af,gd⟩ O ds h T:=FT hv (by simp [h1]) y
theorem BQ{W:Wk P}{g:FuncId}{fn:Func}{first cap args vs:Array aU}{R:aU->V->Prop}(hf:P.funcs[g]? =some fn)(hc:AJ fn=true)(ha:first++args++cap=vs)(x:AW W g vs h R):CC W (.func (.func g) first cap) args h R:=by
 subst ha;unfold CC;simp only [Deferred.ofValue];refine AG _ _ (Ao ?_);exact NT hf hc x
theorem Iw{l:Nat}{p:Bool}{lo:Loop}{Q:Loop->V->Prop}(hl:h l=some (p,.loop lo))(q:Q lo h):(Instr.getLoop l).gh P h Q:=by
 unfold Instr.getLoop;exact AG _ _ ⟨p,_,hl,rfl,rfl,q⟩
theorem WJ{W:Wk P}{l:Nat}{p:Bool}{lo:Loop}{args:Array aU}{R:aU->V->Prop}(hl:h l=some (p,.loop lo))(hn:args.size=lo.params.size)
  (x:Bu W l lo.fn ((lo.params.zip args).foldl (λtmps x=>tmps.setIfInBounds x.1 x.2) lo.tmps) lo.assign lo.body h R):CC W (.func (.yield l) #[] #[]) args h R:=by
 unfold CC;simp only [Deferred.ofValue];refine AG _ _ (Ao ?_);unfold invoke;simp only [];unfold Instr.yield;refine AG _ _ (Iw hl ?_);have e:#[]++args=args:=aD
 rw [e,aS (by rw [hn];simp)];exact x
def WK(Q:Post)(O:Nat->aU)(ds:List Deferred)(l:Nat)(h:V):Prop:=
 ∃lo,h l=some (true,.loop lo)/\(lo.state==.busy)=false/\match lo.pending with
  | none=>Q .normal O ds (h.set l true (.loop { lo with state:=.exhausted }))
  | some (.exit id)=>Q (.exit id) O ds (h.set l true (.loop { lo with state:=.exhausted }))
  | some .ret=>Q .ret O ds (h.set l true (.loop { lo with state:=.exhausted }))
  | some _=>False
theorem Sy{f:Operand}{params:Array Tmp}{assign body:Code}{Q:Post}(hrd:E.rd=none)
  (x:∀(t:Array aU) d l,BX t E.N O->h d=none->h l=none->l≠d->
   CC E.wk (AL O f) #[.func (.yield l) #[] #[]] ((h.set d true (.deferred (some []))).set l true (.loop { state:=.ready,pending:=none,fn:=E.fn,tmps:=t,params,assign,body,defers:=d }))
    λ_ h'=>WK Q O ({ target:=.collected d,args:=#[] } ::ds) l h'):Tr E (.rangeFunc f params assign body) O ds h Q:=by
 intro b k j aN t hb hr hl n D;refine E.wk.closed _ _ rfl λw F=>?_;have e1:(Instr.enterLoop b.fn t params assign body b.roundOf).gh P h λr h'=>∃d l,h d=none/\h l=none/\l≠d/\r=(l,[{ target:=.collected d,args:=#[] }])/\
   h'=(h.set d true (.deferred (some []))).set l true (.loop { state:=.ready,pending:=none,fn:=b.fn,tmps:=t,params,assign,body,defers:=d }):=by
  rw [hr,hrd];unfold Instr.enterLoop;refine AG _ _ (λd H=>?_);refine AG _ _ (Ao ?_);refine AG _ _ (λl g=>?_);have i:l≠d:=λe=>by subst e;rw [V.set_same] at g;cases g
  rw [V.set_ne _ _ _ i] at g;exact ⟨d,l,H,g,i,rfl,rfl⟩
 obtain ⟨r,w1,h1,p,r1,r2,d,l,H,g,i,rfl,rfl⟩:=In F e1;have y:=x t d l n H g i;rw [<-hb] at y;let mark:List Deferred:=[{ target:=.collected d,args:=#[] }];have R:(Cc b t (mark++ds) (.inRangeFunc l ::k)).eval=AL O:=funext λo=>by rw [Jb n]
 have y':(do let d<-resolve (Cc b t (mark++ds) (.inRangeFunc l ::k)).eval { callee:=.value f,args:=#[.const (.func (.yield l) #[] #[])],argTypes:=#[] } 0;invoke d.target d.args:Sem Next).gh P
   ((h.set d true (.deferred (some []))).set l true (.loop { state:=.ready,pending:=none,fn:=b.fn,tmps:=t,params,assign,body,defers:=d })) (UponV E.wk λ_ h'=>WK Q O ({ target:=.collected d,args:=#[] } ::ds) l h'):=by
  rw [R];unfold resolve;simpa [AL,CC] using y
 obtain ⟨nx,S,U,m,q1,q2,W⟩:=In r2.fits y';have hstep:stepG P E.wk.main (G (Cc b t ds (.code (.rangeFunc f params assign body) ::k)) j) w=
   GStep.after (seen P b.fn p) (stepG.apply P true (Cc b t (mark++ds) (.inRangeFunc l ::k)) j none
    (do let d<-resolve (Cc b t (mark++ds) (.inRangeFunc l ::k)).eval { callee:=.value f,args:=#[.const (.func (.yield l) #[] #[])],argTypes:=#[] } 0;invoke d.target d.args) w1):=by
  rw [A0];unfold stepG.exec;simp only [Cc,r1];rfl
 have s:∀q:Bool,∀e ∈ seen P b.fn (if q then #[] else m),e ∈ m:=λq e he=>by
  have:=mem_seen he
  cases q with
  | true=>simp at this
  | false=>simpa using this
 have u:∀q:Bool,Bf h w (seen P b.fn p++(seen P b.fn (if q then #[] else m)++ #[])) U S:=λq=>
  (r2.trans q2).sub λe he=>by
   rw [Array.append_empty,Array.mem_append] at he;rw [Array.mem_append];rcases he with he | he
   ·exact .inl (mem_seen he)
   ·exact .inr (s q e he)
 have back:∀(v:aU) h',WK Q O ({ target:=.collected d,args:=#[] } ::ds) l h'->E.wk.K (G ((Cc b t (mark++ds) (.inRangeFunc l ::k)).finish v) j) h':=by
  rintro v h' ⟨B,A,X,z⟩;show E.wk.K (G (Cc b t (mark++ds) (.endRangeFunc l ::k)) j) h';refine E.wk.closed _ _ rfl λw F=>?_;have e2:(Instr.endLoop l).gh P h' λjump h''=>jump=B.pending/\h''=h'.set l true (.loop { B with state:=.exhausted }):=by
   unfold Instr.endLoop;refine AG _ _ (Iw A ?_);rw [X];refine AG _ _ ⟨_,A,rfl,rfl,rfl,?_⟩;exact ⟨rfl,rfl⟩
  obtain ⟨jump,w3,h3,es3,p1,p2,rfl,rfl⟩:=In F e2;refine ⟨G (Cc b t (mark++ds) ((B.pending.map Item.code).toList++k)) j,w3,_,_,?_,p2.sub (es':=seen P b.fn es3++ #[]) λe he=>?_,?_⟩
  ·rw [A0];unfold stepG.exec;simp only [Cc,p1];rfl
  ·rw [Array.append_empty] at he;exact mem_seen he
  ·cases hp:B.pending with
   | none=>
    rw [hp] at z;exact D _ _ _ _ z t n
   | some c=>
    rw [hp] at z;cases c with
    | ret=>
     have:=D _ _ _ _ z t n
     exact hl.ret t _ _ k this
    | exit id=>
     have:=D _ _ _ _ z t n
     show E.wk.K (G (Cc b t (mark++ds) (.code (.exit id) ::k)) j) _;cases C:exitTo id k with
     | none=>simp only [C2,C] at this;exact hl.exit id t _ _ k C this
     | some k'=>
      simp only [C2,C] at this;exact Wk.go (Cc b t (mark++ds) k') (λw=>by rw [A0];simp [stepG.exec,Cc,G,C]) this
    | _=>exact z.elim
 cases nx with
 | enter f' args=>
  refine ⟨_,S,_,U,?_,u (b.kind==.early),W (Cc b t (mark++ds) (.inRangeFunc l ::k)) j back⟩;rw [hstep];simp only [stepG.apply,q1,if_true];rfl
 | round l' f' tmps a c=>
  refine ⟨_,S,_,U,?_,u (b.kind==.early),W (Cc b t (mark++ds) (.inRangeFunc l ::k)) j back⟩;rw [hstep];simp only [stepG.apply,q1,if_true];rfl
 | _=>exact W.elim
theorem UO{W:Wk P}{l:Nat}{f:FuncId}{tmps:Array aU}{N:Nat}{assign body:Code}{R:aU->V->Prop}(hN:tmps.size=N)
  (x:Tr ⟨W,f,some l,N⟩ assign (λi=>tmps.getD i undef) [] h λe O ds h'=>e=.normal/\∃lo,h' l=some (true,.loop lo)/\lo.state=.ready/\
   Tr ⟨W,f,some l,N⟩ body O ds (h'.set l true (.loop { lo with state:=.busy })) λe _ _ h''=>∃lo',h'' l=some (true,.loop lo')/\match e with
    | .normal=>R (.bool true) (h''.set l true (.loop { lo' with state:=.ready,pending:=none }))
    | .exit id=>R (.bool false) (h''.set l true (.loop { lo' with state:=.done,pending:=some (.exit id) }))
    | .ret=>R (.bool false) (h''.set l true (.loop { lo' with state:=.done,pending:=some .ret }))
    | _=>False):Bu W l f tmps assign body h R:=by
 intro c cs hc;let b:Frame:=Frame.round l f tmps assign body .normal;show W.K (G (Cc b tmps [] [.code assign,.beginRound,.code body]) (c ::cs)) h;have leave:∀(jump:Option Code)(v:aU)(t:Array aU)(ds:List Deferred)(k:List Item)(h'':V)(lo':Loop),h'' l=some (true,.loop lo')->
   (∀w,stepG P W.main (G (Cc b t ds k) (c ::cs)) w=GStep.after (seen P f ((Instr.endRound l jump).runT P w #[]).2) (match ((Instr.endRound l jump).runT P w #[]).1 with
    | .ok v w=>doReturn P W.main (Cc b t ds k) (c ::cs) none v w
    | .halt _ w=>.ended (.stuck "range over a function: no such loop" ((Cc b t ds k).pos P)) w))->v=.bool jump.isNone->
   R v (h''.set l true (.loop { lo' with state:=if jump.isNone then .ready else .done,pending:=jump }))->W.K (G (Cc b t ds k) (c ::cs)) h'':=by
  rintro jump v t ds k h'' lo' hlo hstep rfl hR;refine W.closed _ _ rfl λw fw=>?_;have e2:(Instr.endRound l jump).gh P h'' λv h3=>v=.bool jump.isNone/\h3=h''.set l true (.loop { lo' with state:=if jump.isNone then .ready else .done,pending:=jump }):=by
   unfold Instr.endRound;refine AG _ _ (Iw hlo ?_);refine AG _ _ ⟨_,hlo,rfl,rfl,rfl,?_⟩;exact ⟨rfl,rfl⟩
  obtain ⟨v,w3,h3,es3,p1,p2,rfl,rfl⟩:=In fw e2;refine ⟨G (c.finish (.bool jump.isNone)) cs,w3,_,_,?_,p2.sub (es':=seen P f es3++ #[]) λe he=>?_,hc _ _ hR⟩
  ·rw [hstep,p1];rfl
  ·rw [Array.append_empty] at he;exact mem_seen he
 let aN:Lv:=λj t ds h''=>∃lo',h'' l=some (true,.loop lo')/\match j with
  | none=>R (.bool true) (h''.set l true (.loop { lo' with state:=.ready,pending:=none }))
  | some (.exit id)=>R (.bool false) (h''.set l true (.loop { lo' with state:=.done,pending:=some (.exit id) }))
  | some .ret=>R (.bool false) (h''.set l true (.loop { lo' with state:=.done,pending:=some .ret }))
  | some _=>False
 have hL:Lf W b (c ::cs) aN:=by
  refine ⟨?_,?_,?_⟩
  ·rintro t ds h'' ⟨lo',h1,h2⟩;exact leave none _ t ds [] h'' lo' h1 (λw=>by rw [A0];rfl) rfl (by simpa using h2)
  ·rintro t ds h'' k ⟨lo',h1,h2⟩;exact leave (some .ret) _ t ds (.code .ret ::k) h'' lo' h1 (λw=>by rw [A0];rfl) rfl (by simpa using h2)
  ·rintro id t ds h'' k hk ⟨lo',h1,h2⟩;exact leave (some (.exit id)) _ t ds (.code (.exit id) ::k) h'' lo' h1 (λw=>by rw [A0];simp only [stepG.exec,Cc,hk,Option.elim];rfl) rfl (by simpa using h2)
 refine x b [.beginRound,.code body] (c ::cs) aN tmps rfl rfl hL ⟨hN,λi=>rfl⟩ ?_;rintro e O ds h' ⟨rfl,lo,h1,h2,h3⟩ t' ht';show W.K (G (Cc b t' ds [.beginRound,.code body]) (c ::cs)) h';refine W.closed _ _ rfl λw fw=>?_;have e3:(do (some l).elim (stuck "beginRound: no round") Instr.beginRound;pure Next.skip:Sem Next).gh P h' λnx h''=>nx=.skip/\h''=h'.set l true (.loop { lo with state:=.busy }):=by
  show Sem.gh P (do Instr.beginRound l;pure Next.skip:Sem Next) h' _;unfold Instr.beginRound;refine AG _ _ (AG _ _ (Iw h1 ?_));refine AG _ _ ⟨_,h1,rfl,rfl,rfl,?_⟩;rw [h2];exact ⟨rfl,rfl⟩
 obtain ⟨nx,w3,h4,es3,p1,p2,rfl,rfl⟩:=In fw e3;refine ⟨G (Cc b t' ds [.code body]) (c ::cs),w3,_,_,?_,p2.sub (es':=seen P f es3++ #[]) λe he=>?_,?_⟩
 ·rw [A0];unfold stepG.exec;simp only [Cc];unfold stepG.apply;have hb:b.roundOf=some l:=rfl;simp only [hb,p1,if_true];rfl
 ·rw [Array.append_empty] at he;exact mem_seen he
 ·refine h3 b [] (c ::cs) aN t' rfl rfl hL ht' ?_;rintro e σ' ds' h'' ⟨lo',g1,g2⟩ t2 ht2;cases e with
  | normal=>
   exact hL.stop t2 ds' h'' ⟨lo',g1,g2⟩
  | exit id=>exact ⟨lo',g1,g2⟩
  | ret=>exact ⟨lo',g1,g2⟩
  | _=>exact g2.elim
end
end Go.Ns
namespace Go.Ns
open Go.Conc
section
variable {P:Program} {E:F8 P} {O:Nat->aU} {ds:List Deferred} {h:V} {T:(Nat->aU)->List Deferred->V->Prop}
variable {dst:Option Nat} {ty:aV} {pos:String} {af:Array Edge} {gd:Option (Nat×Bool)}
variable {U:Type}
def FU(R:V->V->Prop):List QT->Prop
 | []=>True
 | φ ::l=>(∀v h h',R h h'->φ v h->φ v h')/\FU R l
theorem FU.mono{R:V->V->Prop}:∀{Φ:List QT},FU R Φ->∀k v h h',R h h'->Lm Φ k v h->Lm Φ k v h'
 | [],_,k,v,h,h',_,x=>by cases k <;> exact x
 | φ ::l,a,0,v,h,h',r,x=>a.1 v h h' r x
 | φ ::l,a,k+1,v,h,h',r,x=>FU.mono a.2 k v h h' r x
theorem UP{R:V->V->Prop}(rr:∀h,R h h)(rt:∀a b c,R a b->R b c->R a c){id:Nat}{l:List Oper}{Q:Post}(n:Nat)(cls:List (List Nat))(Φ:List QT)
  (hm:P.follows .mixedOrders=true) (ok:Ob E.N l n cls=true) (mono:FU R Φ) (x:Lp R E l n Φ O ds h Q n 0 l cls):Tr E (.region id l.toArray true) O ds h Q:=
 tr_draw R n cls Φ hm ok rr rt mono.mono x
theorem Oi{id:Nat}{l:List Oper}{Q:Post}(n:Nat)(cls:List (List Nat))(Φ:List QT)
  (hm:P.follows .mixedOrders=true) (ok:Ob E.N l n cls=true) (mono:FU V.Le Φ) (x:Lp V.Le E l n Φ O ds h Q n 0 l cls):Tr E (.region id l.toArray true) O ds h Q:=
 UP V.Le.refl (λ_ _ _=>V.Le.trans) n cls Φ hm ok mono x
theorem trL_opg{ops:Array Oper}{o:Oper}{l:List Oper}{Q:Post}{j d:Nat}{want:Bool}{oj:Oper}(hg:o.guard=some (j,want))(hj:ops[j]? =some oj)(hjd:oj.dst=some d)(hv:O d=.bool want)(hdj:Nat.blt d E.N=true)
  (hdf:E.rd=none\/EK o.op=false) (hd:DK o.dst E.N=true) (x:BS E o O ds h λσ' ds' h'=>DI E ops l σ' ds' h' Q):DI E ops (o ::l) O ds h Q:=Si hg hj hjd hv hdj hdf hd x
theorem Ay{ops:Array Oper}{o:Oper}{l:List Oper}{Q:Post}{j d:Nat}{want:Bool}{oj:Oper}(hg:o.guard=some (j,want))(hj:ops[j]? =some oj)(hjd:oj.dst=some d)(hv:O d=undef)(hdj:Nat.blt d E.N=true)
  (hd:DK o.dst E.N=true) (x:DI E ops l (putS O o.dst undef) ds h Q):DI E ops (o ::l) O ds h Q:=by
 intro i b k n p t g q r s c u;have m:ops[i]? =some o:=by simpa using (g 0).symm
 have v:yielded ops t j=none:=by
  have a:d<t.size:=by rw [c.1];exact Nat.blt_eq▸hdj
  have e:=c.2 d;rw [hv] at e;have y:t[d]? =some undef:=by
   simp only [Array.getD_eq_getD_getElem?,Array.getElem?_eq_getElem a,Option.getD_some] at e;rw [Array.getElem?_eq_getElem a,e]
  simp [yielded,hj,hjd,y,undef]
 refine Wk.go (Cc b (ZA t o.dst undef) ds (.inRegion ops (List.range' (i+1) l.length) ::k)) (λw=>?_) ?_
 ·have f:((ops[i]?).map (Region.wanted · (yielded ops t))).getD false=false:=by
   simp only [m,Option.map_some,Option.getD_some,Region.wanted,hg,v];cases want <;> rfl
  rw [<-DJ m (rest:=List.range' (i+1) l.length),List.length_cons,List.range'_succ,A0];unfold stepG.exec;simp only [Cc,f,Bool.false_eq_true,↓reduceIte];rfl
 ·exact x (i+1) b k n p _ (λj=>by have:=g (j+1);simpa [Nat.add_assoc,Nat.add_comm 1 j] using this) q r s (c.putS hd undef) u
theorem Ar{ops:Array Oper}{l:List Oper}{Q:Post}{p:Prop}[Decidable p](a:p->DI E ops l O ds h Q)(a':¬p->DI E ops l O ds h Q):DI E ops l O ds h Q:=if h:p then a h else a' h
theorem E0{ops:Array Oper}{l:List Oper}{Q:Post}{b:Bool}(a:b=true->DI E ops l O ds h Q)(a':b=false->DI E ops l O ds h Q):DI E ops l O ds h Q:=by
 cases b with
 | true=>exact a rfl
 | false=>exact a' rfl
theorem Ix{f:Fn}{x1:Operand}{v1:aU}(h1:AL O x1=v1)(k:T (putS O dst (.func f #[] #[v1])) ds h):BS E ⟨dst,.makeFunc f #[] #[x1],ty,pos,af,gd⟩ O ds h T:=Ek (by simp [h1]) k
theorem EM{f:Fn}{x1 x2:Operand}{v1 v2:aU}(h1:AL O x1=v1)(h2:AL O x2=v2)(k:T (putS O dst (.func f #[] #[v1,v2])) ds h):BS E ⟨dst,.makeFunc f #[] #[x1,x2],ty,pos,af,gd⟩ O ds h T:=Ek (by simp [h1,h2]) k
theorem G2{f:Fn}{x1 x2 x3:Operand}{v1 v2 v3:aU}(h1:AL O x1=v1)(h2:AL O x2=v2)(h3:AL O x3=v3)(k:T (putS O dst (.func f #[] #[v1,v2,v3])) ds h):BS E ⟨dst,.makeFunc f #[] #[x1,x2,x3],ty,pos,af,gd⟩ O ds h T:=Ek (by simp [h1,h2,h3]) k
theorem Iy{f:Fn}{x1 x2 x3 x4:Operand}{v1 v2 v3 v4:aU}(h1:AL O x1=v1)(h2:AL O x2=v2)(h3:AL O x3=v3)(h4:AL O x4=v4)(k:T (putS O dst (.func f #[] #[v1,v2,v3,v4])) ds h):BS E ⟨dst,.makeFunc f #[] #[x1,x2,x3,x4],ty,pos,af,gd⟩ O ds h T:=Ek (by simp [h1,h2,h3,h4]) k
theorem Lq{f:Fn}{x1 x2 x3 x4 x5:Operand}{v1 v2 v3 v4 v5:aU}(h1:AL O x1=v1)(h2:AL O x2=v2)(h3:AL O x3=v3)(h4:AL O x4=v4)(h5:AL O x5=v5)(k:T (putS O dst (.func f #[] #[v1,v2,v3,v4,v5])) ds h):BS E ⟨dst,.makeFunc f #[] #[x1,x2,x3,x4,x5],ty,pos,af,gd⟩ O ds h T:=Ek (by simp [h1,h2,h3,h4,h5]) k
theorem DC{v:aU}{p:Prop}[Decidable p](e:v=.bool (decide p))(g:v=.bool false):¬p:=by
 rw [e] at g;simpa using g
theorem AV.fresh{h0 h:V}{v:aU}{t:aV}{n:Nat}{enc:U->Array aU}{xs:List U}(x:AV h0 h v t n enc xs):∀b,back v=some b->h0 b=none:=by
 intro b a;rcases x with ⟨rfl,_⟩ | ⟨f,d,c,rfl,e,_⟩
 ·cases a
 ·simp [back] at a;subst a;exact e
theorem AV.inDom{h0 h:V}{v:aU}{t:aV}{n:Nat}{enc:U->Array aU}{xs:List U}(x:AV h0 h v t n enc xs):∀b,back v=some b->∃o,h b=some o:=by
 intro b a;rcases x with ⟨rfl,_⟩ | ⟨f,d,c,rfl,g,e,_⟩
 ·cases a
 ·simp [back] at a;subst a;exact ⟨_,e⟩
def Ba(v:aU)(b:Nat):Prop:=back v≠some b
def Apart(v w:aU):Prop:=∀b,back v=some b->back w≠some b
theorem Apart.symm{v w:aU}(a:Apart v w):Apart w v:=λb h c=>a b c h
theorem Ba.nil{b:Nat}:Ba (.slice none 0 0) b:=by intro h;cases h
theorem Apart.nil{w:aU}:Apart (.slice none 0 0) w:=by intro b h;cases h
theorem Ba.old{h0 h:V}{v:aU}{t:aV}{n:Nat}{enc:U->Array aU}{xs:List U}(x:AV h0 h v t n enc xs){b:Nat}{o:Bool×Obj}(hb:h0 b=some o):Ba v b:=λe=>by
 rw [x.fresh b e] at hb;cases hb
theorem Ba.new{h0 h:V}{v:aU}{t:aV}{n:Nat}{enc:U->Array aU}{xs:List U}(x:AV h0 h v t n enc xs){b:Nat}(hb:h b=none):Ba v b:=λe=>by
 obtain ⟨o,a⟩:=x.inDom b e;rw [hb] at a;cases a
def HT(h h':V)(v v':aU):Prop:=(∀b o,h b=some o->back v≠some b->h' b=some o)/\(back v'=back v\/((∃r,back v'=some r/\h r=none)/\∀b o,h b=some o->h' b=some o))
theorem Ba.grown{h h':V}{v v':aU}(g:HT h h' v v'){b:Nat}{o:Bool×Obj}(hb:h b=some o)(x:Ba v b):Ba v' b:=λe=>by
 rcases g.2 with q | ⟨⟨r,a,c⟩,_⟩
 ·exact x (q▸e)
 ·rw [a] at e;cases e;rw [c] at hb;cases hb
theorem Apart.grown{h h' h0:V}{v v' w:aU}(g:HT h h' v v'){t:aV}{n:Nat}{enc:U->Array aU}{xs:List U}(y:AV h0 h w t n enc xs)(x:Apart v w):Apart v' w:=λb e a=>by
 obtain ⟨o,c⟩:=y.inDom b a;rcases g.2 with q | ⟨⟨r,d,f⟩,_⟩
 ·exact x b (q▸e) a
 ·rw [d] at e;cases e;rw [f] at c;cases c
theorem AV.grown{h h' h0:V}{v v' w:aU}(g:HT h h' v v'){t:aV}{n:Nat}{enc:U->Array aU}{xs:List U}(y:AV h0 h w t n enc xs)(x:Apart v w):AV h0 h' w t n enc xs:=
 y.keep λb o a c=>g.1 b o c λe=>x b e a
theorem V.Le.grown{h1 h h':V}{v v':aU}(g:HT h h' v v')(l:h1.Le h)(f:∀b,back v=some b->h1 b=none):h1.Le h':=λb p o a=>by
 obtain ⟨c,d,i⟩:=l b p o a;exact ⟨c,g.1 b _ d λe=>(by rw [f b e] at a;cases a),i⟩
theorem C3{h h':V}{v v':aU}(g:HT h h' v v'){b:Nat}{o:Bool×Obj}(hb:h b=some o)(x:Ba v b):h' b=some o:=g.1 b o hb x
theorem AV.stored{h0 h h':V}{v:aU}{t:aV}{n:Nat}{enc:U->Array aU}{xs:List U}(y:AV h0 h v t n enc xs){r:Nat}(x:Ba v r)(ho:∀b,b≠r->h' b=h b):AV h0 h' v t n enc xs:=
 y.keep λb o c a=>by rw [ho b λe=>by subst e;exact x c];exact a
theorem CS{s x:aV}{o1 o2:Operand}{h0:V}{v w:aU}{e n bytes:Nat}{enc:U->Array aU}{xs ys:List U}(ht:JT P s x=some (e,n,bytes))(h1:AL O o1=v)(h2:AL O o2=w)
  (hv:AV h0 h v e n enc xs) (hw:AD h w n enc ys) (l0:∀r,h r=none->h0 r=none) (hb:(2*(xs.length+ys.length)+512)*bytes<=2 ^ 48) (hfine:∀y ∈ ys,(enc y).toList.all (·.oneCell')=true)
  (k:∀v' h',AV h0 h' v' e n enc (xs++ys)->HT h h' v v'->T (putS O dst v') ds h') :
  BS E ⟨dst,.call ⟨.builtin .append,#[o1,o2],#[s,x]⟩,ty,pos,af,gd⟩ O ds h T:=
 ZE ht h1 h2 hv hw l0 hb hfine λv' h' a b c=>k v' h' a ⟨b,c⟩
theorem Ab{h0:V}{t:aV}{x ix:Operand}{n:Nat}{enc:U->Array aU}{xs:List U}{v:aU}{kd:IntKind}{i:Int}(ht:Dl P t=some n)(hs:AD h0 v n enc xs)(hx:AL O x=v)(hi:AL O ix=.int kd i)(h0':0<=i)(h1:i<xs.length)
  (k:∀b off,AN h0 b off n (enc (xs[i.toNat]' Y))->T (putS O dst (.pointer (some ⟨b,off,none⟩))) ds h):BS E ⟨dst,.indexAddr t x ix,ty,pos,af,gd⟩ O ds h T:=by
 obtain ⟨a,c,rfl,_,_,d⟩:=hs;obtain ⟨b,off,rfl,e⟩:=d i.toNat Y;exact AK ht hx hi h0' h1 (k b _ e)
theorem AV.built{h h':V}{r:Nat}{t:aV}{n:Nat}{enc:U->Array aU}{xs:List U}{c:Array aU}{m:Nat}(hr:h r=none)(hb:h' r=some (true,.cells c t (0,0)))(hm:xs.length=m)(hml:Nat.ble m 16777216=true)(hn:∀x ∈ xs,(enc x).size=n)(hc:c.toList=C7 enc xs) :
  AV h h' (.slice (some ⟨r,0,none⟩) m m) t n enc xs:=by
 subst hm
 have:=Nat.le_of_ble_eq_true hml
 refine .inr ⟨r,_,c,rfl,hr,hb,?_,Nat.le_refl _,Y,?_,hn⟩
 ·rw [<-EI hn,<-hc,Array.length_toList]
 ·rw [hc,<-EI hn,List.take_length]
theorem Aa{t:aV}{len n:Nat}{z cells:Array aU}{e:aV}{parts:Array (Nat×Operand)}(hs:Dj P t=some (n,z,e))(hl:len*n<=2 ^ 24)(hn:(len*n=0)=False)
  (hf:Instr.fill (λi=>some (i*n,n)) ((Array.range (len*n)).map (z[·%z.size]!)) (parts.map λ(i,x)=>(i,AL O x)).toList=some cells)
  (k:∀r h',h r=none->h.Le h'->h' r=some (true,.cells cells e (0,0))->(∀b,b≠r->h' b=h b)->T (putS O dst (.slice (some ⟨r,0,none⟩) len len)) ds h'):BS E ⟨dst,.buildSlice t len parts,ty,pos,af,gd⟩ O ds h T:=
 QS hs hl hn hf λr a=>k r _ a (V.Le.new a _ _) (V.set_same _ _ _ _) λb c=>V.set_ne _ _ _ c
theorem Oj{s x:aV}{o1 o2:Operand}{b off dl cap n:Nat}{e:aV}{enc:U->Array aU}{ys:List U}{w:aU}{c c':Array aU}(ht:Dl P s=some n)(h1:AL O o1=.slice (some ⟨b,off,none⟩) dl cap)(h2:AL O o2=w)
  (hb:h b=some (true,.cells c e (0,0))) (hn:off+dl*n<=c.size) (hw:AD h w n enc ys) (hl:ys.length<=dl) (hfine:∀y ∈ ys,(enc y).toList.all (·.oneCell')=true) (hsz:∀y ∈ ys,(enc y).size=n) (hc:BV c off (C7 enc ys)=c')
  (k:∀h',h' b=some (true,.cells c' e (0,0))->(∀x,x≠b->h' x=h x)->T (putS O dst (.int .i64 ys.length)) ds h') :
  BS E ⟨dst,.call ⟨.builtin .copy,#[o1,o2],#[s,x]⟩,ty,pos,af,gd⟩ O ds h T:=
 ok_copy ht h1 h2 hb hn hw hl hfine hsz (k _ (by rw [hc];exact V.set_same _ _ _ _) λx a=>V.set_ne _ _ _ a)
theorem Jg{t:aV}{n:Nat}{z:Array aU}{e:aV}(hs:Dj P t=some (n,z,e))(k:∀r h',h r=none->h.Le h'->h' r=some (true,.cells #[] e (0,0))->(∀b,b≠r->h' b=h b)->T (putS O dst (.slice (some ⟨r,0,none⟩) 0 0)) ds h') :
  BS E ⟨dst,.buildSlice t 0 #[],ty,pos,af,gd⟩ O ds h T:=by
 unfold BS execOp;refine FE ?_;unfold Dj at hs;unfold Instr.buildSlice;cases c:P.underlying t with
 | none=>rw [c] at hs;cases hs
 | some d=>
  rw [c] at hs;cases d <;> first | (cases hs;done) | skip
  rename_i f
  simp only at hs;cases a:Bz P f with
  | none=>rw [a] at hs;cases hs
  | some x=>
   cases g:Bb P f with
   | none=>rw [a,g] at hs;cases hs
   | some o=>
    rw [a,g] at hs;simp only [Option.some.injEq,Prod.mk.injEq] at hs;obtain ⟨rfl,rfl,rfl⟩:=hs;refine AG _ _ (Ak c ?_);refine AG _ _ (GD (by rw [a];rfl) ?_);rw [Nat.zero_mul,aS aC];dsimp only;rw [aT rfl];refine AG _ _ (Ao ?_);have l:Instr.fill (λi=>some (i*x.snd,x.snd)) (Array.map (λy=>(#[]:Array aU)[y%(#[]:Array aU).size]!) (Array.range 0)) (Array.map (λy:Nat×Operand=>(y.fst,AL O y.snd)) #[]).toList=some #[]:=by
     simp [Instr.fill]
    rw [l];dsimp only;refine AG _ _ ?_;unfold newRow;refine AG _ _ (λr j=>?_);exact k r _ j (V.Le.new j _ _) (V.set_same _ _ _ _) λb m=>V.set_ne _ _ _ m
end
end Go.Ns
namespace Go.Ns
open Go.Conc
section
variable {P:Program} {E:F8 P}
def G3:Op->Option (List Operand)
 | .move x | .assign x | .box _ x | .unOp _ _ x | .convert _ _ x | .load _ x | .fieldAddr _ x _ | .field _ x _ | .nilCheck x | .extract x _ | .makeInterface _ x | .makeChan _ x | .typeAssert x _ _ _=>some [x]
 | .pick c a b=>some [c,a,b]
 | .alloc _=>some []
 | .build _ ps | .buildSlice _ _ ps=>some (ps.toList.map (·.2))
 | .store _ a x | .binOp _ _ a x _ | .indexAddr _ a x | .index _ a x | .lookup _ a x _ | .makeSlice _ a x=>some [a,x]
 | .makeFunc _ f c=>some (f.toList++c.toList)
 | .makeMap _ r=>some r.toList
 | .slice _ x lo hi mx=>some (x ::(lo.toList++(hi.toList++mx.toList)))
 | .mapUpdate _ m k x=>some [m,k,x]
 | .call c=>some (c.args.toList++match c.callee with | .value f=>[f] | .invoke r _=>[r] | .builtin _=>[])
 | _=>none
theorem Ok{ρ ρ':Operand->aU}{a:Array Operand}(e:∀x ∈ a.toList,ρ x=ρ' x):a.map ρ=a.map ρ':=by
 apply Array.toList_inj.1;rw [Array.toList_map,Array.toList_map];exact List.map_congr_left e
theorem UQ{ρ ρ':Operand->aU}{a:Array (Nat×Operand)}(e:∀x ∈ a.toList.map (·.2),ρ x=ρ' x):(a.map λ(i,x)=>(i,ρ x))=a.map λ(i,x)=>(i,ρ' x):=by
 apply Array.toList_inj.1;rw [Array.toList_map,Array.toList_map];exact List.map_congr_left λx b=>by
  have:=e x.2 (List.mem_map.2 ⟨x,b,rfl⟩)
  obtain ⟨i,y⟩:=x;exact congrArg (Prod.mk i) this
theorem Yb{ρ ρ':Operand->aU}{a:Option Operand}(e:∀x ∈ a.toList,ρ x=ρ' x):a.map ρ=a.map ρ':=by
 cases a with
 | none=>rfl
 | some x=>simp [e x aD]
theorem Ls{ρ ρ':Operand->aU}{o:Oper}{xs:List Operand}(hx:G3 o.op=some xs)(e:∀x ∈ xs,ρ x=ρ' x):execOp ρ o=execOp ρ' o:=by
 obtain ⟨h,op,k,i,l,p⟩:=o;cases op <;> simp only [G3,Option.some.injEq,reduceCtorEq] at hx
 case call c=>
  subst hx;have j:=Ok (a:=c.args) λx hx=>e x (List.mem_append_left _ hx);simp only [execOp,resolve,j];cases d:c.callee with
  | builtin b=>rfl
  | value f=>simp only [];rw [e f (List.mem_append_right _ (by rw [d];simp))]
  | invoke r m=>simp only [];rw [e r (List.mem_append_right _ (by rw [d];simp))]
 case makeFunc f a b=>
  subst hx;simp only [execOp];rw [Ok (a:=a) λx hx=>e x (List.mem_append_left _ hx),Ok (a:=b) λx hx=>e x (List.mem_append_right _ hx)]
 case slice t x lo hi mx=>
  subst hx;simp only [execOp];rw [e x aD,Yb (a:=lo) λy g=>e y aF,Yb (a:=hi) λy g=>e y aF,Yb (a:=mx) λy g=>e y aF]
 case build t ps=>subst hx;simp only [execOp];rw [UQ e]
 case buildSlice t n ps=>subst hx;simp only [execOp];rw [UQ e]
 case makeMap t r=>subst hx;simp only [execOp];rw [Yb e]
 all_goals
  subst hx;simp only [List.mem_cons,or_false,forall_eq_or_imp,forall_eq,List.not_mem_nil,false_implies,implies_true] at e;simp [execOp,e]
def Hs(xs:List Operand):List Nat:=xs.filterMap λx=>match x with | .tmp t=>some t | _=>none
theorem NW{O σ':Nat->aU}{xs:List Operand}(e:∀t ∈ Hs xs,O t=σ' t):∀x ∈ xs,AL O x=AL σ' x:=λx a=>by
 cases x with
 | tmp t=>exact e t (List.mem_filterMap.2 ⟨_,a,rfl⟩)
 | const v=>rfl
 | global g=>rfl
 | func f=>rfl
def Kj:Op->Bool
 | .call c=>match c.callee with
  | .builtin b=>b==.len || b==.cap || b==.min || b==.max
  | _=>false
 | .move _ | .assign _ | .nilCheck _ | .pick .. | .build .. | .load .. | .binOp .. | .unOp .. | .convert .. | .makeFunc .. | .fieldAddr .. | .field .. | .indexAddr .. | .index .. | .extract .. | .lookup .. | .slice .. | .makeInterface .. | .typeAssert .. =>true
 | _=>false
theorem KE{β:Type}{s:Sem β}{f:β->aU}{h:V}{Q:Next->V->Prop}:(s.bind λx=>(Sem.pure (Next.value (f x)):Sem Next)).gh P h Q->(s.bind λx=>(Sem.pure (Next.value (f x)):Sem Next)).gh P h λa h'=>Q a h'/\∃v,a=.value v:=by
 induction s generalizing h with
 | pure a=>intro x;exact ⟨x,_,rfl⟩
 | load m a k b=>rintro ⟨i,j,p,c,t,f,v,e,d,z⟩;exact ⟨i,j,p,c,t,f,v,e,d,b v z⟩
 | store m a v k b=>rintro ⟨i,j,u,c,t,f,e,d,g,z⟩;exact ⟨i,j,u,c,t,f,e,d,g,b z⟩
 | new o k b=>intro x r w;exact b r (x r w)
 | shape r k b=>rintro ⟨p,c,t,f,y,z⟩;exact ⟨p,c,t,f,y,b _ z⟩
 | freeze a n k b=>
  rintro (⟨y,z⟩ | ⟨y,c,t,f,d,z⟩)
  ·exact .inl ⟨y,b z⟩
  ·exact .inr ⟨y,c,t,f,d,b z⟩
 | frozen a k b=>rintro ⟨p,c,t,f,y,z⟩;exact ⟨p,c,t,f,y,b _ z⟩
 | getObj r k b=>rintro ⟨p,o,e,d,g,z⟩;exact ⟨p,o,e,d,g,b _ z⟩
 | setObj r o k b=>rintro ⟨A,e,d,l,g,z⟩;exact ⟨A,e,d,l,g,b z⟩
 | choose q k b=>rintro ⟨y,z⟩;exact ⟨λx=>b _ (y x),λx t=>b _ (z x t)⟩
 | sys c k b=>intro x;exact x.elim
 | program k b=>intro x;exact b _ x
 | mark m k b=>rintro ⟨y,z⟩;exact ⟨y,b z⟩
 | halt x=>intro y;exact y.elim
def HU(P:Program)(e:Sem Next):Prop:=∀(h:V)(Q:Next->V->Prop),e.gh P h Q->e.gh P h λa h'=>Q a h'/\∃v,a=.value v
theorem HU.bind{β:Type}{s:Sem β}{f:β->Sem Next}(hf:∀a,HU P (f a)):HU P (s.bind f):=by
 induction s with
 | pure a=>exact hf a
 | load m a k b=>rintro h Q ⟨i,j,p,c,t,f,v,e,d,z⟩;exact ⟨i,j,p,c,t,f,v,e,d,b v _ _ z⟩
 | store m a v k b=>rintro h Q ⟨i,j,u,c,t,f,e,d,g,z⟩;exact ⟨i,j,u,c,t,f,e,d,g,b _ _ z⟩
 | new o k b=>intro h Q x r w;exact b r _ _ (x r w)
 | shape r k b=>rintro h Q ⟨p,c,t,f,y,z⟩;exact ⟨p,c,t,f,y,b _ _ _ z⟩
 | freeze a n k b=>
  rintro h Q (⟨y,z⟩ | ⟨y,c,t,f,d,z⟩)
  ·exact .inl ⟨y,b _ _ z⟩
  ·exact .inr ⟨y,c,t,f,d,b _ _ z⟩
 | frozen a k b=>rintro h Q ⟨p,c,t,f,y,z⟩;exact ⟨p,c,t,f,y,b _ _ _ z⟩
 | getObj r k b=>rintro h Q ⟨p,o,e,d,g,z⟩;exact ⟨p,o,e,d,g,b _ _ _ z⟩
 | setObj r o k b=>rintro h Q ⟨A,e,d,l,g,z⟩;exact ⟨A,e,d,l,g,b _ _ z⟩
 | choose q k b=>rintro h Q ⟨y,z⟩;exact ⟨λx=>b _ _ _ (y x),λx t=>b _ _ _ (z x t)⟩
 | sys c k b=>intro h Q x;exact x.elim
 | program k b=>intro h Q x;exact b _ _ _ x
 | mark m k b=>rintro h Q ⟨y,z⟩;exact ⟨y,b _ _ z⟩
 | halt x=>intro h Q y;exact y.elim
theorem HU.value(v:aU):HU P (pure (.value v)):=λ_ _ x=>⟨x,v,rfl⟩
theorem leaf_val{ρ:Operand->aU}{o:Oper}(hv:Kj o.op=true){h:V}{Q:Next->V->Prop}(x:(execOp ρ o).gh P h Q):(execOp ρ o).gh P h λa h'=>Q a h'/\∃v,a=.value v:=by
 obtain ⟨d,op,i,g,j,k⟩:=o;cases op
 case nilCheck a=>
  have l:HU P (runtimePanic .nilDeref:Sem Next):=λ_ _ y=>by first | exact y.elim | exact HU.bind (λ_=>λ_ _ z=>z.elim) _ _ y
  have t:HU P (execOp ρ ⟨d,.nilCheck a,i,g,j,k⟩):=by
   unfold execOp;dsimp only;split
   ·exact l
   ·exact l
   ·exact l
   ·split
    ·exact l
    ·refine HU.bind λp=>HU.bind λr=>?_;split
     ·exact HU.bind λ_=>HU.value _
     ·exact HU.value _
    ·exact HU.value _
   ·exact HU.value _
  exact t _ _ x
 case call c=>
  simp only [Kj] at hv;have e:∀s:Sem aU,execOp ρ ⟨d,.call c,i,g,j,k⟩=s.bind (λx=>Sem.pure (Next.value x))->(execOp ρ ⟨d,.call c,i,g,j,k⟩).gh P h λa h'=>Q a h'/\∃v,a=.value v:=λs q=>by
   rw [q] at x ⊢;exact KE (f:=λx=>x) x
  cases n:c.callee with
  | value f=>rw [n] at hv;cases hv
  | invoke r m=>rw [n] at hv;cases hv
  | builtin b=>
   rw [n] at hv;have q:execOp ρ ⟨d,.call c,i,g,j,k⟩=builtin b c.argTypes i (c.args.map fun | .const _=>true | _=>false) (c.args.map ρ):=by
    show (resolve ρ c i).bind _=_;unfold resolve;rw [n];rfl
   cases b <;> first | (simp at hv;done) | exact e _ q
 all_goals first | (simp [Kj] at hv;done) | skip
 all_goals first | exact KE (s:=Sem.pure _) (f:=λ_=>_) x | exact KE (f:=λx=>x) x | exact KE (β:=Bool) x
theorem V.Le.get{h h':V}(l:h.Le h'){b:Nat}{x:Bool×Obj}(hb:h b=some x):h' b=some x:=l.keep (p:=x.1) (o:=x.2) hb rfl
theorem V.Le.of{h h':V}(x:∀b y,h b=some y->h' b=some y):h.Le h':=λb p o a=>⟨o,x b _ a,.inl rfl⟩
def ZF(h' h2:V):V:=λb=>match h' b with
 | some x=>some x
 | none=>h2 b
theorem Rc{h h2:V}(l:h.Le h2):ZF h h2=h2:=funext λb=>by
 unfold ZF;split
 ·rename_i x a;exact (l.get a).symm
 ·rfl
theorem V.Le.set2{h h2:V}(l:h.Le h2)(r:Nat)(p:Bool)(o:Obj):(h.set r p o).Le (h2.set r p o):=.of λb y a=>by
 by_cases e:b=r
 ·subst e;rw [V.set_same] at a ⊢;exact a
 ·rw [V.set_ne h p o e] at a;rw [V.set_ne h2 p o e];exact l.get a
def UR(h h':V):Prop:=∀b,(∃x,h b=some x)->∃x,h' b=some x
theorem Lt{h h' h2:V}{r:Nat}{p:Bool}{o:Obj}(d:UR (h.set r p o) h'):ZF h' (h2.set r p o)=ZF h' h2:=funext λb=>by
 unfold ZF;by_cases e:b=r
 ·subst e;obtain ⟨x,a⟩:=d b ⟨_,V.set_same h b p o⟩;rw [a]
 ·rw [V.set_ne h2 p o e]
theorem UR.set{h h':V}{r:Nat}{p:Bool}{o:Obj}(d:UR (h.set r p o) h'):UR h h':=λb ⟨x,a⟩=>by
 by_cases e:b=r
 ·subst e;exact d b ⟨_,V.set_same h b p o⟩
 ·exact d b ⟨x,by rw [V.set_ne h p o e];exact a⟩
theorem gh_over{U:Type}(e:Sem U){Q:U->V->Prop}:∀{h h2:V},h.Le h2->e.gh P h Q->e.gh P h2 λa h3=>∃h',UR h h'/\Q a h'/\h3=ZF h' h2:=by
 induction e with
 | pure a=>intro h h2 l x;exact ⟨h,λ_ y=>y,x,(Rc l).symm⟩
 | load m a k b=>rintro h h2 l ⟨s,u,p,c,t,f,v,i,g,z⟩;exact ⟨s,u,p,c,t,f,v,l.get i,g,b v l z⟩
 | store m a v k b=>
  rintro h h2 l ⟨s,u,C,c,t,f,i,g,j,z⟩;exact ⟨s,u,C,c,t,f,l.get i,g,j,Ev _ (λ_ _ ⟨h',d,q,r⟩=>⟨h',d.set,q,r.trans (Lt d)⟩) _ (b (l.set2 _ _ _) z)⟩
 | new o k b=>
  intro h h2 l x r B;have w:h r=none:=by
   cases D:h r with
   | none=>rfl
   | some y=>rw [l.get D] at B;cases B
  exact Ev _ (λ_ _ ⟨h',d,q,r⟩=>⟨h',d.set,q,r.trans (Lt d)⟩) _ (b r (l.set2 _ _ _) (x r w))
 | shape r k b=>rintro h h2 l ⟨p,c,t,f,y,z⟩;exact ⟨p,c,t,f,l.get y,b _ l z⟩
 | freeze a n k b=>
  rintro h h2 l (⟨y,z⟩ | ⟨y,c,t,f,g,z⟩)
  ·exact .inl ⟨y,b l z⟩
  ·exact .inr ⟨y,c,t,f,l.get g,Ev _ (λ_ _ ⟨h',d,q,r⟩=>⟨h',d.set,q,r.trans (Lt d)⟩) _ (b (l.set2 _ _ _) z)⟩
 | frozen a k b=>rintro h h2 l ⟨p,c,t,f,y,z⟩;exact ⟨p,c,t,f,l.get y,b _ l z⟩
 | getObj r k b=>rintro h h2 l ⟨p,o,i,g,j,z⟩;exact ⟨p,o,l.get i,g,j,b _ l z⟩
 | setObj r o k b=>
  rintro h h2 l ⟨F,i,g,A,j,z⟩;exact ⟨F,l.get i,g,A,j,Ev _ (λ_ _ ⟨h',d,q,r⟩=>⟨h',d.set,q,r.trans (Lt d)⟩) _ (b (l.set2 _ _ _) z)⟩
 | choose q k b=>rintro h h2 l ⟨y,z⟩;exact ⟨λx=>b _ l (y x),λx t=>b _ l (z x t)⟩
 | sys c k b=>intro h h2 l x;exact x.elim
 | program k b=>intro h h2 l x;exact b _ l x
 | mark m k b=>rintro h h2 l ⟨y,z⟩;exact ⟨y,b l z⟩
 | halt x=>intro h h2 l y;exact y.elim
def US(E:F8 P)(o:Oper)(O:Nat->aU)(ds:List Deferred)(h:V)(v:aU):Prop:=BS E o O ds h λσ' ds' h'=>σ'=putS O o.dst v/\ds'=ds/\h'=h
theorem US.move{o:Oper}{xs:List Operand}{O σ2:Nat->aU}{ds:List Deferred}{h h2:V}{v:aU}(hv:Kj o.op=true)(hx:G3 o.op=some xs)(e:∀t ∈ Hs xs,O t=σ2 t)(l:h.Le h2)
  (y:US E o O ds h v):US E o σ2 ds h2 v:=by
 unfold US BS at y ⊢;rw [<-Ls hx (NW e)];refine Ev _ ?_ _ (gh_over _ l (leaf_val hv y));rintro a f ⟨g,_,⟨q,i,rfl⟩,rfl⟩;obtain ⟨b,_,rfl⟩:=q;refine ⟨?_,rfl,Rc l⟩;cases c:o.dst with
 | none=>rfl
 | some d=>
  have:=congrFun b d
  simp only [c,putS,upd_same] at this;rw [this]
theorem BS.move{o:Oper}{xs:List Operand}{O σ2:Nat->aU}{ds:List Deferred}{h:V}{T T2:(Nat->aU)->List Deferred->V->Prop}(hx:G3 o.op=some xs)(e:∀t ∈ Hs xs,O t=σ2 t)
  (ht:∀x ds' h',T (putS O o.dst x) ds' h'->T2 (putS σ2 o.dst x) ds' h') (y:BS E o O ds h T):BS E o σ2 ds h T2:=by
 unfold BS at y ⊢;rw [<-Ls hx (NW e)];refine Ev _ (λb h' q=>?_) _ y;cases b <;> first | exact ht _ _ _ q | exact AW.mono q λv a r=>ht _ _ _ r | exact Bu.mono q λv a r=>ht _ _ _ r | exact q
inductive Kd where
 | p | r | e | w | a | l | b
 deriving DecidableEq
def Kd.fix:Kd->Bool
 | .a | .l | .b=>false
 | _=>true
def isB:aU->Bool->Bool
 | .bool is,w=>is==w
 | _,_=>false
def Gd(l:List Oper)(o:Oper)(O:Nat->aU)(b:Bool):Prop:=match o.guard with
 | none=>b=true
 | some (g,w)=>∃og d is,l[g]? =some og/\og.dst=some d/\O d=is/\b=isB is w
theorem Gd.iff{l:List Oper}{o:Oper}{O:Nat->aU}{b:Bool}(x:Gd l o O b):Ck l o O↔b=true:=by
 unfold Gd at x;unfold Ck;cases a:o.guard with
 | none=>rw [a] at x;simp only at x;simp [x]
 | some y=>
  obtain ⟨g,w⟩:=y;rw [a] at x;obtain ⟨h,d,is,c,e,f,rfl⟩:=x;simp only [c,e,f];cases is <;> simp [isB]
def Gw(fl:Bool)(h hx:V):Prop:=h.Le hx/\(fl=false->hx=h)
theorem Gw.refl(fl:Bool)(h:V):Gw fl h h:=⟨V.Le.refl h,λ_=>rfl⟩
def zOf(P:Program)(t:aV):Array aU:=(Bb P t).getD #[]
def skS:Kd->(Nat->aU)->Option Nat->Nat->aU
 | .l,O,_=>O
 | _,O,d=>putS O d undef
def TD(E:F8 P)(l:List Oper)(n:Nat)(fl:Bool)(hs:V)(ds:List Deferred)(Lw:Nat->aU->V->Prop)(F:(Nat->aU)->V->Prop):List (Kd×Nat)->(Nat->aU)->V->Prop
 | [],O,h=>∀hx,Gw fl h hx->F O hx
 | (kd,k) ::aO,O,h=>∃o b,l[k]? =some o/\Gd l o O b/\(b=false->TD E l n fl hs ds Lw F aO (skS kd O o.dst) h)/\(b=true->match kd with
  | .p=>∃v,(∀hx,Lw n undef hx->US E o O ds hx v)/\TD E l n fl hs ds Lw F aO (putS O o.dst v) h
  | .r=>∃v,US E o O ds h v/\TD E l n fl hs ds Lw F aO (putS O o.dst v) h
  | .e=>∀hx,Gw fl h hx->BS E o O ds hx λσ' ds' h'=>ds'=ds/\∃v,σ'=putS O o.dst v/\hx.Le h'/\TD E l n fl hs ds Lw F aO (putS O o.dst v) h'
  | .w=>∀hx,Gw fl h hx->BS E o O ds hx λσ' ds' h'=>ds'=ds/\∃v,σ'=putS O o.dst v/\Lw n undef h'/\TD E l n false hs ds Lw F aO (putS O o.dst v) h'
  | .a=>∀t r hx,o.op=.alloc t->h.Le hx->hs r=none->hx r=some (true,.cells (zOf P t) t (0,0))->TD E l n fl hs ds Lw F aO (putS O o.dst (.pointer (some ⟨r,0,none⟩))) hx
  | .l=>(∀hx,h.Le hx->BS E o O ds hx λσ' ds' h'=>ds'=ds/\∃v,σ'=putS O o.dst v/\hx.Le h'/\Lw k v h')/\TD E l n fl hs ds Lw F aO O h
  | .b=>∀v hx,h.Le hx->Lw k v hx->TD E l n fl hs ds Lw F aO (putS O o.dst v) hx)
def Gu(l:List Oper)(n:Nat)(cl seen:List Nat)(t:Nat):Bool:= !(DA l n).contains t || seen.any λj=>cl.contains j && match l[j]? with
 | some oj=>oj.dst==some t
 | none=>false
def IC(l:List Oper)(n:Nat)(cls:List (List Nat))(seen:List Nat)(k t:Nat):Bool:=(List.range n).any λj=> !seen.contains j && (cls.getD j []).contains k && match l[j]? with
 | some oj=>oj.dst==some t
 | none=>false
def S0(P:Program):Op->Bool
 | .alloc t=>(Bb P t).isSome
 | _=>false
def Fm(P:Program)(l:List Oper)(n:Nat)(cls:List (List Nat))(fl:Bool):List (Kd×Nat)->List Nat->List Nat->List Nat->Bool->Bool
 | [],seen,_,_,_=>(List.range n).all seen.contains
 | (kd,k) ::aO,seen,effs,rds,wr=>match l[k]? with
  | none=>false
  | some o=>(match G3 o.op with
    | none=>false
    | some xs=>Nat.blt k n && !seen.contains k && (Hs xs).all λt=>Gu l n (cls.getD k []) seen t || (kd.fix && IC l n cls seen k t)) &&
   (match o.guard with
    | none=>true
    | some (g,_)=>seen.contains g && (cls.getD k []).contains g) &&
   (match kd with
    | .p=>Kj o.op && effs.all (cls.getD k []).contains && Fm P l n cls fl aO (k ::seen) effs rds wr
    | .r=>Kj o.op && effs.all (cls.getD k []).contains && Fm P l n cls fl aO (k ::seen) effs (k ::rds) wr
    | .e=>effs.all (cls.getD k []).contains && Fm P l n cls fl aO (k ::seen) (k ::effs) rds wr
    | .w=>effs.all (cls.getD k []).contains && rds.all (cls.getD k []).contains && Fm P l n cls fl aO (k ::seen) (k ::effs) rds true
    | .a=>fl && !wr && S0 P o.op && o.dst.isSome && o.guard.isNone && Fm P l n cls fl aO (k ::seen) (k ::effs) rds wr
    | .l=>fl && o.dst.isSome && effs.all (cls.getD k []).contains && Fm P l n cls fl aO seen effs rds wr
    | .b=>fl && !wr && o.dst.isSome && Fm P l n cls fl aO (k ::seen) (k ::effs) rds wr)
structure PF(E:F8 P)(l:List Oper)(n:Nat)(cls:List (List Nat))(ds:List Deferred)(Lw:Nat->aU->V->Prop)(σ0:Nat->aU)(seen rds:List Nat)(σr:Nat->aU)(h':V)(k:Nat)(o:Oper)(xs:List Operand)(b:Bool)(v:aU):Prop where
 at':l[k]? =some o
 op:G3 o.op=some xs
 val:Kj o.op=true
 gfix:∀g w,o.guard=some (g,w)->g ∈ seen/\g ∈ cls.getD k []
 gd:Gd l o σr b
 vop:b=true->∃σk,(∀t ∈ Hs xs,(Gu l n (cls.getD k []) seen t=true/\σk t=σr t)\/(IC l n cls [] k t=true/\σk t=σ0 t))/\US E o σk ds h' v/\(k ∈ rds\/∀hx,Lw n undef hx->US E o σk ds hx v)
 is:∀d,o.dst=some d->σr d=if b=true then v else undef
def ZG(E:F8 P)(l:List Oper)(n:Nat)(cls:List (List Nat))(ds:List Deferred)(Lw:Nat->aU->V->Prop)(seen:List Nat)(σr:Nat->aU)(h':V)(k:Nat):Prop:=
 ∃o xs b,l[k]? =some o/\G3 o.op=some xs/\(∀t ∈ Hs xs,Gu l n (cls.getD k []) seen t=true)/\(∀g w,o.guard=some (g,w)->g ∈ seen/\g ∈ cls.getD k [])/\Gd l o σr b/\(b=true->
  ∀σ2 hx,(∀t ∈ Hs xs,σr t=σ2 t)->h'.Le hx->BS E o σ2 ds hx λσ'' ds' h2=>ds'=ds/\∃v,σ''=putS σ2 o.dst v/\hx.Le h2/\Lw k v h2)
structure G4(E:F8 P)(l:List Oper)(n:Nat)(cls:List (List Nat))(fl:Bool)(hs:V)(ds:List Deferred)(Lw:Nat->aU->V->Prop)(F:(Nat->aU)->V->Prop)(σ0:Nat->aU)(seen effs rds:List Nat)(wr:Bool)(aO:List (Kd×Nat))(σr:Nat->aU)(hr:V)
  (D:Nat->Bool) (σ':Nat->aU) (h':V):Prop where
 td:TD E l n (fl && !wr) hs ds Lw F aO σr hr
 ok:Fm P l n cls fl aO seen effs rds wr=true
 gw:Gw (fl && !wr) hr h'
 base:∀t,(DA l n).contains t=false->σ' t=σr t
 lt:∀k ∈ seen,k<n
 eff:∀k ∈ effs,D k=true
 rest:∀kd k,(kd,k) ∈ aO->kd.fix=true->D k=false
 done:∀k ∈ seen,D k=true->∀o d,l[k]? =some o->o.dst=some d->σ' d=σr d
 pend:∀k ∈ seen,D k=false->∃o xs b v,PF E l n cls ds Lw σ0 seen rds σr h' k o xs b v
 flo:∀k,(Kd.a,k) ∈ aO->D k=true->∀o t d,l[k]? =some o->o.op=.alloc t->o.dst=some d->∃r,σ' d=.pointer (some ⟨r,0,none⟩)/\hs r=none/\h' r=some (true,.cells (zOf P t) t (0,0))
 flb:∀k,(Kd.b,k) ∈ aO->D k=false->(Kd.l,k) ∈ aO\/ZG E l n cls ds Lw seen σr h' k
 fld:∀k,(Kd.b,k) ∈ aO->D k=true->∀o d,l[k]? =some o->o.dst=some d->∃b,Gd l o σ' b/\(b=true->Lw k (σ' d) h')/\(b=false->σ' d=undef)
 mono:∀k v h1 h2,V.Le h1 h2->Lw k v h1->Lw k v h2
 frm:Lw n undef h'
 pre:wr=false->hs.Le h'
 clos:∀k,k<n->D k=true->∀q ∈ cls.getD k [],D q=true
 iniR:∀j,j<n->j ∉ seen->∀o t,l[j]? =some o->o.dst=some t->σr t=σ0 t
 iniS:∀j,j<n->D j=false->∀o t,l[j]? =some o->o.dst=some t->σ' t=σ0 t
theorem K6{l:List Oper}{n:Nat}{cls:List (List Nat)}{seen:List Nat}{k t:Nat}(x:IC l n cls seen k t=true):∃j o,j<n/\j ∉ seen/\k ∈ cls.getD j []/\l[j]? =some o/\o.dst=some t:=by
 unfold IC at x;obtain ⟨j,b,y⟩:=List.any_eq_true.1 x;rw [Bool.and_eq_true,Bool.and_eq_true] at y;cases a:l[j]? with
 | none=>rw [a] at y;simp at y
 | some c=>
  rw [a] at y;exact ⟨j,c,List.mem_range.1 b,(λd=>by rw [List.contains_iff_mem.2 d] at y;simp at y),List.contains_iff_mem.1 y.1.2,a,by simpa using y.2⟩
theorem Ol{l:List Oper}{n:Nat}{cls:List (List Nat)}{seen:List Nat}{k t:Nat}(x:IC l n cls seen k t=true):IC l n cls [] k t=true:=by
 unfold IC at x ⊢;obtain ⟨j,a,y⟩:=List.any_eq_true.1 x;rw [Bool.and_eq_true,Bool.and_eq_true] at y;exact List.any_eq_true.2 ⟨j,a,by rw [Bool.and_eq_true,Bool.and_eq_true];exact ⟨⟨rfl,y.1.2⟩,y.2⟩⟩
theorem Jh{l:List Oper}{n:Nat}{cl seen:List Nat}{k t:Nat}(x:Gu l n cl seen t=true):Gu l n cl (k ::seen) t=true:=by
 unfold Gu at x ⊢;rw [Bool.or_eq_true] at x ⊢;rcases x with x | x
 ·exact .inl x
 ·exact .inr (by rw [List.any_cons,x];simp)
theorem Mp{l:List Oper}{n:Nat}{cl seen:List Nat}{k t d:Nat}{o:Oper}(nd:(DA l n).Nodup)(hlt:∀k ∈ seen,k<n)(hk:k<n)(hs:k ∉ seen)(ho:l[k]? =some o)(hd:o.dst=some d)(x:Gu l n cl seen t=true):t≠d:=by
 intro e;subst e;unfold Gu at x;rw [Bool.or_eq_true] at x;rcases x with x | x
 ·have:t ∈ DA l n:=by
   simp only [DA,List.mem_filterMap];refine ⟨o,?_,hd⟩
   have:(l.take n)[k]? =some o:=by rw [List.getElem?_take];simp [hk,ho]
   exact List.mem_of_getElem? this
  simp [this] at x
 ·rw [List.any_eq_true] at x;obtain ⟨j,b,y⟩:=x;rw [Bool.and_eq_true] at y;cases a:l[j]? with
  | none=>rw [a] at y;simp at y
  | some c=>
   rw [a] at y;have f:c.dst=some t:=by simpa using y.2
   exact Dm nd hk (hlt j b) (λe=>hs (e▸b)) ho a hd f rfl
theorem Cr{O:Nat->aU}{o:Oper}{v:aU}{t:Nat}(h:∀d,o.dst=some d->t≠d):putS O o.dst v t=O t:=by
 cases a:o.dst with
 | none=>rfl
 | some d=>exact upd_ne O v (K3 (h d a))
theorem Ht{l:List Oper}{n k t:Nat}{o:Oper}(hk:k<n)(ho:l[k]? =some o)(ht:(DA l n).contains t=false):∀d,o.dst=some d->t≠d:=λd a e=>by
 subst e;rw [Oc hk ho a] at ht;cases ht
section
variable {l:List Oper} {n:Nat} {cls:List (List Nat)} {fl:Bool} {hs:V} {ds:List Deferred} {Lw:Nat->aU->V->Prop} {F:(Nat->aU)->V->Prop} {seen effs rds:List Nat} {wr:Bool} {aO:List (Kd×Nat)} {σ0 σr σ':Nat->aU} {hr h':V} {D:Nat->Bool}
theorem Gd.put{o ok:Oper}{k:Nat}{b:Bool}{v:aU}(nd:(DA l n).Nodup)(hlt:∀k ∈ seen,k<n)(hk:k<n)(hks:k ∉ seen)(hok:l[k]? =some ok)(hg:∀g w,o.guard=some (g,w)->g ∈ seen)(x:Gd l o σr b):Gd l o (putS σr ok.dst v) b:=by
 unfold Gd at x ⊢;cases a:o.guard with
 | none=>rw [a] at x;exact x
 | some y=>
  obtain ⟨g,w⟩:=y;rw [a] at x;obtain ⟨j,d,is,h,i,m,p⟩:=x;have c:=hg g w a;exact ⟨j,d,is,h,i,by rw [Cr λq f=>Dm nd hk (hlt g c) (λe=>hks (e▸c)) hok h f i];exact m,p⟩
theorem PF.put{k j:Nat}{o ok:Oper}{xs:List Operand}{b:Bool}{v w:aU}(nd:(DA l n).Nodup)(hlt:∀k ∈ seen,k<n)(hk:k<n)(hks:k ∉ seen)(hok:l[k]? =some ok)(hj:j ∈ seen)(l2:hr.Le h')
  (x:PF E l n cls ds Lw σ0 seen rds σr hr j o xs b v):PF E l n cls ds Lw σ0 (k ::seen) rds (putS σr ok.dst w) h' j o xs b v where
 at':=x.at'
 op:=x.op
 val:=x.val
 gfix:=λg a c=>⟨List.mem_cons_of_mem _ (x.gfix g a c).1,(x.gfix g a c).2⟩
 gd:=x.gd.put nd hlt hk hks hok λg a c=>(x.gfix g a c).1
 vop:=λi=>by
  obtain ⟨σk,m,p,r⟩:=x.vop i;exact ⟨σk,λt s=>(m t s).imp (λq=>⟨Jh q.1,q.2.trans (Cr λd f=>Mp nd hlt hk hks hok f q.1).symm⟩) id,p.move x.val x.op (λ_ _=>rfl) l2,r⟩
 is:=λd f=>by rw [Cr λu h=>Dm nd hk (hlt j hj) (λe=>hks (e▸hj)) hok x.at' h f];exact x.is d f
theorem PF.more{j:Nat}{o:Oper}{xs:List Operand}{b:Bool}{v:aU}{k:Nat}(x:PF E l n cls ds Lw σ0 seen rds σr h' j o xs b v):PF E l n cls ds Lw σ0 seen (k ::rds) σr h' j o xs b v:=
 { x with vop:=λa=>by obtain ⟨σk,c,d,e⟩:=x.vop a;exact ⟨σk,c,d,e.imp (List.mem_cons_of_mem _) id⟩ }
theorem ZG.put{k j:Nat}{ok:Oper}{w:aU}(nd:(DA l n).Nodup)(hlt:∀k ∈ seen,k<n)(hk:k<n)(hks:k ∉ seen)(hok:l[k]? =some ok)(x:ZG E l n cls ds Lw seen σr h' j):ZG E l n cls ds Lw (k ::seen) (putS σr ok.dst w) h' j:=by
 obtain ⟨o,m,b,p,q,i,f,h,r⟩:=x;exact ⟨o,m,b,p,q,λt a=>Jh (i t a),λg c e=>⟨List.mem_cons_of_mem _ (f g c e).1,(f g c e).2⟩,h.put nd hlt hk hks hok λg c e=>(f g c e).1,
  λs σ2 u e v=>r s σ2 u (λt a=>(Cr λd y=>Mp nd hlt hk hks hok y (i t a)).symm.trans (e t a)) v⟩
theorem ZG.le{j:Nat}{h2:V}(l2:h'.Le h2)(x:ZG E l n cls ds Lw seen σr h' j):ZG E l n cls ds Lw seen σr h2 j:=by
 obtain ⟨o,c,b,d,f,g,h,a,i⟩:=x;exact ⟨o,c,b,d,f,g,h,a,λk σ2 m e p=>i k σ2 m e (l2.trans p)⟩
theorem Fo{kd kd2:Kd}{k j:Nat}(h:(kd2,j) ∈ (kd,k) ::aO)(ne:kd2≠kd):(kd2,j) ∈ aO:=by
 rcases List.mem_cons.1 h with e | h
 ·cases e;exact absurd rfl ne
 ·exact h
def headOK(P:Program)(l:List Oper)(n:Nat)(cls:List (List Nat))(fl:Bool)(aO:List (Kd×Nat))(seen effs rds:List Nat)(wr:Bool)(k:Nat)(o:Oper):Kd->Prop
 | .p=>Kj o.op=true/\(∀q ∈ effs,q ∈ cls.getD k [])/\Fm P l n cls fl aO (k ::seen) effs rds wr=true
 | .r=>Kj o.op=true/\(∀q ∈ effs,q ∈ cls.getD k [])/\Fm P l n cls fl aO (k ::seen) effs (k ::rds) wr=true
 | .e=>(∀q ∈ effs,q ∈ cls.getD k [])/\Fm P l n cls fl aO (k ::seen) (k ::effs) rds wr=true
 | .w=>(∀q ∈ effs,q ∈ cls.getD k [])/\(∀q ∈ rds,q ∈ cls.getD k [])/\Fm P l n cls fl aO (k ::seen) (k ::effs) rds true=true
 | .a=>fl=true/\wr=false/\S0 P o.op=true/\o.dst.isSome=true/\o.guard=none/\Fm P l n cls fl aO (k ::seen) (k ::effs) rds wr=true
 | .l=>fl=true/\o.dst.isSome=true/\(∀q ∈ effs,q ∈ cls.getD k [])/\Fm P l n cls fl aO seen effs rds wr=true
 | .b=>fl=true/\wr=false/\o.dst.isSome=true/\Fm P l n cls fl aO (k ::seen) (k ::effs) rds wr=true
theorem EX{kd:Kd}{k:Nat}(x:Fm P l n cls fl ((kd,k) ::aO) seen effs rds wr=true) :
  ∃o xs,l[k]? =some o/\G3 o.op=some xs/\k<n/\k ∉ seen/\(∀t ∈ Hs xs,Gu l n (cls.getD k []) seen t=true\/(kd.fix=true/\IC l n cls seen k t=true))/\(∀g w,o.guard=some (g,w)->g ∈ seen/\g ∈ cls.getD k [])/\
  headOK P l n cls fl aO seen effs rds wr k o kd:=by
 unfold Fm at x;cases e:l[k]? with
 | none=>rw [e] at x;cases x
 | some o=>
  rw [e] at x;simp only [Bool.and_eq_true] at x;obtain ⟨⟨b,c⟩,a⟩:=x;cases d:G3 o.op with
  | none=>rw [d] at b;cases b
  | some xs=>
   rw [d] at b;simp only [Bool.and_eq_true,Bool.or_eq_true,Bool.not_eq_true',List.all_eq_true] at b;obtain ⟨⟨h,f⟩,i⟩:=b;refine ⟨o,xs,rfl,d,Nat.blt_eq▸h,(λj=>by rw [List.contains_iff_mem.2 j] at f;cases f),i,λg w m=>?_,?_⟩
   ·rw [m] at c;simp only [Bool.and_eq_true] at c;exact ⟨List.contains_iff_mem.1 c.1,List.contains_iff_mem.1 c.2⟩
   ·cases kd <;> unfold headOK <;> simp only [Bool.and_eq_true,List.all_eq_true,List.contains_iff_mem,Bool.not_eq_true',Option.isNone_iff_eq_none] at a ⊢
    ·exact ⟨a.1.1,a.1.2,a.2⟩
    ·exact ⟨a.1.1,a.1.2,a.2⟩
    ·exact a
    ·exact ⟨a.1.1,a.1.2,a.2⟩
    ·exact ⟨a.1.1.1.1.1,a.1.1.1.1.2,a.1.1.1.2,a.1.1.2,a.1.2,a.2⟩
    ·exact ⟨a.1.1.1,a.1.1.2,a.1.2,a.2⟩
    ·exact ⟨a.1.1.1,a.1.1.2,a.1.2,a.2⟩
theorem GF{kd:Kd}{k:Nat}(x:Fm P l n cls fl ((kd,k) ::aO) seen effs rds wr=true):∃seen' effs' rds' wr',Fm P l n cls fl aO seen' effs' rds' wr'=true/\(∀q ∈ seen,q ∈ seen')/\(kd≠.l->seen'=k ::seen)/\(kd=.l->seen'=seen)/\(∀q ∈ effs,q ∈ effs')/\(kd=.e\/kd=.w\/kd=.a\/kd=.b->k ∈ effs'):=by
 obtain ⟨o,c,_,_,_,_,_,_,y⟩:=EX x;cases kd with
 | p=>exact ⟨_,_,_,_,y.2.2,λ_ q=>List.mem_cons_of_mem _ q,λ_=>rfl,(λe=>by cases e),λ_ q=>q,λe=>by rcases e with e | e | e | e <;> cases e⟩
 | r=>exact ⟨_,_,_,_,y.2.2,λ_ q=>List.mem_cons_of_mem _ q,λ_=>rfl,(λe=>by cases e),λ_ q=>q,λe=>by rcases e with e | e | e | e <;> cases e⟩
 | e=>exact ⟨_,_,_,_,y.2,λ_ q=>List.mem_cons_of_mem _ q,λ_=>rfl,(λe=>by cases e),λ_ q=>List.mem_cons_of_mem _ q,λ_=>List.mem_cons_self⟩
 | w=>exact ⟨_,_,_,_,y.2.2,λ_ q=>List.mem_cons_of_mem _ q,λ_=>rfl,(λe=>by cases e),λ_ q=>List.mem_cons_of_mem _ q,λ_=>List.mem_cons_self⟩
 | a=>exact ⟨_,_,_,_,y.2.2.2.2.2,λ_ q=>List.mem_cons_of_mem _ q,λ_=>rfl,(λe=>by cases e),λ_ q=>List.mem_cons_of_mem _ q,λ_=>List.mem_cons_self⟩
 | l=>exact ⟨_,_,_,_,y.2.2.2,λ_ q=>q,(λe=>absurd rfl e),λ_=>rfl,λ_ q=>q,λe=>by rcases e with e | e | e | e <;> cases e⟩
 | b=>exact ⟨_,_,_,_,y.2.2.2,λ_ q=>List.mem_cons_of_mem _ q,λ_=>rfl,(λe=>by cases e),λ_ q=>List.mem_cons_of_mem _ q,λ_=>List.mem_cons_self⟩
theorem DL:∀{aO:List (Kd×Nat)}{seen effs rds:List Nat}{wr:Bool},Fm P l n cls fl aO seen effs rds wr=true->∀kd k,(kd,k) ∈ aO->k ∉ seen/\k<n
 | [],_,_,_,_,_,kd,k,h=>by cases h
 | (b,g) ::aO,seen,effs,rds,wr,x,kd,k,h=>by
  obtain ⟨o,i,_,_,c,d,_⟩:=EX x;rcases List.mem_cons.1 h with e | h
  ·cases e;exact ⟨d,c⟩
  ·obtain ⟨seen',effs',a,f,y,z,_⟩:=GF x
   have:=DL y kd k h
   exact ⟨λq=>this.1 (z _ q),this.2⟩
theorem Om:∀{aO:List (Kd×Nat)}{seen effs rds:List Nat}{wr:Bool},Fm P l n cls fl aO seen effs rds wr=true->∀i,i<n->i ∈ seen\/∃kd,(kd,i) ∈ aO/\kd≠.l
 | [],seen,_,_,_,x,i,b=>by
  unfold Fm at x;exact .inl (List.contains_iff_mem.1 (List.all_eq_true.1 x i (List.mem_range.2 b)))
 | (a,k) ::aO,seen,effs,rds,wr,x,i,b=>by
  obtain ⟨seen',effs',d,f,y,_,g,j,_⟩:=GF x;rcases Om y i b with h | ⟨kd,h,c⟩
  ·by_cases e:a=.l
   ·rw [j e] at h;exact .inl h
   ·rw [g e] at h;rcases List.mem_cons.1 h with rfl | h
    ·exact .inr ⟨a,List.mem_cons_self,e⟩
    ·exact .inl h
  ·exact .inr ⟨kd,List.mem_cons_of_mem _ h,c⟩
theorem On:∀{aO:List (Kd×Nat)}{seen effs rds:List Nat}{wr:Bool},Fm P l n cls fl aO seen effs rds wr=true->∀kd k,(kd,k) ∈ aO->kd≠.a->kd≠.b->∀q ∈ effs,q ∈ cls.getD k []
 | [],_,_,_,_,_,kd,k,h=>by cases h
 | (g,m) ::aO,seen,effs,rds,wr,x,kd,k,h=>by
  intro d f q c;rcases List.mem_cons.1 h with e | h
  ·cases e;obtain ⟨o,s,_,_,_,_,_,_,y⟩:=EX x;cases g with
   | p=>exact y.2.1 q c
   | r=>exact y.2.1 q c
   | e=>exact y.1 q c
   | w=>exact y.1 q c
   | a=>exact absurd rfl d
   | l=>exact y.2.2.1 q c
   | b=>exact absurd rfl f
  ·obtain ⟨seen',effs',i,j,y,_,_,_,z,_⟩:=GF x;exact On y kd k h d f q (z q c)
theorem G5{n k:Nat}{seen:List Nat}(h:∀q ∈ seen,q<n)(hk:k<n):∀q ∈ k ::seen,q<n:=λq hq=>by
 rcases List.mem_cons.1 hq with rfl | hq
 ·exact hk
 ·exact h q hq
theorem C4:∀{aO:List (Kd×Nat)}{seen effs rds:List Nat}{wr:Bool},Fm P l n cls fl aO seen effs rds wr=true->(∀q ∈ seen,q<n)->∀kd k,(kd,k) ∈ aO->kd=.a\/kd=.b->fl=true/\wr=false/\k<n/\∃o,l[k]? =some o/\(kd=.a->S0 P o.op=true/\o.guard=none)/\o.dst.isSome=true/\∀g w,o.guard=some (g,w)->g<n/\g ∈ cls.getD k []
 | [],_,_,_,_,_,_,kd,k,h=>by cases h
 | (s,u) ::aO,seen,effs,rds,wr,x,c,kd,k,h=>by
  intro d;obtain ⟨o,v,t,y,i,z,A,m,f⟩:=EX x;rcases List.mem_cons.1 h with e | h6
  ·cases e;rcases d with rfl | rfl
   ·exact ⟨f.1,f.2.1,i,o,t,λ_=>⟨f.2.2.1,f.2.2.2.2.1⟩,f.2.2.2.1,λg w j=>⟨c g (m g w j).1,(m g w j).2⟩⟩
   ·exact ⟨f.1,f.2.1,i,o,t,(λe=>by cases e),f.2.2.1,λg w j=>⟨c g (m g w j).1,(m g w j).2⟩⟩
  ·cases s with
   | p=>exact C4 f.2.2 (G5 c i) kd k h6 d
   | r=>exact C4 f.2.2 (G5 c i) kd k h6 d
   | e=>exact C4 f.2 (G5 c i) kd k h6 d
   | w=>have:=(C4 f.2.2 (G5 c i) kd k h6 d).2.1;cases this
   | a=>exact C4 f.2.2.2.2.2 (G5 c i) kd k h6 d
   | l=>exact C4 f.2.2.2 c kd k h6 d
   | b=>exact C4 f.2.2.2 (G5 c i) kd k h6 d
theorem Gd.other{o ok:Oper}{k:Nat}{b:Bool}{v:aU}{O:Nat->aU}(nd:(DA l n).Nodup)(hk:k<n)(hok:l[k]? =some ok)(hg:∀g w,o.guard=some (g,w)->g<n/\g≠k)(x:Gd l o O b):Gd l o (putS O ok.dst v) b:=by
 unfold Gd at x ⊢;cases a:o.guard with
 | none=>rw [a] at x;exact x
 | some y=>
  obtain ⟨g,w⟩:=y;rw [a] at x;obtain ⟨m,d,is,i,j,p,q⟩:=x;obtain ⟨c,f⟩:=hg g w a;exact ⟨m,d,is,i,j,by rw [Cr λr h=>Dm nd hk c (λe=>f e.symm) hok i h j];exact p,q⟩
theorem Gd.uniq{o:Oper}{O:Nat->aU}{b b':Bool}(x:Gd l o O b)(y:Gd l o O b'):b=b':=by
 have a:=x.iff;have c:=y.iff;rw [a] at c;cases b <;> cases b' <;> simp_all
theorem IR{k:Nat}:Gb D k k=true:=by simp [Gb]
theorem CK{k j:Nat}(h:j≠k):Gb D k j=D j:=by unfold Gb;rw [aS (λe=>h e.symm)]
theorem FK{k j:Nat}(h:D j=true):Gb D k j=true:=by unfold Gb;split <;> simp [h]
theorem G4.agree(x:G4 E l n cls fl hs ds Lw F σ0 seen effs rds wr aO σr hr D σ' h'){cl:List Nat}(hcl:∀q ∈ cl,D q=true){t:Nat}(y:Gu l n cl seen t=true):σr t=σ' t:=by
 unfold Gu at y;rw [Bool.or_eq_true] at y;rcases y with y | y
 ·exact (x.base t (by simpa using y)).symm
 ·rw [List.any_eq_true] at y;obtain ⟨j,b,z⟩:=y;rw [Bool.and_eq_true] at z;cases a:l[j]? with
  | none=>rw [a] at z;simp at z
  | some c=>
   rw [a] at z;exact (x.done j b (hcl j (List.contains_iff_mem.1 z.1)) c t a (by simpa using z.2)).symm
theorem G4.late(x:G4 E l n cls fl hs ds Lw F σ0 seen effs rds wr aO σr hr D σ' h'){k t:Nat}(hkD:D k=false)(y:IC l n cls [] k t=true):σ' t=σ0 t:=by
 obtain ⟨j,o,a,_,b,c,d⟩:=K6 y;refine x.iniS j a ?_ o t c d;cases e:D j with
 | false=>rfl
 | true=>have:=x.clos j a e k b;rw [hkD] at this;cases this
theorem G4.agree2(x:G4 E l n cls fl hs ds Lw F σ0 seen effs rds wr aO σr hr D σ' h'){k:Nat}{kd:Kd}(hcl:∀q ∈ cls.getD k [],D q=true)(hkD:D k=false){t:Nat}(y:Gu l n (cls.getD k []) seen t=true\/(kd.fix=true/\IC l n cls seen k t=true)):σr t=σ' t:=by
 rcases y with y | ⟨_,y⟩
 ·exact x.agree hcl y
 ·obtain ⟨j,o,b,a,_,c,d⟩:=K6 y;rw [x.iniR j b a o t c d,x.late hkD (Ol y)]
theorem G4.iniR'(x:G4 E l n cls fl hs ds Lw F σ0 seen effs rds wr aO σr hr D σ' h')(nd:(DA l n).Nodup){k:Nat}{o:Oper}{v:aU}(hkn:k<n)(ho:l[k]? =some o):∀j,j<n->j ∉ k ::seen->∀o' t,l[j]? =some o'->o'.dst=some t->putS σr o.dst v t=σ0 t:=λj f a o' t b c=>by
 rw [Cr λd g=>Dm nd hkn f (λe=>a (by rw [e];exact List.mem_cons_self)) ho b g c];exact x.iniR j f (λq=>a (List.mem_cons_of_mem _ q)) o' t b c
theorem G4.iniS'(x:G4 E l n cls fl hs ds Lw F σ0 seen effs rds wr aO σr hr D σ' h')(nd:(DA l n).Nodup){k:Nat}{o:Oper}{v:aU}(hkn:k<n)(ho:l[k]? =some o):∀j,j<n->Gb D k j=false->∀o' t,l[j]? =some o'->o'.dst=some t->putS σ' o.dst v t=σ0 t:=λj f c o' t a b=>by
 have e:k≠j:=λe=>by subst e;rw [IR] at c;cases c
 rw [Cr λd g=>Dm nd hkn f e ho a g b];rw [CK e.symm] at c;exact x.iniS j f c o' t a b
theorem G4.guard(x:G4 E l n cls fl hs ds Lw F σ0 seen effs rds wr aO σr hr D σ' h'){cl:List Nat}(hcl:∀q ∈ cl,D q=true){o:Oper}{b:Bool}(hg:∀g w,o.guard=some (g,w)->g ∈ seen/\g ∈ cl)(y:Gd l o σr b):Gd l o σ' b:=by
 unfold Gd at y ⊢;cases a:o.guard with
 | none=>rw [a] at y;exact y
 | some z=>
  obtain ⟨g,w⟩:=z;rw [a] at y;obtain ⟨c,d,is,e,f,h,i⟩:=y;exact ⟨c,d,is,e,f,by rw [x.done g (hg g w a).1 (hcl g (hg g w a).2) c d e f];exact h,i⟩
theorem G4.unfoldV{kd:Kd}{k:Nat}(nd:(DA l n).Nodup)(hkd:kd=.p\/kd=.r)(x:G4 E l n cls fl hs ds Lw F σ0 seen effs rds wr ((kd,k) ::aO) σr hr D σ' h') :
  ∃rds' σr',G4 E l n cls fl hs ds Lw F σ0 (k ::seen) effs rds' wr aO σr' hr D σ' h':=by
 obtain ⟨o,xs,h,C,a,f,H,S,K⟩:=EX x.ok;obtain ⟨y,b,T,U,hF,hT⟩:=x.td;obtain rfl:y=o:=Option.some.inj (T.symm.trans h);have W:D k=false:=x.rest kd k List.mem_cons_self (by rcases hkd with e | e <;> rw [e] <;> rfl);have u:Kj y.op=true:=by rcases hkd with rfl | rfl <;> exact K.1
 have i:∀(v:aU)(rds':List Nat),(rds'=rds\/rds'=k ::rds)->Fm P l n cls fl aO (k ::seen) effs rds' wr=true->TD E l n (fl && !wr) hs ds Lw F aO (putS σr y.dst (if b=true then v else undef)) hr->
   (b=true->US E y σr ds h' v/\(k ∈ rds'\/∀C,Lw n undef C->US E y σr ds C v))->G4 E l n cls fl hs ds Lw F σ0 (k ::seen) effs rds' wr aO (putS σr y.dst (if b=true then v else undef)) hr D σ' h':=by
  intro v rds' N X td' hv;refine ⟨td',X,x.gw,λt Q=>?_,λj hj=>?_,x.eff,λkd' j hj hne=>x.rest kd' j (List.mem_cons_of_mem _ hj) hne,λj hj c A d m B=>?_,λj hj c=>?_,λj hj=>x.flo j (List.mem_cons_of_mem _ hj),λj hj c=>(x.flb j (List.mem_cons_of_mem _ hj) c).imp (λq=>Fo q (by rcases hkd with e | e <;> rw [e] <;> decide)) (ZG.put nd x.lt a f h),λj hj=>x.fld j (List.mem_cons_of_mem _ hj),x.mono,x.frm,x.pre,x.clos,x.iniR' nd a h,x.iniS⟩
  ·rw [Cr (Ht a h Q)];exact x.base t Q
  ·rcases List.mem_cons.1 hj with rfl | hj
   ·exact a
   ·exact x.lt j hj
  ·rcases List.mem_cons.1 hj with rfl | hj
   ·rw [W] at c;cases c
   ·rw [Cr λd' z=>Dm nd a (x.lt j hj) (λe=>f (e▸hj)) h m z B];exact x.done j hj c A d m B
  ·rcases List.mem_cons.1 hj with rfl | hj
   ·refine ⟨y,xs,b,v,h,C,u,λg w s=>⟨List.mem_cons_of_mem _ (S g w s).1,(S g w s).2⟩,U.put nd x.lt a f h λg w s=>(S g w s).1,λhb=>?_,λd B=>?_⟩
    ·obtain ⟨y1,y2⟩:=hv hb;refine ⟨σr,λt Q=>?_,y1,y2⟩;rcases H t Q with q | ⟨_,q⟩
     ·exact .inl ⟨Jh q,(Cr λd B=>Mp nd x.lt a f h B q).symm⟩
     ·obtain ⟨j',A,hj',hns,_,m,z⟩:=K6 q;exact .inr ⟨Ol q,x.iniR j' hj' hns A t m z⟩
    ·rw [B];exact upd_same _ _ _
   ·obtain ⟨A,O,b',v',pf⟩:=x.pend j hj c
    have:=pf.put (w:=if b=true then v else undef) nd x.lt a f h hj (V.Le.refl _)
    rcases N with rfl | rfl
    ·exact ⟨A,O,b',v',this⟩
    ·exact ⟨A,O,b',v',this.more⟩
 cases b with
 | false=>
  rcases hkd with rfl | rfl
  ·exact ⟨_,_,i undef _ (.inl rfl) K.2.2 (hF rfl) (λe=>by cases e)⟩
  ·exact ⟨_,_,i undef _ (.inr rfl) K.2.2 (hF rfl) (λe=>by cases e)⟩
 | true=>
  rcases hkd with rfl | rfl
  ·obtain ⟨v,R,h2⟩:=hT rfl;exact ⟨_,_,i v _ (.inl rfl) K.2.2 h2 (λ_=>⟨R _ x.frm,.inr R⟩)⟩
  ·obtain ⟨v,R,h2⟩:=hT rfl;exact ⟨_,_,i v _ (.inr rfl) K.2.2 h2 (λ_=>⟨R.move u C (λ_ _=>rfl) x.gw.1,.inl List.mem_cons_self⟩)⟩
theorem G4.unfoldA{k:Nat}(nd:(DA l n).Nodup)(hD:D k=true)(x:G4 E l n cls fl hs ds Lw F σ0 seen effs rds wr ((Kd.a,k) ::aO) σr hr D σ' h') :
  ∃σr',G4 E l n cls fl hs ds Lw F σ0 (k ::seen) (k ::effs) rds wr aO σr' h' D σ' h':=by
 obtain ⟨o,xs,g,hx,f,h,O,hg,S⟩:=EX x.ok;obtain ⟨s,b,y,i,hF,T⟩:=x.td;obtain rfl:s=o:=Option.some.inj (y.symm.trans g);obtain ⟨U,W,u,z,A,B⟩:=S;obtain rfl:b=true:=by unfold Gd at i;rw [A] at i;exact i
 obtain ⟨t,v⟩:∃t,s.op=.alloc t:=by
  cases X:s.op <;> rw [X] at u <;> first | exact ⟨_,rfl⟩ | cases u
 obtain ⟨d,C⟩:=Option.isSome_iff_exists.1 z;obtain ⟨r,h1,h2,h3⟩:=x.flo k List.mem_cons_self hD s t d g v C;refine ⟨putS σr s.dst (.pointer (some ⟨r,0,none⟩)),T rfl t r h' v x.gw.1 h2 h3,B,Gw.refl _ _,λt Q=>?_,λj hj=>?_,λj hj=>?_,λH j hj K=>x.rest H j (List.mem_cons_of_mem _ hj) K,λj hj c w R m p=>?_,λj hj c=>?_,
  λj hj=>x.flo j (List.mem_cons_of_mem _ hj),λj hj c=>(x.flb j (List.mem_cons_of_mem _ hj) c).imp (λq=>Fo q aC) (ZG.put nd x.lt f h g),λj hj=>x.fld j (List.mem_cons_of_mem _ hj),x.mono,x.frm,x.pre,x.clos,x.iniR' nd f g,x.iniS⟩
 ·rw [Cr (Ht f g Q)];exact x.base t Q
 ·rcases List.mem_cons.1 hj with rfl | hj
  ·exact f
  ·exact x.lt j hj
 ·rcases List.mem_cons.1 hj with rfl | hj
  ·exact hD
  ·exact x.eff j hj
 ·rcases List.mem_cons.1 hj with rfl | hj
  ·obtain rfl:w=s:=Option.some.inj (m.symm.trans g);obtain rfl:R=d:=Option.some.inj (p.symm.trans C);rw [h1,C];exact (upd_same _ _ _).symm
  ·rw [Cr λe he=>Dm nd f (x.lt j hj) (λe=>h (e▸hj)) g m he p];exact x.done j hj c w R m p
 ·rcases List.mem_cons.1 hj with rfl | hj
  ·rw [hD] at c;cases c
  ·obtain ⟨w,N,b',v',pf⟩:=x.pend j hj c;exact ⟨w,N,b',v',pf.put nd x.lt f h g hj (V.Le.refl _)⟩
theorem G4.unfoldB{k:Nat}(nd:(DA l n).Nodup)(hD:D k=true)(x:G4 E l n cls fl hs ds Lw F σ0 seen effs rds wr ((Kd.b,k) ::aO) σr hr D σ' h') :
  ∃σr' hr',G4 E l n cls fl hs ds Lw F σ0 (k ::seen) (k ::effs) rds wr aO σr' hr' D σ' h':=by
 obtain ⟨o,xs,f,hx,a,g,K,Q,R⟩:=EX x.ok;obtain ⟨m,b,r,s,S,T⟩:=x.td;obtain rfl:m=o:=Option.some.inj (r.symm.trans f);obtain ⟨U,W,u,v⟩:=R;obtain ⟨d,w⟩:=Option.isSome_iff_exists.1 u;obtain ⟨X,y,hL,hU⟩:=x.fld k List.mem_cons_self hD m d f w;obtain rfl:b=X:=(x.guard (x.clos k a hD) Q s).uniq y;obtain ⟨hr',z,A⟩:∃hr',Gw (fl && !wr) hr' h'/\TD E l n (fl && !wr) hs ds Lw F aO (putS σr m.dst (σ' d)) hr':=by
  cases b with
  | true=>exact ⟨h',Gw.refl _ _,T rfl (σ' d) h' x.gw.1 (hL rfl)⟩
  | false=>exact ⟨hr,x.gw,by rw [hU rfl];exact S rfl⟩
 refine ⟨putS σr m.dst (σ' d),hr',A,v,z,λt N=>?_,λj hj=>?_,λj hj=>?_,λB j hj C=>x.rest B j (List.mem_cons_of_mem _ hj) C,λj hj c p O h i=>?_,λj hj c=>?_,
  λj hj=>x.flo j (List.mem_cons_of_mem _ hj),λj hj c=>(x.flb j (List.mem_cons_of_mem _ hj) c).imp (λq=>Fo q aC) (ZG.put nd x.lt a g f),λj hj=>x.fld j (List.mem_cons_of_mem _ hj),x.mono,x.frm,x.pre,x.clos,x.iniR' nd a f,x.iniS⟩
 ·rw [Cr (Ht a f N)];exact x.base t N
 ·rcases List.mem_cons.1 hj with rfl | hj
  ·exact a
  ·exact x.lt j hj
 ·rcases List.mem_cons.1 hj with rfl | hj
  ·exact hD
  ·exact x.eff j hj
 ·rcases List.mem_cons.1 hj with rfl | hj
  ·obtain rfl:p=m:=Option.some.inj (h.symm.trans f);obtain rfl:O=d:=Option.some.inj (i.symm.trans w);rw [w];exact (upd_same _ _ _).symm
  ·rw [Cr λe he=>Dm nd a (x.lt j hj) (λe=>g (e▸hj)) f h he i];exact x.done j hj c p O h i
 ·rcases List.mem_cons.1 hj with rfl | hj
  ·rw [hD] at c;cases c
  ·obtain ⟨p,H,b',v',pf⟩:=x.pend j hj c;exact ⟨p,H,b',v',pf.put nd x.lt a g f hj (V.Le.refl _)⟩
theorem G4.unfoldL{k:Nat}(x:G4 E l n cls fl hs ds Lw F σ0 seen effs rds wr ((Kd.l,k) ::aO) σr hr D σ' h') :
  G4 E l n cls fl hs ds Lw F σ0 seen effs rds wr aO σr hr D σ' h':=by
 obtain ⟨o,C,u,w,H,K,c,N,O⟩:=EX x.ok;obtain ⟨y,b,f,g,Q,A⟩:=x.td;obtain rfl:y=o:=Option.some.inj (f.symm.trans u);obtain ⟨R,h,B,i⟩:=O;obtain ⟨d,S⟩:=Option.isSome_iff_exists.1 h;have td:TD E l n (fl && !wr) hs ds Lw F aO σr hr:=by
  cases b with
  | true=>exact (A rfl).2
  | false=>exact Q rfl
 refine ⟨td,i,x.gw,x.base,x.lt,x.eff,λm j a p=>x.rest m j (List.mem_cons_of_mem _ a) p,x.done,x.pend,λj a=>x.flo j (List.mem_cons_of_mem _ a),λj a r=>?_,λj a=>x.fld j (List.mem_cons_of_mem _ a),x.mono,x.frm,x.pre,x.clos,x.iniR,x.iniS⟩;by_cases e:j=k
 ·subst e;refine .inr ⟨y,C,b,u,w,λt T=>(c t T).resolve_right (λq=>by cases q.1),N,g,λU σ2 s e W=>?_⟩;have X:=(A U).1;refine BS.move w e (λz ds' h2 q=>?_) (X s (x.gw.1.trans W));obtain ⟨rfl,v,hv,l3,hL⟩:=q;have hz:z=v:=by
   have:=congrFun hv d
   simp only [S,putS,upd_same] at this;exact this
  exact ⟨rfl,v,by rw [hz],l3,hL⟩
 ·refine (x.flb j (List.mem_cons_of_mem _ a) r).imp (λq=>?_) id;rcases List.mem_cons.1 q with e2 | q
  ·cases e2;exact absurd rfl e
  ·exact q
theorem G4.fldPut(x:G4 E l n cls fl hs ds Lw F σ0 seen effs rds wr aO σr hr D σ' h')(nd:(DA l n).Nodup){k:Nat}{o:Oper}{v:aU}{h2:V}(hkn:k<n)(ho:l[k]? =some o)(hkD:D k=false)(l2:h'.Le h2){j:Nat}(hj:(Kd.b,j) ∈ aO)(hjk:j≠k)(hDj:D j=true)
  {o':Oper} {d':Nat} (ho':l[j]? =some o') (hd':o'.dst=some d'):∃b,Gd l o' (putS σ' o.dst v) b/\(b=true->Lw j (putS σ' o.dst v d') h2)/\(b=false->putS σ' o.dst v d'=undef):=by
 obtain ⟨_,_,c,h,f,_,_,i⟩:=C4 x.ok x.lt _ j hj (.inr rfl);obtain rfl:h=o':=Option.some.inj (f.symm.trans ho');obtain ⟨b,m,p,r⟩:=x.fld j hj hDj h d' ho' hd';have e:putS σ' o.dst v d'=σ' d':=Cr λe s=>Dm nd hkn c (λq=>hjk q.symm) ho ho' s hd';refine ⟨b,m.other nd hkn ho λg w d=>⟨(i g w d).1,λq=>?_⟩,λa=>by rw [e];exact x.mono _ _ _ _ l2 (p a),λa=>by rw [e];exact r a⟩
 have:=x.clos j c hDj g (i g w d).2
 rw [q,hkD] at this;cases this
theorem G4.ran{kd:Kd}{k:Nat}{o:Oper}{xs:List Operand}{v:aU}{hr2 h2:V}{wr':Bool}(nd:(DA l n).Nodup)(hkD:D k=false)(hkl:kd≠.l)(ho:l[k]? =some o)(hkn:k<n)(hks:k ∉ seen)(hcl:∀q ∈ cls.getD k [],D q=true)
  (x:G4 E l n cls fl hs ds Lw F σ0 seen effs rds wr ((kd,k) ::aO) σr hr D σ' h') (td:TD E l n (fl && !wr') hs ds Lw F aO (putS σr o.dst v) hr2) (ok':Fm P l n cls fl aO (k ::seen) (k ::effs) rds wr'=true) (gw:Gw (fl && !wr') hr2 h2)
  (how:(wr'=wr/\h'.Le h2)\/(wr'=true/\(∀q ∈ rds,D q=true)/\Lw n undef h2)) :
  G4 E l n cls fl hs ds Lw F σ0 (k ::seen) (k ::effs) rds wr' aO (putS σr o.dst v) hr2 (Gb D k) (putS σ' o.dst v) h2:=by
 refine ⟨td,ok',gw,λt z=>?_,λj hj=>?_,λj hj=>?_,λw j hj h=>?_,λj hj a i y d f=>?_,λj hj a=>?_,λj hj a i t y d A f=>?_,λj hj a=>?_,λj hj a i y d f=>?_,x.mono,(by rcases how with ⟨_,g⟩ | ⟨_,_,S⟩;exact x.mono _ _ _ _ g x.frm;exact S),λm=>?_,λj B a q R=>?_,x.iniR' nd hkn ho,x.iniS' nd hkn ho⟩
 ·rw [Cr (Ht hkn ho z),Cr (Ht hkn ho z)];exact x.base t z
 ·rcases List.mem_cons.1 hj with rfl | hj
  ·exact hkn
  ·exact x.lt j hj
 ·rcases List.mem_cons.1 hj with rfl | hj
  ·exact IR
  ·exact FK (x.eff j hj)
 ·have b:=(DL ok' w j hj).1;rw [CK λe=>b (by rw [e];exact List.mem_cons_self)];exact x.rest w j (List.mem_cons_of_mem _ hj) h
 ·rcases List.mem_cons.1 hj with rfl | hj
  ·obtain rfl:i=o:=Option.some.inj (d.symm.trans ho);rw [f];exact (upd_same _ _ _).trans (upd_same _ _ _).symm
  ·have c:j≠k:=λe=>hks (e▸hj);rw [CK c] at a;have h:∀e,o.dst=some e->y≠e:=λe C=>Dm nd hkn (x.lt j hj) (λe=>c e.symm) ho d C f;rw [Cr h,Cr h];exact x.done j hj a i y d f
 ·rcases List.mem_cons.1 hj with rfl | hj
  ·rw [IR] at a;cases a
  ·have c:j≠k:=λe=>hks (e▸hj);rw [CK c] at a;obtain ⟨i,u,H,K,p⟩:=x.pend j hj a;rcases how with ⟨_,g⟩ | ⟨_,N,O⟩
   ·exact ⟨i,u,H,K,p.put nd x.lt hkn hks ho hj g⟩
   ·have Q:PF E l n cls ds Lw σ0 seen rds σr h2 j i u H K:=⟨p.at',p.op,p.val,p.gfix,p.gd,λT=>by obtain ⟨σk,U,y1,W⟩:=p.vop T;exact ⟨σk,U,W.elim (λX=>by rw [N j X] at a;cases a) λs=>⟨s h2 O,.inr s⟩⟩,p.is⟩;exact ⟨i,u,H,K,Q.put nd x.lt hkn hks ho hj (V.Le.refl _)⟩
 ·have b:=(DL ok' _ j hj);have c:j≠k:=λe=>b.1 (by rw [e];exact List.mem_cons_self);rw [CK c] at a;obtain ⟨r,h1,h3,h4⟩:=x.flo j (List.mem_cons_of_mem _ hj) a i t y d A f;rcases how with ⟨_,g⟩ | ⟨m,_⟩
  ·exact ⟨r,by rw [Cr λe C=>Dm nd hkn b.2 (λe=>c e.symm) ho d C f];exact h1,h3,g.get h4⟩
  ·have:=(C4 ok' (G5 x.lt hkn) _ j hj (.inl rfl)).2.1;rw [m] at this;cases this
 ·have b:=(DL ok' _ j hj);have c:j≠k:=λe=>b.1 (by rw [e];exact List.mem_cons_self);rw [CK c] at a;rcases how with ⟨_,g⟩ | ⟨m,_⟩
  ·exact (x.flb j (List.mem_cons_of_mem _ hj) a).imp (λq=>Fo q hkl.symm) λq=>(q.put nd x.lt hkn hks ho).le g
  ·have:=(C4 ok' (G5 x.lt hkn) _ j hj (.inr rfl)).2.1;rw [m] at this;cases this
 ·have b:=(DL ok' _ j hj);have c:j≠k:=λe=>b.1 (by rw [e];exact List.mem_cons_self);rw [CK c] at a;rcases how with ⟨_,g⟩ | ⟨m,_⟩
  ·exact x.fldPut nd hkn ho hkD g (List.mem_cons_of_mem _ hj) c a d f
  ·have:=(C4 ok' (G5 x.lt hkn) _ j hj (.inr rfl)).2.1;rw [m] at this;cases this
 ·rcases how with ⟨e,g⟩ | ⟨e,_⟩
  ·exact (x.pre (e▸m)).trans g
  ·rw [e] at m;cases m
 ·by_cases e:j=k
  ·subst e;exact FK (hcl q R)
  ·rw [CK e] at a;exact FK (x.clos j B a q R)
def TdAt(E:F8 P)(l:List Oper)(n:Nat)(cls:List (List Nat))(fl:Bool)(hs:V)(ds:List Deferred)(Lw:Nat->aU->V->Prop)(F:(Nat->aU)->V->Prop)(σ0:Nat->aU)(D:Nat->Bool)(σ':Nat->aU)(h':V):Prop:=
 ∃seen effs rds wr aO σr hr,G4 E l n cls fl hs ds Lw F σ0 seen effs rds wr aO σr hr D σ' h'
abbrev RunK(E:F8 P)(l:List Oper)(n:Nat)(cls:List (List Nat))(fl:Bool)(hs:V)(ds:List Deferred)(Lw:Nat->aU->V->Prop)(F:(Nat->aU)->V->Prop)(σ0:Nat->aU)(D:Nat->Bool)(σ':Nat->aU)(h':V)(k:Nat)(o:Oper):Prop:=
 (Ck l o σ'->BS E o σ' ds h' λσ'' ds'' h''=>ds''=ds/\TdAt E l n cls fl hs ds Lw F σ0 (Gb D k) σ'' h'')/\(¬Ck l o σ'->TdAt E l n cls fl hs ds Lw F σ0 (Gb D k) (putS σ' o.dst undef) h')
theorem G4.runV{k:Nat}{o:Oper}(nd:(DA l n).Nodup)(ho:l[k]? =some o)(hks:k ∈ seen)(hkD:D k=false)(hcl:∀q ∈ cls.getD k [],D q=true)(x:G4 E l n cls fl hs ds Lw F σ0 seen effs rds wr aO σr hr D σ' h') :
  RunK E l n cls fl hs ds Lw F σ0 D σ' h' k o:=by
 obtain ⟨C,xs,b,v,m⟩:=x.pend k hks hkD;obtain rfl:C=o:=Option.some.inj (m.at'.symm.trans ho);have i:=x.lt k hks;have p:=(x.guard hcl m.gfix m.gd).iff;have s:G4 E l n cls fl hs ds Lw F σ0 seen effs rds wr aO σr hr (Gb D k) (putS σ' C.dst (if b=true then v else undef)) h':=by
  refine ⟨x.td,x.ok,x.gw,λt B=>?_,x.lt,λj g=>FK (x.eff j g),λu j g H=>?_,λj g a w A h f=>?_,λj g a=>?_,λj g a w t A h K f=>?_,λj g a=>?_,λj g a w A h f=>?_,x.mono,x.frm,x.pre,λj N a q R=>?_,x.iniR,x.iniS' nd i ho⟩
  ·rw [Cr (Ht i ho B)];exact x.base t B
  ·have d:=(DL x.ok u j g).1;rw [CK λ(e:j=k)=>d (by rw [e];exact hks)];exact x.rest u j g H
  ·by_cases c:j=k
   ·subst c;obtain rfl:w=C:=Option.some.inj (h.symm.trans ho);rw [m.is A f,f];exact upd_same _ _ _
   ·rw [CK c] at a;rw [Cr λe O=>Dm nd i (x.lt j g) (λe=>c e.symm) ho h O f];exact x.done j g a w A h f
  ·by_cases c:j=k
   ·subst c;rw [IR] at a;cases a
   ·rw [CK c] at a;exact x.pend j g a
  ·have d:=DL x.ok _ j g;have c:j≠k:=λe=>d.1 (by rw [e];exact hks);rw [CK c] at a;obtain ⟨r,S,T⟩:=x.flo j g a w t A h K f;exact ⟨r,by rw [Cr λe O=>Dm nd i d.2 (λe=>c e.symm) ho h O f];exact S,T⟩
  ·have d:=DL x.ok _ j g;have c:j≠k:=λe=>d.1 (by rw [e];exact hks);rw [CK c] at a;exact x.flb j g a
  ·have d:=DL x.ok _ j g;have c:j≠k:=λe=>d.1 (by rw [e];exact hks);rw [CK c] at a;exact x.fldPut nd i ho hkD (V.Le.refl _) g c a h f
  ·by_cases e:j=k
   ·subst e;exact FK (hcl q R)
   ·rw [CK e] at a;exact FK (x.clos j N a q R)
 refine ⟨λQ=>?_,λQ=>?_⟩
 ·obtain rfl:=p.1 Q;obtain ⟨σk,U,W,_⟩:=m.vop rfl;have y:=W.move (σ2:=σ') m.val m.op (λt B=>(U t B).elim (λq=>q.2.trans (x.agree hcl q.1)) λq=>q.2.trans (x.late hkD q.1).symm) (V.Le.refl _);refine BS.move m.op (λ_ _=>rfl) (λz X h'' q=>?_) y;obtain ⟨q1,rfl,rfl⟩:=q;exact ⟨rfl,_,_,_,_,_,_,_,by rw [q1];exact s⟩
 ·cases b with
  | true=>exact absurd (p.2 rfl) Q
  | false=>exact ⟨_,_,_,_,_,_,_,s⟩
theorem TD.grow{E:F8 P}{fl2:Bool}:∀{aO:List (Kd×Nat)}{seen effs rds:List Nat}{wr fl:Bool}{O:Nat->aU}{h h':V},Fm P l n cls fl2 aO seen effs rds wr=true->Gw fl h h'->TD E l n fl hs ds Lw F aO O h->TD E l n false hs ds Lw F aO O h'
 | [],_,_,_,_,fl,O,h,h',_,g,x=>λy i=>by rw [i.2 rfl];exact x h' g
 | (C,k) ::aO,_,_,_,_,fl,O,h,h',z,g,⟨o,b,A,s,H,K⟩=>by
  obtain ⟨B,W,u,y,_,_,_,_,N⟩:=EX z;obtain rfl:B=o:=Option.some.inj (u.symm.trans A);obtain ⟨_,_,_,_,d,_⟩:=GF z;refine ⟨B,b,A,s,λe=>TD.grow d g (H e),λe=>?_⟩;have c:=K e;cases C with
  | p=>obtain ⟨v,a,j⟩:=c;exact ⟨v,a,TD.grow d g j⟩
  | r=>obtain ⟨v,a,j⟩:=c;exact ⟨v,a.move N.1 y (λ_ _=>rfl) g.1,TD.grow d g j⟩
  | e=>intro f i;rw [i.2 rfl];exact (c h' g).mono λ_ _ _ ⟨Q,v,R,S,j⟩=>⟨Q,v,R,S,TD.grow d (Gw.refl _ _) j⟩
  | w=>intro f i;rw [i.2 rfl];exact c h' g
  | a=>intro t r f T m hr U;exact TD.grow d (Gw.refl _ _) (c t r f T (g.1.trans m) hr U)
  | l=>exact ⟨λf m=>c.1 f (g.1.trans m),TD.grow d g c.2⟩
  | b=>intro v f m q;exact TD.grow d (Gw.refl _ _) (c v f (g.1.trans m) q)
theorem G4.runE{kd:Kd}{k:Nat}{o:Oper}(nd:(DA l n).Nodup)(hkd:kd=.e\/kd=.w)(ho:l[k]? =some o)(hcl:∀q ∈ cls.getD k [],D q=true)(x:G4 E l n cls fl hs ds Lw F σ0 seen effs rds wr ((kd,k) ::aO) σr hr D σ' h') :
  RunK E l n cls fl hs ds Lw F σ0 D σ' h' k o:=by
 obtain ⟨N,xs,m,O,c,f,g,S,h⟩:=EX x.ok;obtain rfl:N=o:=Option.some.inj (m.symm.trans ho);obtain ⟨i,b,p,r,Q,R⟩:=x.td;obtain rfl:i=N:=Option.some.inj (p.symm.trans ho);have j:=(x.guard hcl S r).iff;have a:D k=false:=x.rest kd k List.mem_cons_self (by rcases hkd with e | e <;> rw [e] <;> rfl);refine ⟨λs=>?_,λs=>?_⟩
 ·obtain rfl:=j.1 s;rcases hkd with rfl | rfl
  ·refine (R rfl h' x.gw).move O (λt u=>x.agree2 hcl a (g t u)) λz y A q=>?_;obtain ⟨rfl,v,B,T,td⟩:=q;refine ⟨rfl,?_⟩;have e:putS σ' i.dst z=putS σ' i.dst v:=by
    cases C:i.dst with
    | none=>rfl
    | some d=>
     have:=congrFun B d
     simp only [C,putS,upd_same] at this;rw [this]
   rw [e];exact ⟨_,_,_,_,_,_,_,x.ran (xs:=xs) nd a aC ho c f hcl td h.2 (Gw.refl _ _) (.inl ⟨rfl,T⟩)⟩
  ·refine (R rfl h' x.gw).move O (λt u=>x.agree2 hcl a (g t u)) λz y A q=>?_;obtain ⟨rfl,v,B,H,td⟩:=q;refine ⟨rfl,?_⟩;have e:putS σ' i.dst z=putS σ' i.dst v:=by
    cases C:i.dst with
    | none=>rfl
    | some d=>
     have:=congrFun B d
     simp only [C,putS,upd_same] at this;rw [this]
   rw [e];exact ⟨_,_,_,_,_,_,_,x.ran (xs:=xs) nd a aC ho c f hcl (by rw [Bool.not_true,Bool.and_false];exact td) h.2.2 (Gw.refl _ _) (.inr ⟨rfl,λq K=>hcl q (h.2.1 q K),H⟩)⟩
 ·cases b with
  | true=>exact absurd (j.2 rfl) s
  | false=>
   rcases hkd with rfl | rfl
   ·exact ⟨_,_,_,_,_,_,_,x.ran (xs:=xs) nd a aC ho c f hcl (Q rfl) h.2 x.gw (.inl ⟨rfl,V.Le.refl _⟩)⟩
   ·exact ⟨_,_,_,_,_,_,_,x.ran (xs:=xs) nd a aC ho c f hcl (by rw [Bool.not_true,Bool.and_false];exact TD.grow h.2.2 x.gw (Q rfl)) h.2.2 (Gw.refl _ _) (.inr ⟨rfl,λq K=>hcl q (h.2.1 q K),x.frm⟩)⟩
theorem HG:∀{aO:List (Kd×Nat)}{seen effs rds:List Nat}{wr:Bool},Fm P l n cls fl aO seen effs rds wr=true->∀{kd1 kd2:Kd}{j:Nat},(kd1,j) ∈ aO->(kd2,j) ∈ aO->kd1≠.l->kd2≠.l->kd1=kd2
 | [],_,_,_,_,_,_,_,_,h,_,_,_=>by cases h
 | (i,k) ::aO,seen,effs,rds,wr,x,kd1,kd2,j,f,g,b,c=>by
  obtain ⟨seen',m,o,p,a,_,z,_⟩:=GF x;rcases List.mem_cons.1 f with d | h3 <;> rcases List.mem_cons.1 g with e | h4
  ·cases d;cases e;rfl
  ·cases d;exact absurd (by rw [z b];exact List.mem_cons_self) (DL a _ _ h4).1
  ·cases e;exact absurd (by rw [z c];exact List.mem_cons_self) (DL a _ _ h3).1
  ·exact HG a h3 h4 b c
theorem G4.runA{k:Nat}{o:Oper}(nd:(DA l n).Nodup)(hk:(Kd.a,k) ∈ aO)(hkD:D k=false)(ho:l[k]? =some o)(hcl:∀q ∈ cls.getD k [],D q=true)(x:G4 E l n cls fl hs ds Lw F σ0 seen effs rds wr aO σr hr D σ' h') :
  RunK E l n cls fl hs ds Lw F σ0 D σ' h' k o:=by
 obtain ⟨U,B,h,R,W,C,H,_⟩:=C4 x.ok x.lt _ k hk (.inl rfl);obtain ⟨i,K⟩:=C rfl;obtain rfl:R=o:=Option.some.inj (W.symm.trans ho);have N:=(DL x.ok _ k hk).1;obtain ⟨t,v⟩:∃t,R.op=.alloc t:=by
  cases S:R.op <;> rw [S] at i <;> first | exact ⟨_,rfl⟩ | cases i
 have X:Bb P t=some (zOf P t):=by
  rw [v] at i;obtain ⟨z,X⟩:=Option.isSome_iff_exists.1 (show (Bb P t).isSome=true from i);unfold zOf;rw [X];rfl
 refine ⟨λ_=>?_,λhG=>absurd (by unfold Ck;rw [K];trivial) hG⟩;obtain ⟨dst,op,ty,pos,af,gd⟩:=R;simp only at v H K;subst v;obtain ⟨d,rfl⟩:=Option.isSome_iff_exists.1 H;refine AS X λr h2 O w hnb hoth=>⟨rfl,seen,effs,rds,wr,aO,σr,hr,x.td,x.ok,⟨x.gw.1.trans w,λe=>by rw [U,B] at e;cases e⟩,λt' ht=>?_,x.lt,λj c=>FK (x.eff j c),λkd' j c m=>?_,λj c b A T f g=>?_,λj c b=>?_,λj c b A t' T f u g=>?_,λj c b=>?_,λj c b A T f g=>?_,x.mono,x.mono _ _ _ _ w x.frm,λhw=>(x.pre hw).trans w,λj hjn b q S=>?_,x.iniR,x.iniS' nd h ho⟩
 ·rw [Cr (Ht h ho ht)];exact x.base t' ht
 ·by_cases e:j=k
  ·subst e;rw [HG x.ok c hk (by rintro rfl;cases m) aC] at m;cases m
  ·rw [CK e];exact x.rest kd' j c m
 ·have p:j≠k:=λe=>N (e▸c);rw [CK p] at b;rw [Cr λe he=>Dm nd h (x.lt j c) (λe=>p e.symm) ho f he g];exact x.done j c b A T f g
 ·have p:j≠k:=λe=>N (e▸c);rw [CK p] at b;obtain ⟨A,xs',b',v',s⟩:=x.pend j c b;exact ⟨A,xs',b',v',s.at',s.op,s.val,s.gfix,s.gd,λhb=>by obtain ⟨σk,y0,y1,y2⟩:=s.vop hb;exact ⟨σk,y0,y1.move s.val s.op (λ_ _=>rfl) w,y2⟩,s.is⟩
 ·by_cases e:j=k
  ·subst e;cases f.symm.trans ho;cases g;cases u;have hb0:hs r=none:=by
    cases hb:hs r with
    | none=>rfl
    | some y=>rw [(x.pre B).get hb] at O;cases O
   exact ⟨r,upd_same _ _ _,hb0,hnb⟩
  ·rw [CK e] at b;have Q:=DL x.ok _ j c;obtain ⟨r',h1,h3,h4⟩:=x.flo j c b A t' T f u g;exact ⟨r',by rw [Cr λe' he=>Dm nd h Q.2 (λq=>e q.symm) ho f he g];exact h1,h3,w.get h4⟩
 ·have e:j≠k:=λe=>by subst e;cases HG x.ok c hk aC aC
  rw [CK e] at b;exact (x.flb j c b).imp id (ZG.le w)
 ·have e:j≠k:=λe=>by subst e;cases HG x.ok c hk aC aC
  rw [CK e] at b;exact x.fldPut nd h ho hkD w c e b f g
 ·by_cases e:j=k
  ·subst e;exact FK (hcl q S)
  ·rw [CK e] at b;exact FK (x.clos j hjn b q S)
theorem G4.reachB{k:Nat}(nd:(DA l n).Nodup)(hkD:D k=false)(hcl:∀q ∈ cls.getD k [],D q=true):∀{aO:List (Kd×Nat)}{seen effs rds:List Nat}{wr:Bool} {σr:Nat->aU} {hr:V},
  G4 E l n cls fl hs ds Lw F σ0 seen effs rds wr aO σr hr D σ' h'->(Kd.b,k) ∈ aO->∃seen effs rds wr π' σr hr,G4 E l n cls fl hs ds Lw F σ0 seen effs rds wr π' σr hr D σ' h'/\(Kd.b,k) ∈ π'/\ZG E l n cls ds Lw seen σr h' k:=by
 intro aO
 induction aO with
 | nil=>intro _ _ _ _ _ _ _ h;cases h
 | cons y aO j=>
  intro seen effs rds wr σr hr x f;obtain ⟨d,u⟩:=y;rcases x.flb k f hkD with v | hp
  ·by_cases o:d=.l
   ·subst o;exact j x.unfoldL (Fo f aC)
   ·have s:=Fo v (Ne.symm o);have c:d=.e\/d=.w\/d=.a\/d=.b->D u=true:=λA=>by
     obtain ⟨C,H,K,N,t,_,_,_,_,z⟩:=GF x.ok;exact hcl _ (On t .l k s aC aC u (z A))
    cases d with
    | p=>obtain ⟨m,σr',g⟩:=x.unfoldV nd (.inl rfl);exact j g (Fo f aC)
    | r=>obtain ⟨m,σr',g⟩:=x.unfoldV nd (.inr rfl);exact j g (Fo f aC)
    | e=>have:=x.rest _ _ List.mem_cons_self rfl;rw [c (.inl rfl)] at this;cases this
    | w=>have:=x.rest _ _ List.mem_cons_self rfl;rw [c (.inr (.inl rfl))] at this;cases this
    | a=>obtain ⟨σr',g⟩:=x.unfoldA nd (c (.inr (.inr (.inl rfl))));exact j g (Fo f aC)
    | l=>exact absurd rfl o
    | b=>
     have i:=c (.inr (.inr (.inr rfl)));obtain ⟨σr',B,g⟩:=x.unfoldB nd i;rcases List.mem_cons.1 f with e | hm2
     ·cases e;rw [hkD] at i;cases i
     ·exact j g hm2
  ·exact ⟨_,_,_,_,_,_,_,x,f,hp⟩
theorem G4.runB{k:Nat}{o:Oper}(nd:(DA l n).Nodup)(hk0:(Kd.b,k) ∈ aO)(hkD:D k=false)(ho:l[k]? =some o)(hcl:∀q ∈ cls.getD k [],D q=true)(x0:G4 E l n cls fl hs ds Lw F σ0 seen effs rds wr aO σr hr D σ' h') :
  RunK E l n cls fl hs ds Lw F σ0 D σ' h' k o:=by
 obtain ⟨seen,effs,rds,wr,aO,σr,hr,x,T,hp⟩:=x0.reachB nd hkD hcl hk0;obtain ⟨W,X,i,o2,ho2,_,hds,_⟩:=C4 x.ok x.lt _ k T (.inr rfl);obtain rfl:o2=o:=Option.some.inj (ho2.symm.trans ho);have y:=(DL x.ok _ k T).1;obtain ⟨H,xs,b,ho3,hx,K,hg,hgd,N⟩:=hp;obtain rfl:H=o2:=Option.some.inj (ho3.symm.trans ho);obtain ⟨d,hd⟩:=Option.isSome_iff_exists.1 hds;have A:=x.guard hcl hg hgd;have hgo:∀v,Gd l H (putS σ' H.dst v) b:=λv=>A.other nd i ho λg w e=>⟨x.lt g (hg g w e).1,λq=>y (q▸(hg g w e).1)⟩;have O:∀(v:aU)(C:V),h'.Le C->(b=true->Lw k v C)->(b=false->v=undef)->TdAt E l n cls fl hs ds Lw F σ0 (Gb D k) (putS σ' H.dst v) C:=by
  intro v C m hL hU;refine ⟨seen,effs,rds,wr,aO,σr,hr,x.td,x.ok,⟨x.gw.1.trans m,λe=>by rw [W,X] at e;cases e⟩,λt' U=>?_,x.lt,λj c=>FK (x.eff j c),λkd' j c p=>?_,λj c a B u h f=>?_,λj c a=>?_,λj c a B t' u h Q f=>?_,λj c a=>?_,λj c a B u h f=>?_,x.mono,x.mono _ _ _ _ m x.frm,λhw=>(x.pre hw).trans m,λj hjn a q hq=>?_,x.iniR,x.iniS' nd i ho⟩
  ·rw [Cr (Ht i ho U)];exact x.base t' U
  ·by_cases e:j=k
   ·subst e;rw [HG x.ok c T (by rintro rfl;cases p) aC] at p;cases p
   ·rw [CK e];exact x.rest kd' j c p
  ·have r:j≠k:=λe=>y (e▸c);rw [CK r] at a;rw [Cr λe he=>Dm nd i (x.lt j c) (λe=>r e.symm) ho h he f];exact x.done j c a B u h f
  ·have r:j≠k:=λe=>y (e▸c);rw [CK r] at a;obtain ⟨B,xs',b',v',s⟩:=x.pend j c a;exact ⟨B,xs',b',v',s.at',s.op,s.val,s.gfix,s.gd,λR=>by obtain ⟨σk,y0,y1,y2⟩:=s.vop R;exact ⟨σk,y0,y1.move s.val s.op (λ_ _=>rfl) m,y2⟩,s.is⟩
  ·have e:j≠k:=λe=>by subst e;cases HG x.ok c T aC aC
   rw [CK e] at a;have S:=DL x.ok _ j c;obtain ⟨r',h1,h3,h4⟩:=x.flo j c a B t' u h Q f;exact ⟨r',by rw [Cr λe' he=>Dm nd i S.2 (λq=>e q.symm) ho h he f];exact h1,h3,m.get h4⟩
  ·have e:j≠k:=λe=>by subst e;rw [IR] at a;cases a
   rw [CK e] at a;exact (x.flb j c a).imp id (ZG.le m)
  ·by_cases e:j=k
   ·subst e;obtain rfl:B=H:=Option.some.inj (h.symm.trans ho);refine ⟨b,hgo v,λR=>?_,λR=>?_⟩
    ·rw [f,show putS σ' (some u) v u=v from upd_same _ _ _];exact hL R
    ·rw [f,show putS σ' (some u) v u=v from upd_same _ _ _];exact hU R
   ·rw [CK e] at a;exact x.fldPut nd i ho hkD m c e a h f
  ·by_cases e:j=k
   ·subst e;exact FK (hcl q hq)
   ·rw [CK e] at a;exact FK (x.clos j hjn a q hq)
 refine ⟨λhG=>?_,λhG=>?_⟩
 ·obtain rfl:=A.iff.1 hG;refine BS.move hx (λ_ _=>rfl) (λz ds' C q=>?_) (N rfl σ' h' (λt U=>x.agree hcl (K t U)) (V.Le.refl _));obtain ⟨rfl,v,hv,m,hL⟩:=q;rw [hv];exact ⟨rfl,O v C m (λ_=>hL) (λe=>by cases e)⟩
 ·cases b with
  | true=>exact absurd (A.iff.2 rfl) hG
  | false=>exact O undef h' (V.Le.refl _) (λe=>by cases e) (λ_=>rfl)
theorem G4.reach{kd:Kd}{i:Nat}(nd:(DA l n).Nodup)(hne:kd.fix=true)(hcl:∀q ∈ cls.getD i [],D q=true):∀{aO:List (Kd×Nat)}{seen effs rds:List Nat}{wr:Bool} {σr:Nat->aU} {hr:V},
  G4 E l n cls fl hs ds Lw F σ0 seen effs rds wr aO σr hr D σ' h'->(kd,i) ∈ aO->∃seen effs rds wr π' σr hr,G4 E l n cls fl hs ds Lw F σ0 seen effs rds wr ((kd,i) ::π') σr hr D σ' h':=by
 intro aO
 induction aO with
 | nil=>intro _ _ _ _ _ _ _ h;cases h
 | cons y aO g=>
  intro seen effs rds wr σr hr x t;obtain ⟨c,m⟩:=y;rcases List.mem_cons.1 t with e | hm2
  ·cases e;exact ⟨_,_,_,_,_,_,_,x⟩
  ·have o:c=.p\/c=.r->∃seen effs rds wr π' σr hr,G4 E l n cls fl hs ds Lw F σ0 seen effs rds wr ((kd,i) ::π') σr hr D σ' h':=λj=>by
    obtain ⟨s,σr',f⟩:=x.unfoldV nd j;exact g f hm2
   have d:c=.e\/c=.w\/c=.a\/c=.b->D m=true:=λj=>by
    obtain ⟨v,A,B,C,k,_,_,_,_,z⟩:=GF x.ok;exact hcl _ (On k kd i hm2 (by rintro rfl;cases hne) (by rintro rfl;cases hne) m (z j))
   cases c with
   | p=>exact o (.inl rfl)
   | r=>exact o (.inr rfl)
   | e=>have:=x.rest _ _ List.mem_cons_self rfl;rw [d (.inl rfl)] at this;cases this
   | w=>have:=x.rest _ _ List.mem_cons_self rfl;rw [d (.inr (.inl rfl))] at this;cases this
   | a=>
    obtain ⟨σr',f⟩:=x.unfoldA nd (d (.inr (.inr (.inl rfl))));exact g f hm2
   | l=>exact g x.unfoldL hm2
   | b=>
    obtain ⟨σr',u,f⟩:=x.unfoldB nd (d (.inr (.inr (.inr rfl))));exact g f hm2
theorem G4.ends(nd:(DA l n).Nodup)(hall:∀i,i<n->D i=true):∀{aO:List (Kd×Nat)}{seen effs rds:List Nat}{wr:Bool} {σr:Nat->aU} {hr:V},
  G4 E l n cls fl hs ds Lw F σ0 seen effs rds wr aO σr hr D σ' h'->F σ' h':=by
 intro aO
 induction aO with
 | nil=>
  intro seen effs rds wr σr hr x;have e:σ'=σr:=funext λt=>by
   cases f:(DA l n).contains t with
   | false=>exact x.base t f
   | true=>
    rw [List.contains_iff_mem] at f;simp only [DA,List.mem_filterMap] at f;obtain ⟨o,s,u⟩:=f;obtain ⟨k,c⟩:=List.mem_iff_getElem?.1 s;have d:k<n:=by
     have:=(List.getElem?_eq_some_iff.1 c).1
     simp at this;omega
    have g:l[k]? =some o:=by rw [List.getElem?_take] at c;simpa [d] using c
    rcases Om x.ok k d with h | ⟨_,h,_⟩
    ·exact x.done k h (hall k d) o t g u
    ·cases h
  rw [e];exact x.td h' x.gw
 | cons y aO j=>
  intro seen effs rds wr σr hr x;obtain ⟨q,k⟩:=y;have c:=(DL x.ok q k List.mem_cons_self).2;cases q with
  | a=>obtain ⟨σr',m⟩:=x.unfoldA nd (hall k c);exact j m
  | b=>obtain ⟨σr',v,m⟩:=x.unfoldB nd (hall k c);exact j m
  | l=>exact j x.unfoldL
  | p=>have:=x.rest _ k List.mem_cons_self rfl;rw [hall k c] at this;cases this
  | r=>have:=x.rest _ k List.mem_cons_self rfl;rw [hall k c] at this;cases this
  | e=>have:=x.rest _ k List.mem_cons_self rfl;rw [hall k c] at this;cases this
  | w=>have:=x.rest _ k List.mem_cons_self rfl;rw [hall k c] at this;cases this
end
def S1(c:List Nat)(k:List Nat->Bool):Bool:=match c with
 | []=>k []
 | x ::xs=>S1 xs λxs'=>k (x ::xs')
theorem Re:∀(c:List Nat)(k:List Nat->Bool),S1 c k=k c
 | [],_=>rfl
 | x ::a,k=>by unfold S1;rw [Re a]
def S3(cls:List (List Nat))(k:List (List Nat)->Bool):Bool:=match cls with
 | []=>k []
 | c ::cs=>S3 cs λcs'=>k (c ::cs')
theorem Rf:∀(cls:List (List Nat))(k:List (List Nat)->Bool),S3 cls k=k cls
 | [],_=>rfl
 | c ::a,k=>by unfold S3;exact Rf a _
def Rh(l:List Oper):List Oper->Nat->List (List Nat)->(List (List Nat)->Bool)->Bool
 | [],_,acc,c=>S3 acc.reverse c
 | o ::os,k,acc,c=>S1 ((List.range k).filter λj=>Hr o j || (List.range k).any λe=>Hr o e && (acc.getD (k-1-e) []).contains j) λx=>Rh l os (k+1) (x ::acc) c
theorem Iz{l:List Oper}{c:List (List Nat)->Bool}:∀{os:List Oper}{k:Nat}{acc:List (List Nat)},Rh l os k acc c=true->∃cls,c cls=true
 | [],k,acc,h=>⟨acc.reverse,(Rf acc.reverse c).symm.trans h⟩
 | o ::os,k,acc,h=>by unfold Rh at h;rw [Re] at h;exact Iz h
def Ri(P:Program)(N:Nat)(l:List Oper)(n:Nat)(cls:List (List Nat))(fl:Bool)(aO:List (Kd×Nat)):Bool:=Ez N l n cls && Fm P l n cls fl aO [] [] [] false && aO.all λx=>x.1 !=.b || aO.contains (.l,x.2)
theorem td_core{Lw:Nat->aU->V->Prop}{F:(Nat->aU)->V->Prop}{id:Nat}{l:List Oper}{O:Nat->aU}{ds:List Deferred}{h:V}(n:Nat)(cls:List (List Nat))(fl:Bool)(aO:List (Kd×Nat))(hm:P.follows .mixedOrders=true)
  (hL:∀k v h1 h2,V.Le h1 h2->Lw k v h1->Lw k v h2) (hF:Lw n undef h) (ok:Ri P E.N l n cls fl aO=true) (x:TD E l n fl h ds Lw F aO O h) {b:Frame} {k:List Item} {cs:List Frame} {t:Array aU} (hb:b.fn=E.fn) (hr:b.roundOf=E.rd) (hs:BX t E.N O)
  (y:∀σ' h',F σ' h'->∀t',BX t' E.N σ'->E.wk.K (G (Cc b t' ds (.inRegion l.toArray (List.range' n (l.drop n).length) ::k)) cs) h') :
  E.wk.K (G (Cc b t ds (.code (.region id l.toArray true) ::k)) cs) h:=by
 unfold Ri at ok;rw [Bool.and_eq_true,Bool.and_eq_true] at ok;obtain ⟨⟨s,H⟩,Q⟩:=ok;have g:(DA l n).Nodup:=by
  have:=s
  unfold Ez at this;simp only [Bool.and_eq_true] at this;exact of_decide_eq_true this.1.2
 refine Od n cls (TdAt E l n cls fl h ds Lw F O) hm s ?_ ?_ hb hr hs ?_
 ·exact ⟨[],[],[],false,aO,O,h,by rw [Bool.not_false,Bool.and_true];exact x,H,Gw.refl _ _,λ_ _=>rfl,(λ_ f=>by cases f),(λ_ f=>by cases f),(λ_ _ _ _=>rfl),(λ_ f=>by cases f),(λ_ f=>by cases f),(λ_ _ u=>by cases u),(λk f _=>.inl (by have:=List.all_eq_true.1 Q _ f;simpa using this)),(λ_ _ u=>by cases u),hL,hF,(λ_=>V.Le.refl _),(λ_ _ u=>by cases u),(λ_ _ _ _ _ _ _=>rfl),(λ_ _ _ _ _ _ _=>rfl)⟩
 ·rintro D σ' h' i o ⟨seen,effs,A,X,π',σr,hr,m⟩ R j q c hgl;rcases Om m.ok i R with hs | ⟨S,f,T⟩
  ·exact m.runV g q hs j c
  ·by_cases d:S.fix=false
   ·cases S with
    | a=>exact m.runA g f j q c
    | b=>exact m.runB g f j q c
    | l=>exact absurd rfl T
    | p=>cases d
    | r=>cases d
    | e=>cases d
    | w=>cases d
   ·obtain ⟨seen,effs,A,X,π'',σr,hr,z⟩:=m.reach g (by simpa using d) c f;cases S with
    | p=>
     obtain ⟨B,σr',U⟩:=z.unfoldV g (.inl rfl);exact U.runV g q List.mem_cons_self j c
    | r=>
     obtain ⟨B,σr',U⟩:=z.unfoldV g (.inr rfl);exact U.runV g q List.mem_cons_self j c
    | e=>exact z.runE g (.inl rfl) q c
    | w=>exact z.runE g (.inr rfl) q c
    | a=>exact absurd rfl d
    | l=>exact absurd rfl d
    | b=>exact absurd rfl d
 ·rintro D σ' h' ⟨seen,effs,A,X,π',σr,hr,m⟩ C t' W;exact y _ _ (m.ends g C) t' W
theorem tr_td{Lw:Nat->aU->V->Prop}{F:(Nat->aU)->V->Prop}{id:Nat}{l:List Oper}{O:Nat->aU}{ds:List Deferred}{h:V}{Q:Post}(n:Nat)(cls:List (List Nat))(fl:Bool)(aO:List (Kd×Nat))(hm:P.follows .mixedOrders=true)
  (hL:∀k v h1 h2,V.Le h1 h2->Lw k v h1->Lw k v h2) (hF:Lw n undef h) (ok:Ri P E.N l n cls fl aO=true) (x:TD E l n fl h ds Lw F aO O h) (y:∀σ' h',F σ' h'->DI E l.toArray (l.drop n) σ' ds h' Q):Tr E (.region id l.toArray true) O ds h Q:=λb k e g t c d i m o=>
 td_core n cls fl aO hm hL hF ok x c d m λσ' h' f p a=>y σ' h' f n b k e g p (λj=>aD) c d i a o
abbrev LoIs(O:Nat->aU)(o:Option Operand)(lo d:Nat):Prop:=match o with
 | none=>lo=d
 | some o=>∃kd,AL O o=.int kd lo
def Nx(m:Nat):Kd×Nat:=if 1000<=m then (if m%2=0 then .l else .b,(m-1000) / 2) else (match m%5 with | 0=>.p | 1=>.r | 2=>.e | 3=>.w | _=>.a,m / 5)
def dK:List Nat->List (Kd×Nat)
 | []=>[]
 | m ::l=>Nx m ::dK l
theorem BJ{id:Nat}{l:List Oper}{O:Nat->aU}{ds:List Deferred}{h:V}{Q:Post}(n:Nat)(fl:Bool)(aO:List Nat)(hm:P.follows .mixedOrders=true)
  (ok:Rh l (l.take n) 0 [] (λcls=>Ri P E.N l n cls fl (dK aO))=true) (x:TD E l n fl h ds (λ_ _ _=>True) (λσ' h'=>DI E l.toArray (l.drop n) σ' ds h' Q) (dK aO) O h):Tr E (.region id l.toArray true) O ds h Q:=
 let ⟨cls,h1⟩:=Iz ok
 tr_td n cls fl (dK aO) hm (λ_ _ _ _ _ y=>y) trivial h1 x λ_ _ y=>y
theorem Fp{id:Nat}{l:List Oper}{O:Nat->aU}{ds:List Deferred}{h:V}{Q:Post}(F:(Nat->aU)->V->Prop)(n:Nat)(fl:Bool)(aO:List Nat)(hm:P.follows .mixedOrders=true)
  (ok:Rh l (l.take n) 0 [] (λcls=>Ri P E.N l n cls fl (dK aO))=true) (x:TD E l n fl h ds (λ_ _ _=>True) F (dK aO) O h) (y:∀σ' h',F σ' h'->DI E l.toArray (l.drop n) σ' ds h' Q):Tr E (.region id l.toArray true) O ds h Q:=
 let ⟨cls,h1⟩:=Iz ok
 tr_td n cls fl (dK aO) hm (λ_ _ _ _ _ y=>y) trivial h1 x y
theorem tr_tdL{id:Nat}{l:List Oper}{O:Nat->aU}{ds:List Deferred}{h:V}{Q:Post}(n:Nat)(Lw:Nat->aU->V->Prop)(hL:∀k v h1 h2,V.Le h1 h2->Lw k v h1->Lw k v h2)(hF:Lw n undef h)(fl:Bool)(aO:List Nat)(hm:P.follows .mixedOrders=true)
  (ok:Rh l (l.take n) 0 [] (λcls=>Ri P E.N l n cls fl (dK aO))=true) (x:TD E l n fl h ds Lw (λσ' h'=>DI E l.toArray (l.drop n) σ' ds h' Q) (dK aO) O h):Tr E (.region id l.toArray true) O ds h Q:=
 let ⟨cls,h1⟩:=Iz ok
 tr_td n cls fl (dK aO) hm hL hF h1 x λ_ _ y=>y
section
variable {l:List Oper} {n:Nat} {fl:Bool} {hs:V} {ds:List Deferred} {Lw:Nat->aU->V->Prop} {F:(Nat->aU)->V->Prop} {aO:List Nat} {O:Nat->aU} {h:V} {m k g d:Nat} {dst:Option Nat} {op:Op} {ty:aV} {pos:String} {af:Array Edge} {v:aU} {w is:Bool} {og:Oper}
theorem vz{U β γ:Type}{a:U}{b:β}{c:γ}:a=a/\b=b/\c=c:=⟨rfl,rfl,rfl⟩
theorem tP(hk:Nx m=(.p,k))(ho:l[k]? =some ⟨dst,op,ty,pos,af,none⟩)(x:∀hx,US E ⟨dst,op,ty,pos,af,none⟩ O ds hx v)(y:TD E l n fl hs ds Lw F (dK aO) (putS O dst v) h):TD E l n fl hs ds Lw F (dK (m ::aO)) O h:=by
 unfold dK;rw [hk];exact ⟨_,true,ho,rfl,λe=>(by cases e),λ_=>⟨v,λhx _=>x hx,y⟩⟩
theorem tR(hk:Nx m=(.r,k))(ho:l[k]? =some ⟨dst,op,ty,pos,af,none⟩)(x:US E ⟨dst,op,ty,pos,af,none⟩ O ds h v)(y:TD E l n fl hs ds Lw F (dK aO) (putS O dst v) h):TD E l n fl hs ds Lw F (dK (m ::aO)) O h:=by
 unfold dK;rw [hk];exact ⟨_,true,ho,rfl,λe=>(by cases e),λ_=>⟨v,x,y⟩⟩
theorem tE(hk:Nx m=(.e,k))(ho:l[k]? =some ⟨dst,op,ty,pos,af,none⟩)
  (x:BS E ⟨dst,op,ty,pos,af,none⟩ O ds h λσ' ds' h'=>ds'=ds/\∃v,σ'=putS O dst v/\h.Le h'/\TD E l n false hs ds Lw F (dK aO) (putS O dst v) h'):TD E l n false hs ds Lw F (dK (m ::aO)) O h:=by
 unfold dK;rw [hk];exact ⟨_,true,ho,rfl,λe=>(by cases e),λ_ b a=>by rw [a.2 rfl];exact x⟩
theorem Hp(hk:Nx m=(.e,k))(ho:l[k]? =some ⟨dst,op,ty,pos,af,none⟩)
  (x:∀hx,h.Le hx->BS E ⟨dst,op,ty,pos,af,none⟩ O ds hx λσ' ds' h'=>ds'=ds/\∃v,σ'=putS O dst v/\hx.Le h'/\TD E l n true hs ds Lw F (dK aO) (putS O dst v) h'):TD E l n true hs ds Lw F (dK (m ::aO)) O h:=by
 unfold dK;rw [hk];exact ⟨_,true,ho,rfl,λe=>(by cases e),λ_ hx a=>x hx a.1⟩
theorem tW(hk:Nx m=(.w,k))(ho:l[k]? =some ⟨dst,op,ty,pos,af,none⟩)
  (x:BS E ⟨dst,op,ty,pos,af,none⟩ O ds h λσ' ds' h'=>ds'=ds/\∃v,σ'=putS O dst v/\TD E l n false hs ds (λ_ _ _=>True) F (dK aO) (putS O dst v) h'):TD E l n false hs ds (λ_ _ _=>True) F (dK (m ::aO)) O h:=by
 unfold dK;rw [hk];exact ⟨_,true,ho,rfl,λe=>(by cases e),λ_ b a=>by rw [a.2 rfl];exact x.mono λ_ _ _ q=>⟨q.1,by obtain ⟨v,e,y⟩:=q.2;exact ⟨v,e,trivial,y⟩⟩⟩
theorem Yc(hk:Nx m=(.w,k))(ho:l[k]? =some ⟨dst,op,ty,pos,af,none⟩)
  (x:∀hx,h.Le hx->BS E ⟨dst,op,ty,pos,af,none⟩ O ds hx λσ' ds' h'=>ds'=ds/\∃v,σ'=putS O dst v/\TD E l n false hs ds (λ_ _ _=>True) F (dK aO) (putS O dst v) h'):TD E l n true hs ds (λ_ _ _=>True) F (dK (m ::aO)) O h:=by
 unfold dK;rw [hk];exact ⟨_,true,ho,rfl,λe=>(by cases e),λ_ hx a=>(x hx a.1).mono λ_ _ _ q=>⟨q.1,by obtain ⟨v,e,y⟩:=q.2;exact ⟨v,e,trivial,y⟩⟩⟩
theorem tWfL(hk:Nx m=(.w,k))(ho:l[k]? =some ⟨dst,op,ty,pos,af,none⟩)
  (x:∀hx,h.Le hx->BS E ⟨dst,op,ty,pos,af,none⟩ O ds hx λσ' ds' h'=>ds'=ds/\∃v,σ'=putS O dst v/\Lw n undef h'/\TD E l n false hs ds Lw F (dK aO) (putS O dst v) h'):TD E l n true hs ds Lw F (dK (m ::aO)) O h:=by
 unfold dK;rw [hk];exact ⟨_,true,ho,rfl,λe=>(by cases e),λ_ hx a=>x hx a.1⟩
theorem tA{t:aV}{z:Array aU}(hk:Nx m=(.a,k))(ho:l[k]? =some ⟨dst,.alloc t,ty,pos,af,none⟩)(hz:Bb P t=some z)
  (x:∀r hx,h.Le hx->hs r=none->hx r=some (true,.cells z t (0,0))->TD E l n true hs ds Lw F (dK aO) (putS O dst (.pointer (some ⟨r,0,none⟩))) hx):TD E l n true hs ds Lw F (dK (m ::aO)) O h:=by
 unfold dK;rw [hk];refine ⟨_,true,ho,rfl,λe=>(by cases e),λ_ i r hx e b c f=>?_⟩;cases e;exact x r hx b c (by rw [f];unfold zOf;rw [hz];rfl)
theorem tL(hk:Nx m=(.l,k))(ho:l[k]? =some ⟨dst,op,ty,pos,af,none⟩)
  (x:∀hx,h.Le hx->BS E ⟨dst,op,ty,pos,af,none⟩ O ds hx λσ' ds' h'=>ds'=ds/\∃v,σ'=putS O dst v/\hx.Le h'/\Lw k v h') (y:TD E l n fl hs ds Lw F (dK aO) O h):TD E l n fl hs ds Lw F (dK (m ::aO)) O h:=by
 unfold dK;rw [hk];exact ⟨_,true,ho,rfl,λe=>(by cases e),λ_=>⟨x,y⟩⟩
theorem tB(hk:Nx m=(.b,k))(ho:l[k]? =some ⟨dst,op,ty,pos,af,none⟩)(x:∀v hx,h.Le hx->Lw k v hx->TD E l n fl hs ds Lw F (dK aO) (putS O dst v) hx):TD E l n fl hs ds Lw F (dK (m ::aO)) O h:=by
 unfold dK;rw [hk];exact ⟨_,true,ho,rfl,λe=>(by cases e),λ_=>x⟩
theorem S4(h1:l[g]? =some og)(h2:og.dst=some d)(h3:O d=.bool w):Gd l ⟨dst,op,ty,pos,af,some (g,w)⟩ O true:=⟨og,d,.bool w,h1,h2,h3,by cases w <;> rfl⟩
theorem tPg(hk:Nx m=(.p,k))(ho:l[k]? =some ⟨dst,op,ty,pos,af,some (g,w)⟩)(h1:l[g]? =some og)(h2:og.dst=some d)(h3:O d=.bool w)(x:∀hx,US E ⟨dst,op,ty,pos,af,some (g,w)⟩ O ds hx v)
  (y:TD E l n fl hs ds Lw F (dK aO) (putS O dst v) h):TD E l n fl hs ds Lw F (dK (m ::aO)) O h:=by
 unfold dK;rw [hk];exact ⟨_,true,ho,S4 h1 h2 h3,λe=>(by cases e),λ_=>⟨v,λhx _=>x hx,y⟩⟩
theorem tRg(hk:Nx m=(.r,k))(ho:l[k]? =some ⟨dst,op,ty,pos,af,some (g,w)⟩)(h1:l[g]? =some og)(h2:og.dst=some d)(h3:O d=.bool w)(x:US E ⟨dst,op,ty,pos,af,some (g,w)⟩ O ds h v)
  (y:TD E l n fl hs ds Lw F (dK aO) (putS O dst v) h):TD E l n fl hs ds Lw F (dK (m ::aO)) O h:=by
 unfold dK;rw [hk];exact ⟨_,true,ho,S4 h1 h2 h3,λe=>(by cases e),λ_=>⟨v,x,y⟩⟩
theorem UT(hk:Nx m=(.e,k))(ho:l[k]? =some ⟨dst,op,ty,pos,af,some (g,w)⟩)(h1:l[g]? =some og)(h2:og.dst=some d)(h3:O d=.bool w)
  (x:BS E ⟨dst,op,ty,pos,af,some (g,w)⟩ O ds h λσ' ds' h'=>ds'=ds/\∃v,σ'=putS O dst v/\h.Le h'/\TD E l n false hs ds Lw F (dK aO) (putS O dst v) h'):TD E l n false hs ds Lw F (dK (m ::aO)) O h:=by
 unfold dK;rw [hk];exact ⟨_,true,ho,S4 h1 h2 h3,λe=>(by cases e),λ_ b a=>by rw [a.2 rfl];exact x⟩
theorem tS{kd:Kd}(hk:Nx m=(kd,k))(ho:l[k]? =some ⟨dst,op,ty,pos,af,some (g,w)⟩)(h1:l[g]? =some og)(h2:og.dst=some d)(h3:O d=.bool is)(hne:(is==w)=false)
  (y:TD E l n fl hs ds Lw F (dK aO) (putS O dst undef) h) (hl:(kd !=Kd.l)=true:=by rfl):TD E l n fl hs ds Lw F (dK (m ::aO)) O h:=by
 unfold dK;rw [hk];exact ⟨_,false,ho,⟨og,d,.bool is,h1,h2,h3,hne.symm⟩,λ_=>(by cases kd <;> first | exact y | cases hl),λe=>(by cases e)⟩
theorem tSu{kd:Kd}(hk:Nx m=(kd,k))(ho:l[k]? =some ⟨dst,op,ty,pos,af,some (g,w)⟩)(h1:l[g]? =some og)(h2:og.dst=some d)(h3:O d=undef)
  (y:TD E l n fl hs ds Lw F (dK aO) (putS O dst undef) h) (hl:(kd !=Kd.l)=true:=by rfl):TD E l n fl hs ds Lw F (dK (m ::aO)) O h:=by
 unfold dK;rw [hk];exact ⟨_,false,ho,⟨og,d,undef,h1,h2,h3,rfl⟩,λ_=>(by cases kd <;> first | exact y | cases hl),λe=>(by cases e)⟩
theorem tN(x:F O h):TD E l n false hs ds Lw F (dK []) O h:=λb a=>by rw [a.2 rfl];exact x
section
variable {U:Type} {enc:U->Array aU} {xs:List U} {h0:V} {t:aV} {a ix:Operand} {z:Nat} {sv:aU} {kd:IntKind} {i:Int}
theorem tI(hk:Nx m=(.p,k))(ho:l[k]? =some ⟨dst,.indexAddr t a ix,ty,pos,af,none⟩)(ht:Dl P t=some z)(hs':AD h0 sv z enc xs)(hx:AL O a=sv)(hi:AL O ix=.int kd i)(h0':0<=i)(h1:i<xs.length)
  (y:∀b off,AN h0 b off z (enc (xs[i.toNat]' Y))->TD E l n fl hs ds Lw F (dK aO) (putS O dst (.pointer (some ⟨b,off,none⟩))) h):TD E l n fl hs ds Lw F (dK (m ::aO)) O h:=by
 obtain ⟨p,c,rfl,_,_,e⟩:=hs';obtain ⟨b,off,rfl,f⟩:=e i.toNat Y;exact tP hk ho (λ_=>AK ht hx hi h0' h1 vz) (y b _ f)
theorem tSl{olo ohi:Option Operand}(lo hi:Nat)(hk:Nx m=(.p,k))(ho:l[k]? =some ⟨dst,.slice t a olo ohi none,ty,pos,af,none⟩)(ht:Dl P t=some z)(hs':AD h0 sv z enc xs)(hx:AL O a=sv)
  (hlo:LoIs O olo lo 0) (hhi:LoIs O ohi hi xs.length) (h1:lo<=hi) (h2:hi<=xs.length)
  (y:∀v',AD h0 v' z enc ((xs.take hi).drop lo)->TD E l n fl hs ds Lw F (dK aO) (putS O dst v') h):TD E l n fl hs ds Lw F (dK (m ::aO)) O h:=by
 have b:=hs';obtain ⟨p,c,rfl,e,_,_⟩:=hs';exact tP hk ho (λ_=>KD lo hi ht e hx hlo hhi h1 h2 vz) (y _ (b.part h1 h2))
theorem tIg(hk:Nx m=(.p,k))(ho:l[k]? =some ⟨dst,.indexAddr t a ix,ty,pos,af,some (g,w)⟩)(h1':l[g]? =some og)(h2':og.dst=some d)(h3':O d=.bool w)(ht:Dl P t=some z)(hs':AD h0 sv z enc xs)(hx:AL O a=sv)(hi:AL O ix=.int kd i)(h0':0<=i)(h1:i<xs.length)
  (y:∀b off,AN h0 b off z (enc (xs[i.toNat]' Y))->TD E l n fl hs ds Lw F (dK aO) (putS O dst (.pointer (some ⟨b,off,none⟩))) h):TD E l n fl hs ds Lw F (dK (m ::aO)) O h:=by
 obtain ⟨p,c,rfl,_,_,e⟩:=hs';obtain ⟨b,off,rfl,f⟩:=e i.toNat Y;exact tPg hk ho h1' h2' h3' (λ_=>AK ht hx hi h0' h1 vz) (y b _ f)
end
theorem eT{h':V}{π':List (Kd×Nat)}(l2:h.Le h')(y:TD E l n fl hs ds Lw F π' (putS O dst v) h'):ds=ds/\∃v',putS O dst v=putS O dst v'/\h.Le h'/\TD E l n fl hs ds Lw F π' (putS O dst v') h':=⟨rfl,v,rfl,l2,y⟩
theorem wTL{h':V}{π':List (Kd×Nat)}(fr:Lw n undef h')(y:TD E l n fl hs ds Lw F π' (putS O dst v) h'):ds=ds/\∃v',putS O dst v=putS O dst v'/\Lw n undef h'/\TD E l n fl hs ds Lw F π' (putS O dst v') h':=⟨rfl,v,rfl,fr,y⟩
theorem wT{h':V}{π':List (Kd×Nat)}(y:TD E l n fl hs ds Lw F π' (putS O dst v) h'):ds=ds/\∃v',putS O dst v=putS O dst v'/\TD E l n fl hs ds Lw F π' (putS O dst v') h':=⟨rfl,v,rfl,y⟩
end
theorem Cd{X:Prop}{p:Prop}[Decidable p](a:p->X)(b:¬p->X):X:=if h:p then a h else b h
theorem td_caseb{X:Prop}{b:Bool}(x:b=true->X)(y:b=false->X):X:=by cases b with
 | true=>exact x rfl
 | false=>exact y rfl
end
end Go.Ns
namespace Go.Ns
def eI(i:Int):Array aU:=#[.int .i64 i]
def eB(i:Int):Array aU:=#[.int .u8 i]
structure Good where
 name:aW
 cost:Int
 pack:Int
 low:Int
 high:Int
structure AI where
 kind:Int
 good:Int
 day:Int
 low:Int
 high:Int
structure AP where
 good:Int
 day:Int
 low:Int
 high:Int
def Bs(x:Good):Array aU:=#[.string x.name,.int .i64 x.cost,.int .i64 x.pack,.int .i64 x.low,.int .i64 x.high]
def Be(x:AI):Array aU:=#[.int .i64 x.kind,.int .i64 x.good,.int .i64 x.day,.int .i64 x.low,.int .i64 x.high]
def BK(x:AP):Array aU:=#[.int .i64 x.good,.int .i64 x.day,.int .i64 x.low,.int .i64 x.high]
structure AZ where
 first:Nat->Int
 many:Nat->Int
 lies:Nat->Bool
def AZ.zero:AZ:=⟨λ_=>0,λ_=>0,λ_=>false⟩
def Aq(p:AZ):Array aU:=#[.int .i64 (p.first 0),.int .i64 (p.first 1),.int .i64 (p.first 2),.int .i64 (p.many 0),.int .i64 (p.many 1),.int .i64 (p.many 2),.int .i64 (p.many 3),.int .i64 (p.many 4),.int .i64 (p.many 5),
 .bool (p.lies 0),.bool (p.lies 1),.bool (p.lies 2),.bool (p.lies 3),.bool (p.lies 4),.bool (p.lies 5)]
def AZ.setFirst(p:AZ)(i:Nat)(n:Int):AZ:={ p with first:=λk=>if k=i then n else p.first k }
def AZ.setMany(p:AZ)(i:Nat)(n:Int):AZ:={ p with many:=λk=>if k=i then n else p.many k }
def AZ.setLie(p:AZ)(i:Nat)(b:Bool):AZ:={ p with lies:=λk=>if k=i then b else p.lies k }
theorem UU{p:AZ}{i:Nat}(h:i<3):(Aq p)[i*1]? =some (.int .i64 (p.first i)):=by
 match i,h with
 | 0,_=>rfl
 | 1,_=>rfl
 | 2,_=>rfl
theorem WL{p:AZ}{i:Nat}(h:i<6):(Aq p)[3+i*1]? =some (.int .i64 (p.many i)):=by
 match i,h with
 | 0,_=>rfl
 | 1,_=>rfl
 | 2,_=>rfl
 | 3,_=>rfl
 | 4,_=>rfl
 | 5,_=>rfl
theorem K7{p:AZ}{i:Nat}(h:i<6):(Aq p)[9+i*1]? =some (.bool (p.lies i)):=by
 match i,h with
 | 0,_=>rfl
 | 1,_=>rfl
 | 2,_=>rfl
 | 3,_=>rfl
 | 4,_=>rfl
 | 5,_=>rfl
theorem UV{p:AZ}{i:Nat}(h:i<6):(if false=true then some (Value.agg ((#[.bool (p.lies 0),.bool (p.lies 1),.bool (p.lies 2),.bool (p.lies 3),.bool (p.lies 4),.bool (p.lies 5)]:Array aU).extract (i*1) (i*1+1))) else (#[.bool (p.lies 0),.bool (p.lies 1),.bool (p.lies 2),.bool (p.lies 3),.bool (p.lies 4),.bool (p.lies 5)]:Array aU)[i*1]?)=some (.bool (p.lies i)):=by
 match i,h with
 | 0,_=>rfl
 | 1,_=>rfl
 | 2,_=>rfl
 | 3,_=>rfl
 | 4,_=>rfl
 | 5,_=>rfl
theorem Oo{p:AZ}{i:Nat}{n:Int}(h:i<3):BV (Aq p) (i*1) [.int .i64 n]=Aq (p.setFirst i n):=by
 match i,h with
 | 0,_=>rfl
 | 1,_=>rfl
 | 2,_=>rfl
theorem Ny{p:AZ}{i:Nat}{n:Int}(h:i<3):BV (Aq p) (0+i*1) [.int .i64 n]=Aq (p.setFirst i n):=by rw [Nat.zero_add];exact Oo h
theorem QU{p:AZ}{i:Nat}{n:Int}(h:i<6):BV (Aq p) (3+i*1) [.int .i64 n]=Aq (p.setMany i n):=by
 match i,h with
 | 0,_=>rfl
 | 1,_=>rfl
 | 2,_=>rfl
 | 3,_=>rfl
 | 4,_=>rfl
 | 5,_=>rfl
theorem I0{p:AZ}{i:Nat}{b:Bool}(h:i<6):BV (Aq p) (9+i*1) [.bool b]=Aq (p.setLie i b):=by
 match i,h with
 | 0,_=>rfl
 | 1,_=>rfl
 | 2,_=>rfl
 | 3,_=>rfl
 | 4,_=>rfl
 | 5,_=>rfl
theorem S5{p:AZ}{i:Nat}(h:i<3):(Aq p)[0+i*1]? =some (.int .i64 (p.first i)):=by rw [Nat.zero_add];exact UU h
def B0(p:AZ):Nat->Nat
 | 0=>0
 | k+1=>B0 p k+if p.lies k then 1 else 0
theorem Oq(p:AZ):∀k,B0 p k<=k
 | 0=>Nat.le_refl _
 | k+1=>by have:=Oq p k;unfold B0;split <;> omega
def Cn(p:AZ)(i:Nat):Int:=if p.lies i then 0 else p.many i
def Good.z:Good:=⟨⟨#[]⟩,0,0,0,0⟩
def AI.z:AI:=⟨0,0,0,0,0⟩
def AP.z:AP:=⟨0,0,0,0⟩
theorem EN{U:Type}{xs:List U}{i:Nat}(d:U)(hi:i<xs.length):xs.getD i d=xs[i]'hi:=by
 simp [List.getD_eq_getElem?_getD,List.getElem?_eq_getElem hi]
theorem AN.getD{U:Type}{h:V}{b off n:Nat}{enc:U->Array aU}{xs:List U}{i:Nat}{hi:i<xs.length}(d:U)(x:AN h b off n (enc (xs[i]'hi))):AN h b off n (enc (xs.getD i d)):=by
 rw [EN d hi];exact x
theorem DD{U:Type}{a:List U}{k:Nat}(d:U)(ha:k<a.length):a.take (k+1)=a.take k++[a.getD k d]:=by
 rw [List.take_succ_eq_append_getElem ha,EN d ha]
theorem Or{U:Type}{a b:List U}{k:Nat}(d:U)(h:a.take k=b.take k)(ha:k<a.length)(hb:k<b.length)(e:a.getD k d=b.getD k d):a.take (k+1)=b.take (k+1):=by
 rw [DD d ha,DD d hb,h,e]
theorem S6{a b:List Int}{k:Nat}(h:a.take k=b.take k)(hk:k<=a.length)(hk':¬(k:Int)<a.length)(hl:(a.length:Int)=b.length):a=b:=by
 have c:k=a.length:=Y
 have d:b.length=a.length:=Y
 rw [c,List.take_length,<-d,List.take_length] at h;exact h
theorem ne_len{U:Type}{a b:List U}(h:¬(a.length:Int)=b.length):¬a=b:=λe=>h (by rw [e])
theorem ne_getD{U:Type}{a b:List U}{k:Nat}{d:U}(e:¬a.getD k d=b.getD k d):¬a=b:=λh=>e (by rw [h])
theorem has_hit{a:List Int}{k:Nat}{n:Int}(hk:(k:Int)<a.length)(e:a.getD k 0=n):n ∈ a:=by
 have b:k<a.length:=Y
 rw [EN 0 b] at e;exact e▸List.getElem_mem b
theorem has_next{a:List Int}{k:Nat}{n:Int}(hk:(k:Int)<a.length)(h:¬n ∈ a.take k)(e:¬a.getD k 0=n):¬n ∈ a.take (k+1):=by
 rw [DD 0 Y];simp only [List.mem_append,List.mem_singleton,not_or];exact ⟨h,λq=>e q.symm⟩
theorem has_end{a:List Int}{k:Nat}{n:Int}(hk:¬(k:Int)<a.length)(h:¬n ∈ a.take k):¬n ∈ a:=by
 rwa [List.take_of_length_le Y] at h
def FF(c:Int):Prop:=97<=c/\c<=122
def FL(c:Int):Prop:=48<=c/\c<=57
instance (c:Int):Decidable (FF c):=inferInstanceAs (Decidable (_/\_))
instance (c:Int):Decidable (FL c):=inferInstanceAs (Decidable (_/\_))
def Gc(d m:Int):Int:=if¬(1<=d/\d<=99)\/¬(0<=m/\m<=2) then 1 else 0
def idxOf{U:Type}(p:U->Bool):List U->Int
 | []=> -1
 | x ::l=>if p x then 0 else if idxOf p l<0 then-1 else idxOf p l+1
theorem Ov{U:Type}(p:U->Bool):∀l:List U,-1<=idxOf p l
 | []=>by simp [idxOf]
 | x ::l=>by have:=Ov p l;unfold idxOf;split <;> (try split) <;> omega
theorem EY{U:Type}(p:U->Bool):∀l:List U,(0<=idxOf p l)↔l.any p=true
 | []=>by simp [idxOf]
 | x ::l=>by
  have:=EY p l
  have b:=Ov p l;unfold idxOf;cases a:p x with
  | true=>simp [a]
  | false=>
   simp only [Bool.false_eq_true,if_false,List.any_cons,a,Bool.false_or];rw [<-this];split <;> omega
theorem Fb{U:Type}{p:U->Bool}{l:List U}{k:Nat}{d:U}(hk:(k:Int)<l.length)(h:(l.take k).any p=false)(e:p (l.getD k d)=true):idxOf p l=k:=by
 induction l generalizing k with
 | nil=>simp at hk;omega
 | cons x l a=>
  unfold idxOf;cases k with
  | zero=>simp at e;simp [e]
  | succ k=>
   simp only [List.take_succ_cons,List.any_cons,Bool.or_eq_false_iff] at h;rw [h.1]
   have:=a (k:=k) (by simp at hk;omega) h.2 (by simpa using e)
   rw [this];simp only [Bool.false_eq_true,if_false];rw [aS Y];omega
theorem Em{U:Type}{p:U->Bool}{l:List U}{k:Nat}(hk:¬(k:Int)<l.length)(h:(l.take k).any p=false):idxOf p l= -1:=by
 rw [List.take_of_length_le Y] at h
 have:=EY p l
 have a:=Ov p l;rw [h] at this;simp at this;omega
theorem En{U:Type}{p:U->Bool}{l:List U}{k:Nat}{d:U}(hk:(k:Int)<l.length)(h:(l.take k).any p=false)(e:p (l.getD k d)=false):(l.take (k+1)).any p=false:=by
 rw [DD d Y,List.any_append,h];simp only [Bool.false_or,List.any_cons,List.any_nil,Bool.or_false,e]
theorem CG{U:Type}{l:List U}{k:Nat}{d:U}(hk:k<l.length):l.getD k d ∈ l:=by
 rw [EN d hk];exact List.getElem_mem hk
def A7(l:List Int)(m:Int):Int:=if¬(l.length:Int)=m then 2 else if l.any (λx=>decide (¬(0<=x/\x<=99))) then 1 else 0
def EO(f:Nat->Int):Nat->Nat->Int
 | _,0=>0
 | i,n+1=>if f i=0 then EO f (i+1) n else f i
theorem Ow{f:Nat->Int}{c:Int}:∀{n i k:Nat},(∀j,i<=j->j<i+k->f j=0)->k<n->f (i+k)=c->c≠0->EO f i n=c
 | 0,i,k,_,b,_,_=>Y
 | n+1,i,0,_,_,e,a=>by unfold EO;rw [Nat.add_zero] at e;rw [e,aS a]
 | n+1,i,k+1,h,b,e,a=>by
  unfold EO;rw [aT (h i (Nat.le_refl _) Y)];exact Ow (k:=k) (λj d g=>h j Y Y) Y (by rw [<-e];congr 1;omega) a
theorem Fc{f:Nat->Int}:∀{n i:Nat},(∀j,i<=j->j<i+n->f j=0)->EO f i n=0
 | 0,_,_=>rfl
 | n+1,i,h=>by
  unfold EO;rw [aT (h i (Nat.le_refl _) Y)];exact Fc λj a b=>h j Y Y
theorem EZ{f:Nat->Int}{k:Nat}(h:∀j,j<k->f j=0)(e:f k=0):∀j,j<k+1->f j=0:=λj a=>by
 rcases Nat.lt_or_ge j k with q | q
 ·exact h j q
 ·rw [show j=k by omega];exact e
theorem CN{f:Nat->Int}{c:Int}{n k:Nat}(h:∀j,j<k->f j=0)(hk:k<n)(e:f k=c)(hc:c≠0):EO f 0 n=c:=
 Ow (i:=0) (k:=k) (λj _ a=>h j Y) hk (by rw [Nat.zero_add];exact e) hc
theorem Ds{f:Nat->Int}{n k:Nat}(h:∀j,j<k->f j=0)(hk:n<=k):EO f 0 n=0:=Fc λj _ a=>h j Y
def GG(s:aW)(k:Nat):Int:=if¬FF ((bytesOf s).getD k 0)/\(k=0\/¬FL ((bytesOf s).getD k 0)) then 1 else 0
def D1(s:aW):Bool:=decide (EO (GG s) 0 s.size=0) && decide (1<=(s.size:Int)/\(s.size:Int)<=10)
def Gy(l h:Int):Prop:=((0<=l/\l<=h)/\h<=99)/\h-l<3
instance (l h:Int):Decidable (Gy l h):=inferInstanceAs (Decidable (_/\_))
def I2(gs:List Good)(k:Nat):Int:=
 if D1 (gs.getD k Good.z).name=false then 4
 else if (gs.take k).any (λx=>x.name.toList==(gs.getD k Good.z).name.toList) then 5
 else if (¬(0<=(gs.getD k Good.z).cost/\(gs.getD k Good.z).cost<=999)\/¬(1<=(gs.getD k Good.z).pack/\(gs.getD k Good.z).pack<=20))\/¬Gy (gs.getD k Good.z).low (gs.getD k Good.z).high then 1 else 0
def EA(gs:List Good):Int:=if¬(1<=(gs.length:Int)/\(gs.length:Int)<=3) then 2 else EO (I2 gs) 0 gs.length
def Fq(ms:List AI)(k:Nat):Int:=if k=0 then 0 else (ms.getD (k-1) AI.z).day
def GI(d:Int)(gs:List Good)(ms:List AI)(k:Nat):Int:=
 if¬(0<=(ms.getD k AI.z).kind/\(ms.getD k AI.z).kind<=4) then 1
 else if¬(0<=(ms.getD k AI.z).good/\(ms.getD k AI.z).good<=(gs.length:Int)-1) then 6
 else if¬(1<=(ms.getD k AI.z).day/\(ms.getD k AI.z).day<=d) then 1
 else if (ms.getD k AI.z).day<Fq ms k then 7
 else if¬Gy (ms.getD k AI.z).low (ms.getD k AI.z).high then 1 else 0
def DT(d:Int)(gs:List Good)(ms:List AI):Int:=if (6:Int)<ms.length then 2 else EO (GI d gs ms) 0 ms.length
def Hu(d:Int)(gs:List Good)(cs:List AP)(k:Nat):Int:=
 if¬(0<=(cs.getD k AP.z).good/\(cs.getD k AP.z).good<=(gs.length:Int)-1) then 6
 else if¬(0<=(cs.getD k AP.z).day/\(cs.getD k AP.z).day<=d)\/¬((0<=(cs.getD k AP.z).low/\(cs.getD k AP.z).low<=(cs.getD k AP.z).high)/\(cs.getD k AP.z).high<=999) then 1 else 0
def D2(d:Int)(gs:List Good)(cs:List AP):Int:=if (4:Int)<cs.length then 2 else EO (Hu d gs cs) 0 cs.length
theorem ID(s:aW)(k:Nat):0<=(bytesOf s).getD k 0/\(bytesOf s).getD k 0<=255:=by
 by_cases h:k<(bytesOf s).length
 ·rw [EN 0 h];have a:k<s.data.toList.length:=by rw [CZ] at h;rw [Array.length_toList];exact h
  have e:(bytesOf s)[k]'h=((s.data.toList[k]'a).toNat:Int):=List.getElem_map _;rw [e]
  have:=(s.data.toList[k]'a).toNat_lt
  omega
 ·simp only [List.getD_eq_getElem?_getD];rw [List.getElem?_eq_none Y];decide
theorem K9{s:aW}{k:Nat}(h:∀j,j<k->GG s j=0)(hk:k<s.size)(e:GG s k=1):D1 s=false:=by
 unfold D1;rw [CN h hk e aC];simp
theorem LA{s:aW}{k:Nat}(h:∀j,j<k->GG s j=0)(hk:s.size<=k):D1 s=decide (1<=(s.size:Int)/\(s.size:Int)<=10):=by
 unfold D1;rw [Ds h hk];simp
theorem rd_at0{P:Program}{h:V}{t:aV}{b n m o:Nat}{vs:Array aU}{v:aU}(ht:Bz P t=some (false,m))(x:AN h b 0 n vs)(hv:vs[o]? =some v):Rd P h t b o v:=by
 have:=BO (o:=o) ht x hv
 rwa [Nat.zero_add] at this
def E1(d m:Int)(gs:List Good)(ms:List AI)(cs:List AP):Nat->Int
 | 0=>Gc d m
 | 1=>EA gs
 | 2=>DT d gs ms
 | _=>D2 d gs cs
def Ah(d m:Int)(gs:List Good)(ms:List AI)(cs:List AP):Int:=EO (E1 d m gs ms cs) 0 4
def signed(k:Nat)(n:Int):Int:=if k=0\/k=4 then n else-n
theorem Lu{k:Nat}{n:Int}(h:0<=n/\n<=99): -99<=signed k n/\signed k n<=99:=by unfold signed;split <;> omega
def Bp(p:AZ):Prop:=(∀i,0<=p.first i/\p.first i<=99)/\∀i,0<=p.many i/\p.many i<=99
theorem G6{p:AZ}(h:Bp p)(i:Nat):0<=Cn p i/\Cn p i<=99:=by
 unfold Cn;have:=h.2 i;split <;> omega
def Hv(ms:List AI)(p:AZ)(g:Int)(k:Nat)(n:Int):Int:=if (ms.getD k AI.z).good=g then n+signed (ms.getD k AI.z).kind.toNat (Cn p k) else n
def GV(ms:List AI)(k:Nat)(low n:Int):Int:=if (k:Int)+1=ms.length\/(ms.getD k AI.z).day<(ms.getD (k+1) AI.z).day then min low n else low
def DM(ms:List AI)(p:AZ)(g dy:Int):Nat->Nat->Int->Int->Int×Int
 | 0,_,n,low=>(n,low)
 | f+1,k,n,low=>if dy<(ms.getD k AI.z).day then (n,low) else DM ms p g dy f (k+1) (Hv ms p g k n) (GV ms k low (Hv ms p g k n))
def AX(ms:List AI)(p:AZ)(g dy:Int):Int×Int:=DM ms p g dy ms.length 0 (p.first g.toNat) (p.first g.toNat)
theorem Ea{ms:List AI}{p:AZ}{g dy:Int}{k:Nat}{n low:Int}(hk:k<ms.length)(hd:¬dy<(ms.getD k AI.z).day) :
  DM ms p g dy (ms.length-k) k n low=DM ms p g dy (ms.length-(k+1)) (k+1) (Hv ms p g k n) (GV ms k low (Hv ms p g k n)):=by
 rw [show ms.length-k=(ms.length-(k+1))+1 by omega]
 conv=>lhs;unfold DM
 rw [aS hd]
theorem QV{ms:List AI}{p:AZ}{g dy:Int}{k:Nat}{n low:Int}(hk:k<ms.length)(hd:dy<(ms.getD k AI.z).day):DM ms p g dy (ms.length-k) k n low=(n,low):=by
 rw [show ms.length-k=(ms.length-(k+1))+1 by omega]
 conv=>lhs;unfold DM
 rw [aT hd]
theorem S7{ms:List AI}{p:AZ}{g dy:Int}{k:Nat}{n low:Int}(hk:¬(k:Int)<ms.length):DM ms p g dy (ms.length-k) k n low=(n,low):=by
 rw [show ms.length-k=0 by omega];rfl
def BI(d:Int)(ng:Nat)(ms:List AI)(cs:List AP)(p:AZ):Bool:=
 decide (∀j,j<ng->¬(AX ms p (j:Int) d).2<0) && !(cs.any λx=>decide (¬(x.low<=(AX ms p x.good x.day).1/\(AX ms p x.good x.day).1<=x.high)))
theorem Ox{d:Int}{ng:Nat}{ms:List AI}{cs:List AP}{p:AZ}{k:Nat}(hk:k<ng)(h:(AX ms p (k:Int) d).2<0):BI d ng ms cs p=false:=by
 unfold BI;rw [decide_eq_false (λq=>q k hk h)];rfl
theorem UW{d:Int}{ng:Nat}{ms:List AI}{cs:List AP}{p:AZ}{k:Nat}(hk:ng<=k)(h:∀j,j<k->¬(AX ms p (j:Int) d).2<0) :
  BI d ng ms cs p= !(cs.any λx=>decide (¬(x.low<=(AX ms p x.good x.day).1/\(AX ms p x.good x.day).1<=x.high))):=by
 unfold BI;rw [decide_eq_true (λj a=>h j Y)];rfl
theorem E2{q:Nat->Prop}{k:Nat}(h:∀j,j<k->q j)(e:q k):∀j,j<k+1->q j:=λj a=>by
 rcases Nat.lt_or_ge j k with r | r
 ·exact h j r
 ·rw [show j=k by omega];exact e
def AZ.setFirsts(p:AZ)(l:List Int):AZ:={ p with first:=λk=>if k<l.length then l.getD k 0 else p.first k }
def AZ.setManys(p:AZ)(l:List Int):AZ:={ p with many:=λk=>if k<l.length then l.getD k 0 else p.many k }
theorem Nz{p:AZ}{l:List Int}(h:l.length<=3):BV (Aq p) 0 (C7 eI l)=Aq (p.setFirsts l):=by
 match l,h with
 | [],_=>rfl
 | [_],_=>rfl
 | [_,_],_=>rfl
 | [_,_,_],_=>rfl
 | _ ::_ ::_ ::_ ::_,h=>simp at h
theorem Oy{p:AZ}{l:List Int}(h:l.length<=6):BV (Aq p) 3 (C7 eI l)=Aq (p.setManys l):=by
 match l,h with
 | [],_=>rfl
 | [_],_=>rfl
 | [_,_],_=>rfl
 | [_,_,_],_=>rfl
 | [_,_,_,_],_=>rfl
 | [_,_,_,_,_],_=>rfl
 | [_,_,_,_,_,_],_=>rfl
 | _ ::_ ::_ ::_ ::_ ::_ ::_ ::_,h=>simp at h
end Go.Ns
namespace Go.Ns
open Go.Conc
def BW(lo:Int)(k:Nat):List Int:=(List.range k).map λ(j:Nat)=>lo+(j:Int)
def E6(lo hi:Int):List Int:=BW lo (hi-lo+1).toNat
theorem NX(lo:Int)(k:Nat):BW lo (k+1)=BW lo k++[lo+(k:Int)]:=by
 simp [BW,List.range_succ]
theorem WM{lo n:Int}{k:Nat}:n ∈ BW lo k↔lo<=n/\n<lo+k:=by
 simp only [BW,List.mem_map,List.mem_range];constructor
 ·rintro ⟨j,a,rfl⟩;omega
 ·rintro ⟨b,c⟩;exact ⟨(n-lo).toNat,Y,Y⟩
theorem Mq{lo hi n:Int}:n ∈ E6 lo hi↔lo<=n/\n<=hi:=by
 unfold E6;rw [WM];omega
theorem WN{β:Type}{f:Int->List β}{lo hi:Int}{k:Nat}(h:¬lo+(k:Int)<=hi)(hk:(k:Int)<=hi-lo+1\/k=0):(BW lo k).flatMap f=(E6 lo hi).flatMap f:=by
 unfold E6;congr 2;omega
theorem Hw{β:Type}{f:Int->List β}{lo:Int}{k:Nat}:(BW lo (k+1)).flatMap f=(BW lo k).flatMap f++f (lo+k):=by
 rw [NX,List.flatMap_append];simp
def AZ.setMove(p:AZ)(i:Nat)(n:Int)(b:Bool):AZ:=(p.setMany i n).setLie i b
theorem N0(p:AZ)(i:Nat)(n n':Int)(b b':Bool):(p.setMove i n b).setMove i n' b'=p.setMove i n' b':=by
 unfold AZ.setMove AZ.setMany AZ.setLie;congr 1 <;> funext k <;> simp only [] <;> split <;> rfl
theorem HV(p:AZ)(i:Nat)(n:Int)(b b':Bool):(p.setMove i n b).setLie i b'=p.setMove i n b':=by
 unfold AZ.setMove AZ.setMany AZ.setLie;congr 1;funext k;simp only [];split <;> rfl
theorem Lx(p:AZ)(i:Nat)(n n':Int):(p.setFirst i n).setFirst i n'=p.setFirst i n':=by
 unfold AZ.setFirst;congr 1;funext k;simp only [];split <;> rfl
theorem Bp.zero:Bp AZ.zero:=⟨λ_=>⟨Int.le_refl 0,(aC:(0:Int)<=99)⟩,λ_=>⟨Int.le_refl 0,(aC:(0:Int)<=99)⟩⟩
theorem Bp.setFirst{p:AZ}(h:Bp p){i:Nat}{n:Int}(hn:0<=n/\n<=99):Bp (p.setFirst i n):=
 ⟨λk=>by unfold AZ.setFirst;simp only [];split;exact hn;exact h.1 k,h.2⟩
theorem Bp.setMany{p:AZ}(h:Bp p){i:Nat}{n:Int}(hn:0<=n/\n<=99):Bp (p.setMany i n):=
 ⟨h.1,λk=>by unfold AZ.setMany;simp only [];split;exact hn;exact h.2 k⟩
theorem Bp.setMove{p:AZ}(h:Bp p){i:Nat}{n:Int}{b:Bool}(hn:0<=n/\n<=99):Bp (p.setMove i n b):=h.setMany hn
def EP(ms:List AI)(i:Int):Bool:=decide ((0<=i/\i<=(ms.length:Int)-1)/\(ms.getD i.toNat AI.z).kind=0)
def A8(ag:AZ->Bool)(ms:List AI)(most:Int):Nat->Nat->AZ->List AZ
 | 0,_,p=>if ag p then [p] else []
 | f+1,i,p=>(E6 (ms.getD i AI.z).low (ms.getD i AI.z).high).flatMap λn=>
   A8 ag ms most f (i+1) (p.setMove i n false)++
    if EP ms i && decide ((B0 (p.setMove i n false) 6:Int)<most) then A8 ag ms most f (i+1) (p.setMove i n true) else []
def BT(ag:AZ->Bool)(gs:List Good)(ms:List AI)(most:Int):Nat->Nat->AZ->List AZ
 | 0,_,p=>A8 ag ms most ms.length 0 p
 | f+1,i,p=>(E6 (gs.getD i Good.z).low (gs.getD i Good.z).high).flatMap λn=>BT ag gs ms most f (i+1) (p.setFirst i n)
def AY(d:Int)(gs:List Good)(ms:List AI)(cs:List AP)(most:Int):List AZ:=BT (BI d gs.length ms cs) gs ms most gs.length 0 AZ.zero
def B5(ag:AZ->Bool)(ms:List AI)(most:Int)(f i:Nat)(p:AZ)(n:Int):List AZ:=
 A8 ag ms most f (i+1) (p.setMove i n false)++
  if EP ms i && decide ((B0 (p.setMove i n false) 6:Int)<most) then A8 ag ms most f (i+1) (p.setMove i n true) else []
theorem EB(ag:AZ->Bool)(ms:List AI)(most:Int)(f i:Nat)(p:AZ) :
  A8 ag ms most (f+1) i p=(E6 (ms.getD i AI.z).low (ms.getD i AI.z).high).flatMap (B5 ag ms most f i p):=rfl
theorem Eo(ag:AZ->Bool)(gs:List Good)(ms:List AI)(most:Int)(f i:Nat)(p:AZ) :
  BT ag gs ms most (f+1) i p=(E6 (gs.getD i Good.z).low (gs.getD i Good.z).high).flatMap (λn=>BT ag gs ms most f (i+1) (p.setFirst i n)):=rfl
def BH(X:Nat->Prop)(h h':V):Prop:=∀b p o,h b=some (p,o)->¬X b->∃o',h' b=some (p,o')/\(o'=o\/(Kw o=true/\Kw o'=true))
theorem BH.refl(X:Nat->Prop)(h:V):BH X h h:=λ_ _ o x _=>⟨o,x,.inl rfl⟩
theorem V.Le.keepX{h h':V}(l:h.Le h')(X:Nat->Prop):BH X h h':=λb p o x _=>l b p o x
theorem BH.trans{X X1:Nat->Prop}{a b c:V}(x:BH X a b)(hX:∀r,X1 r->X r\/a r=none)(y:BH X1 b c):BH X a c:=λr p o d f=>by
 obtain ⟨g,h,h2⟩:=x r p o d f;obtain ⟨i,j,h4⟩:=y r p g h λq=>(hX r q).elim f λe=>by rw [e] at d;cases d
 refine ⟨i,j,?_⟩;rcases h2 with rfl | h2
 ·exact h4
 ·rcases h4 with rfl | h4
  ·exact .inr h2
  ·exact .inr ⟨h2.1,h4.2⟩
theorem BH.box{X:Nat->Prop}{h h':V}(x:BH X h h'){b:Nat}{p:Bool}{o:Obj}(hb:h b=some (p,o))(hX:¬X b)(ho:Kw o=false):h' b=some (p,o):=by
 obtain ⟨d,c,rfl | ⟨a,_⟩⟩:=x b p o hb hX
 ·exact c
 ·rw [ho] at a;cases a
theorem BH.store{X:Nat->Prop}{h h1 h2:V}(x:BH X h h1){r:Nat}(hr:h r=none)(ho:∀b,b≠r->h2 b=h1 b):BH X h h2:=λb p o a c=>by
 rw [ho b λe=>by subst e;rw [hr] at a;cases a];exact x b p o a c
structure F9{U:Type}(hB:V)(aQ:List U->(Nat->Prop)->V->Prop):Prop where
 dom:∀pre X h b,aQ pre X h->X b->∃p o,h b=some (p,o)/\Kw o=false
 stable:∀pre X h h',aQ pre X h->(∀b,X b->h' b=h b)->hB.Le h'->aQ pre X h'
theorem F9.le{U:Type}{hB:V}{aQ:List U->(Nat->Prop)->V->Prop}(P:F9 hB aQ){pre:List U}{X:Nat->Prop}{h h':V}(x:aQ pre X h)(l:h.Le h')(lB:hB.Le h'):aQ pre X h':=
 P.stable pre X h h' x (λb c=>by
  obtain ⟨p,o,a,d⟩:=P.dom pre X h b x c;rw [l.keep a d,a]) lB
theorem F9.store{U:Type}{hB:V}{aQ:List U->(Nat->Prop)->V->Prop}(P:F9 hB aQ){pre:List U}{X:Nat->Prop}{h h':V}(x:aQ pre X h){r:Nat}(hr:¬X r)(ho:∀b,b≠r->h' b=h b)(lB:hB.Le h'):aQ pre X h':=
 P.stable pre X h h' x (λb a=>ho b λe=>hr (e▸a)) lB
theorem F9.off{U:Type}{hB:V}{aQ:List U->(Nat->Prop)->V->Prop}(P:F9 hB aQ){pre:List U}{X:Nat->Prop}{h:V}(x:aQ pre X h){r:Nat}(hr:h r=none):¬X r:=λq=>by
 obtain ⟨p,o,a,_⟩:=P.dom pre X h r x q;rw [hr] at a;cases a
theorem Ji{X X1:Nat->Prop}{h:V}(hX:∀r,X1 r->X r\/h r=none){r:Nat}{o:Bool×Obj}(hr:h r=some o)(n:¬X r):¬X1 r:=λq=>(hX r q).elim n λe=>by rw [e] at hr;cases hr
def G7{U:Type}(hB:V)(aQ:List U->(Nat->Prop)->V->Prop)(S:V->Prop)(pre:List U)(X:Nat->Prop)(h:V)(l:List U)(v:aU)(h':V):Prop:=
 ∃ok X',v=.bool ok/\(∀b,X' b->X b\/h b=none)/\BH X h h'/\hB.Le h'/\(ok=true->aQ (pre++l) X' h')/\(ok=false->S h')
structure GJ{U:Type}{P:Program}(W:Wk P)(hB:V)(yv:aU)(enc:U->Array aU)(aQ:List U->(Nat->Prop)->V->Prop)(S:V->Prop)(all:List U):Prop where
 prom:F9 hB aQ
 one:yv.cells=#[yv]
 call:∀pre p post X h,all=pre++p ::post->aQ pre X h->hB.Le h->CC W yv #[.agg (enc p)] h (G7 hB aQ S pre X h [p])
structure GA{U:Type}(hB:V)(aQ:List U->(Nat->Prop)->V->Prop)(X0:Nat->Prop)(h:V)(pre:List U)(X:Nat->Prop)(hc:V):Prop where
 inv:aQ pre X hc
 sub:∀b,X b->X0 b\/h b=none
 keep:BH X0 h hc
 base:hB.Le hc
section
variable {U:Type} {hB:V} {aQ:List U->(Nat->Prop)->V->Prop} {S:V->Prop} {X0 X X1:Nat->Prop} {h hc h':V} {pre l:List U}
theorem GA.start(x:aQ pre X h)(lB:hB.Le h):GA hB aQ X h pre X h:=⟨x,λ_ q=>.inl q,BH.refl _ _,lB⟩
theorem GA.le(P:F9 hB aQ)(y:GA hB aQ X0 h pre X hc)(l:hc.Le h'):GA hB aQ X0 h pre X h':=
 ⟨P.le y.inv l (y.base.trans l),y.sub,y.keep.trans (λ_ q=>.inl q) (l.keepX X0),y.base.trans l⟩
theorem GA.store(P:F9 hB aQ)(y:GA hB aQ X0 h pre X hc){r:Nat}(hr:h r=none)(rB:hB r=none)(hn:¬X r)(ho:∀b,b≠r->h' b=hc b):GA hB aQ X0 h pre X h':=
 ⟨P.store y.inv hn ho (y.base.upd rB ho),y.sub,y.keep.store hr ho,y.base.upd rB ho⟩
theorem subX(s:∀b,X b->X0 b\/h b=none)(k:BH X0 h hc)(s':∀b,X1 b->X b\/hc b=none):∀b,X1 b->X0 b\/h b=none:=λb q=>by
 rcases s' b q with q | q
 ·exact s b q
 ·by_cases a:X0 b
  ·exact .inl a
  ·refine .inr ?_;cases c:h b with
   | none=>rfl
   | some x=>
    obtain ⟨e,d,_⟩:=k b x.1 x.2 c a;rw [d] at q;cases q
theorem GA.call(y:GA hB aQ X0 h pre X hc){v:aU}(r:G7 hB aQ S pre X hc l v h') :
  ∃ok X',v=.bool ok/\(∀b,X' b->X b\/hc b=none)/\BH X hc h'/\(ok=true->GA hB aQ X0 h (pre++l) X' h')/\(ok=false->∀l',G7 hB aQ S pre X0 h l' (.bool false) h'):=by
 obtain ⟨ok,X',i,a,c,d,j,k⟩:=r;have f:BH X0 h h':=y.keep.trans y.sub c;have g:=subX y.sub y.keep a;exact ⟨ok,X',i,a,c,λe=>⟨j e,g,f,d⟩,λe l'=>⟨false,X',rfl,g,f,d,(λx=>by cases x),λ_=>k e⟩⟩
theorem GA.done(y:GA hB aQ X0 h (pre++l) X hc):G7 hB aQ S pre X0 h l (.bool true) hc:=⟨true,X,rfl,y.sub,y.keep,y.base,λ_=>y.inv,λx=>by cases x⟩
theorem GA.pass{U:Type}{hB:V}{aQ:List U->(Nat->Prop)->V->Prop}{S:V->Prop}{X0 X:Nat->Prop}{h hc h':V}{pre:List U}{l:List U}{v:aU}(y:GA hB aQ X0 h pre X hc)(r:G7 hB aQ S pre X hc l v h'):G7 hB aQ S pre X0 h l v h':=by
 obtain ⟨a,X',b,c,d,e,f,g⟩:=r;exact ⟨a,X',b,subX y.sub y.keep c,y.keep.trans y.sub d,e,f,g⟩
theorem G7.stopped{pre':List U}{v:aU}(hv:v=.bool false)(r:∀l',G7 hB aQ S pre X0 h l' (.bool false) h'):G7 hB aQ S pre' X0 h l v h':=by
 obtain ⟨f,X',e,a,b,c,_,d⟩:=r [];cases e;exact ⟨false,X',hv,a,b,c,(λx=>by cases x),d⟩
end
def Br{U:Type}(all pre l:List U):Prop:=∃post,all=pre++l++post
section
variable {U:Type} {all pre a b:List U}
theorem Br.left(w:Br all pre (a++b)):Br all pre a:=by
 obtain ⟨post,h⟩:=w;exact ⟨b++post,by rw [h];simp⟩
theorem Br.right(w:Br all pre (a++b)):Br all (pre++a) b:=by
 obtain ⟨post,h⟩:=w;exact ⟨post,by rw [h];simp⟩
theorem Br.one{p:U}(w:Br all pre [p]):∃post,all=pre++p ::post:=by
 obtain ⟨post,h⟩:=w;exact ⟨post,by rw [h];simp⟩
theorem WO(lo:Int)(i j:Nat):BW lo (i+j)=BW lo i++BW (lo+i) j:=by
 unfold BW;rw [List.range_add,List.map_append,List.map_map];congr 1;apply List.map_congr_left;intro x _;simp only [Function.comp];omega
theorem Br.round{lo hi:Int}{k:Nat}{F:Int->List U}(w:Br all pre ((E6 lo hi).flatMap F))(hk:lo+(k:Int)<=hi):Br all (pre++(BW lo k).flatMap F) (F (lo+k)):=by
 have e:E6 lo hi=BW lo k++([lo+(k:Int)]++BW (lo+((k+1:Nat):Int)) ((hi-lo+1).toNat-(k+1))):=by
  unfold E6;rw [<-List.append_assoc,<-NX,<-WO];congr 1;omega
 rw [e,List.flatMap_append,List.flatMap_append] at w;have c:=w.right.left;simpa using c
theorem Br.roundEnd{lo hi:Int}{k:Nat}{F:Int->List U}(h:¬lo+(k:Int)<=hi)(hk:(k:Int)<=hi-lo+1\/k=0):(E6 lo hi).flatMap F=(BW lo k).flatMap F:=(WN h hk).symm
end
section
variable {ag:AZ->Bool} {gs:List Good} {ms:List AI} {mo:Int} {f i k:Nat} {p pc:AZ} {all pre:List AZ} {lo hi x:Int}
theorem UX{b1 b2:Bool}(hpc:∀n b,pc.setMove i n b=p.setMove i n b):∀n b,(((pc.setMany i x).setLie i b1).setLie i b2).setMove i n b=p.setMove i n b:=λn b=>by
 rw [<-hpc,show ((pc.setMany i x).setLie i b1)=pc.setMove i x b1 from rfl,HV,N0]
theorem goods_pc(hpc:∀n,pc.setFirst i n=p.setFirst i n):∀n,(pc.setFirst i x).setFirst i n=p.setFirst i n:=λn=>by rw [<-hpc,Lx]
def UY(ms:List AI)(mo:Int)(i:Nat)(q:AZ):Prop:=((0<=(i:Int)/\(i:Int)<=(ms.length:Int)-1)/\(ms.getD ((i:Int)).toNat AI.z).kind=0)/\((B0 q 6:Int)<mo)
instance (ms:List AI) (mo:Int) (i:Nat) (q:AZ):Decidable (UY ms mo i q):=inferInstanceAs (Decidable (_/\_))
theorem S8{q:AZ}:(EP ms i && decide ((B0 q 6:Int)<mo))=decide (UY ms mo i q):=by
 unfold EP UY;rw [<-Bool.decide_and];exact decide_eq_decide.2 Iff.rfl
theorem Oz{q:AZ}{b:Bool}:(q.setLie i b).lies i=b:=by simp [AZ.setLie]
theorem UZ(hpc:∀n b,pc.setMove i n b=p.setMove i n b)(hC:(((pc.setMany i x).setLie i false).setLie i (decide (UY ms mo i ((pc.setMany i x).setLie i false)))).lies i=true)(hx:x=lo+(k:Int)) :
  pre++(BW lo (k+1)).flatMap (B5 ag ms mo f i p)=((pre++(BW lo k).flatMap (B5 ag ms mo f i p))++A8 ag ms mo f (i+1) ((pc.setMany i x).setLie i false))++
   A8 ag ms mo f (i+1) (((pc.setMany i x).setLie i false).setLie i (decide (UY ms mo i ((pc.setMany i x).setLie i false)))):=by
 rw [Oz] at hC;rw [hC,show ((pc.setMany i x).setLie i false)=pc.setMove i x false from rfl,HV,hpc,hpc,Hw,<-hx];rw [show ((pc.setMany i x).setLie i false)=pc.setMove i x false from rfl,hpc] at hC;unfold B5;rw [S8,hC];simp
theorem Ua(hpc:∀n b,pc.setMove i n b=p.setMove i n b)(hC:(((pc.setMany i x).setLie i false).setLie i (decide (UY ms mo i ((pc.setMany i x).setLie i false)))).lies i=false)(hx:x=lo+(k:Int)) :
  pre++(BW lo (k+1)).flatMap (B5 ag ms mo f i p)=(pre++(BW lo k).flatMap (B5 ag ms mo f i p))++A8 ag ms mo f (i+1) ((pc.setMany i x).setLie i false):=by
 rw [Oz] at hC;rw [show ((pc.setMany i x).setLie i false)=pc.setMove i x false from rfl,hpc,Hw,<-hx];rw [show ((pc.setMany i x).setLie i false)=pc.setMove i x false from rfl,hpc] at hC;unfold B5;rw [S8,hC];simp
theorem WP(hpc:∀n,pc.setFirst i n=p.setFirst i n)(hx:x=lo+(k:Int)) :
  pre++(BW lo (k+1)).flatMap (λn=>BT ag gs ms mo f (i+1) (p.setFirst i n))=(pre++(BW lo k).flatMap (λn=>BT ag gs ms mo f (i+1) (p.setFirst i n)))++BT ag gs ms mo f (i+1) (pc.setFirst i x):=by
 rw [hpc,Hw,<-hx];simp
theorem QW(hpc:∀n b,pc.setMove i n b=p.setMove i n b)(hw:Br all pre (A8 ag ms mo (f+1) i p))(hx:x=(ms.getD i AI.z).low+(k:Int))(hk:x<=(ms.getD i AI.z).high) :
  Br all (pre++(BW (ms.getD i AI.z).low k).flatMap (B5 ag ms mo f i p)) (A8 ag ms mo f (i+1) ((pc.setMany i x).setLie i false)):=by
 rw [EB] at hw;have w:=hw.round (k:=k) Y;rw [<-hx] at w;unfold B5 at w;rw [<-hpc] at w;exact w.left
theorem QX(hpc:∀n b,pc.setMove i n b=p.setMove i n b)(hw:Br all pre (A8 ag ms mo (f+1) i p))(hC:(((pc.setMany i x).setLie i false).setLie i (decide (UY ms mo i ((pc.setMany i x).setLie i false)))).lies i=true)(hx:x=(ms.getD i AI.z).low+(k:Int))(hk:x<=(ms.getD i AI.z).high) :
  Br all ((pre++(BW (ms.getD i AI.z).low k).flatMap (B5 ag ms mo f i p))++A8 ag ms mo f (i+1) ((pc.setMany i x).setLie i false)) (A8 ag ms mo f (i+1) (((pc.setMany i x).setLie i false).setLie i (decide (UY ms mo i ((pc.setMany i x).setLie i false))))):=by
 rw [Oz] at hC;rw [hC,show ((pc.setMany i x).setLie i false)=pc.setMove i x false from rfl,HV,hpc,hpc];rw [show ((pc.setMany i x).setLie i false)=pc.setMove i x false from rfl,hpc] at hC;rw [EB] at hw;have w:=hw.round (k:=k) Y;rw [<-hx] at w;have a:Br all (pre++(BW (ms.getD i AI.z).low k).flatMap (B5 ag ms mo f i p)) (A8 ag ms mo f (i+1) (p.setMove i x false)++A8 ag ms mo f (i+1) (p.setMove i x true)):=by
  have e:B5 ag ms mo f i p x=A8 ag ms mo f (i+1) (p.setMove i x false)++A8 ag ms mo f (i+1) (p.setMove i x true):=by
   unfold B5;rw [S8,hC,aT rfl]
  rw [<-e];exact w
 exact a.right
theorem S9(hpc:∀n,pc.setFirst i n=p.setFirst i n)(hw:Br all pre (BT ag gs ms mo (f+1) i p))(hx:x=(gs.getD i Good.z).low+(k:Int))(hk:x<=(gs.getD i Good.z).high) :
  Br all (pre++(BW (gs.getD i Good.z).low k).flatMap (λn=>BT ag gs ms mo f (i+1) (p.setFirst i n))) (BT ag gs ms mo f (i+1) (pc.setFirst i x)):=by
 rw [Eo] at hw;have w:=hw.round (k:=k) Y;rw [<-hx] at w;rw [hpc];exact w
end
def KF(l:List Int)(k:Nat):Int:=if k=0 then-1 else l.getD (k-1) 0
def Ly(ms:List AI)(l:List Int)(k:Nat):Int:=if¬EP ms (l.getD k 0)=true then 6 else if l.getD k 0<=KF l k then 7 else 0
def E9(p:AZ)(l:List Int)(k:Nat):AZ:=(l.take k).foldl (λp i=>p.setLie i.toNat true) p
theorem Ub{p:AZ}{l:List Int}{k:Nat}(hk:k<l.length):E9 p l (k+1)=(E9 p l k).setLie (l.getD k 0).toNat true:=by
 unfold E9;rw [DD 0 hk,List.foldl_append];rfl
def BB(d m:Int)(gs:List Good)(ms:List AI)(cs:List AP)(f y l:List Int):Int:=
 if¬Ah d m gs ms cs=0 then Ah d m gs ms cs
 else if¬A7 f gs.length=0 then A7 f gs.length
 else if¬A7 y ms.length=0 then A7 y ms.length
 else EO (Ly ms l) 0 l.length
def LB(f y l:List Int):AZ:=E9 ((AZ.zero.setFirsts f).setManys y) l l.length
theorem Fe{f:Nat->Int}:∀{n i:Nat},EO f i n=0->∀j,i<=j->j<i+n->f j=0
 | 0,i,_,j,a,b=>Y
 | n+1,i,h,j,a,b=>by
  unfold EO at h;split at h
  ·rename_i e
   rcases Nat.eq_or_lt_of_le a with rfl | h3
   ·exact e
   ·exact Fe h j h3 Y
  ·rename_i e;exact absurd h e
structure CA(d m:Int)(gs:List Good)(ms:List AI)(cs:List AP):Prop where
 days:1<=d/\d<=99
 most:0<=m/\m<=2
 glen:1<=gs.length/\gs.length<=3
 good:∀k,k<gs.length->I2 gs k=0
 mlen:ms.length<=6
 move:∀k,k<ms.length->GI d gs ms k=0
 clen:cs.length<=4
 count:∀k,k<cs.length->Hu d gs cs k=0
theorem Jj{d m:Int}{gs:List Good}{ms:List AI}{cs:List AP}(h:Ah d m gs ms cs=0):CA d m gs ms cs:=by
 have z:=λj i=>Fe (f:=E1 d m gs ms cs) h j (Nat.zero_le _) (Y:j<0+4);have e:Gc d m=0:=z 0 aC;have a:EA gs=0:=z 1 aC;have b:DT d gs ms=0:=z 2 aC;have c:D2 d gs cs=0:=z 3 aC;unfold Gc at e;unfold EA at a;unfold DT at b;unfold D2 at c;split at e <;> first | (cases e;done) | skip
 split at a <;> first | (cases a;done) | skip
 split at b <;> first | (cases b;done) | skip
 split at c <;> first | (cases c;done) | skip
 exact ⟨Y,Y,Y,λk g=>Fe a k (Nat.zero_le _) Y,Y,λk g=>Fe b k (Nat.zero_le _) Y,Y,λk g=>Fe c k (Nat.zero_le _) Y⟩
section
variable {d m:Int} {gs:List Good} {ms:List AI} {cs:List AP}
theorem CA.move'(b:CA d m gs ms cs){k:Nat}(hk:k<ms.length):(0<=(ms.getD k AI.z).kind/\(ms.getD k AI.z).kind<=4)/\(0<=(ms.getD k AI.z).good/\(ms.getD k AI.z).good<=(gs.length:Int)-1)/\
  (1<=(ms.getD k AI.z).day/\(ms.getD k AI.z).day<=d)/\Fq ms k<=(ms.getD k AI.z).day/\Gy (ms.getD k AI.z).low (ms.getD k AI.z).high:=by
 have z:=b.move k hk;unfold GI at z;split at z <;> first | (cases z;done) | skip
 split at z <;> first | (cases z;done) | skip
 split at z <;> first | (cases z;done) | skip
 split at z <;> first | (cases z;done) | skip
 split at z <;> first | (cases z;done) | skip
 rename_i a c e g f
 exact ⟨Decidable.not_not.1 a,Decidable.not_not.1 c,Decidable.not_not.1 e,Y,Decidable.not_not.1 f⟩
theorem DN{U:Type}{l:List U}{k:Nat}{z:U}(h:l.length<=k):l.getD k z=z:=by
 simp [List.getD_eq_getElem?_getD,List.getElem?_eq_none h]
theorem CA.kind(b:CA d m gs ms cs):∀k,0<=(ms.getD k AI.z).kind/\(ms.getD k AI.z).kind<=4:=λk=>by
 by_cases h:k<ms.length
 ·exact (b.move' h).1
 ·rw [DN Y];decide
theorem CA.few(b:CA d m gs ms cs):∀k,0<=(ms.getD k AI.z).low/\(ms.getD k AI.z).low<=(ms.getD k AI.z).high/\(ms.getD k AI.z).high<=99/\(ms.getD k AI.z).high-(ms.getD k AI.z).low<3:=λk=>by
 by_cases h:k<ms.length
 ·have:=(b.move' h).2.2.2.2;unfold Gy at this;omega
 ·rw [DN Y];decide
theorem CA.good'(b:CA d m gs ms cs){k:Nat}(hk:k<gs.length):(0<=(gs.getD k Good.z).cost/\(gs.getD k Good.z).cost<=999)/\(1<=(gs.getD k Good.z).pack/\(gs.getD k Good.z).pack<=20)/\Gy (gs.getD k Good.z).low (gs.getD k Good.z).high:=by
 have z:=b.good k hk;unfold I2 at z;split at z <;> first | (cases z;done) | skip
 split at z <;> first | (cases z;done) | skip
 split at z <;> first | (cases z;done) | skip
 rename_i c e a
 exact ⟨Y,Y,Decidable.byContradiction λq=>a (.inr q)⟩
theorem CA.gfew(b:CA d m gs ms cs):∀k,0<=(gs.getD k Good.z).low/\(gs.getD k Good.z).low<=(gs.getD k Good.z).high/\(gs.getD k Good.z).high<=99/\(gs.getD k Good.z).high-(gs.getD k Good.z).low<3:=λk=>by
 by_cases h:k<gs.length
 ·have:=(b.good' h).2.2;unfold Gy at this;omega
 ·rw [DN Y];decide
theorem CA.cgood(b:CA d m gs ms cs):∀x ∈ cs,0<=x.good/\x.good<3:=λx c=>by
 obtain ⟨k,a,rfl⟩:=List.getElem_of_mem c;have z:=b.count k a;unfold Hu at z;rw [EN AP.z a] at z
 have:=b.glen
 split at z <;> first | (cases z;done) | skip
 omega
theorem Ge{l:List Int}{n:Int}(h:A7 l n=0):(l.length:Int)=n/\∀k,0<=l.getD k 0/\l.getD k 0<=99:=by
 unfold A7 at h;split at h <;> first | (cases h;done) | skip
 split at h <;> first | (cases h;done) | skip
 rename_i a b
 refine ⟨Decidable.not_not.1 a,λk=>?_⟩;by_cases c:k<l.length
 ·refine Decidable.byContradiction λq=>b ?_;rw [List.any_eq_true];exact ⟨l.getD k 0,CG c,decide_eq_true q⟩
 ·rw [DN Y];decide
variable {f y l:List Int}
def Bc(d m:Int)(gs:List Good)(ms:List AI)(cs:List AP)(f y l:List Int):AZ:=if BB d m gs ms cs f y l=0 then LB f y l else AZ.zero
theorem TA(h:¬Ah d m gs ms cs=0):BB d m gs ms cs f y l=Ah d m gs ms cs:=by unfold BB;rw [aT h]
theorem TB(h:¬¬Ah d m gs ms cs=0)(h2:¬A7 f gs.length=0):BB d m gs ms cs f y l=A7 f gs.length:=by unfold BB;rw [aS h,aT h2]
theorem TC(h:¬¬Ah d m gs ms cs=0)(h2:¬¬A7 f gs.length=0)(h3:¬A7 y ms.length=0):BB d m gs ms cs f y l=A7 y ms.length:=by unfold BB;rw [aS h,aS h2,aT h3]
theorem I3(h:¬¬Ah d m gs ms cs=0)(h2:¬¬A7 f gs.length=0)(h3:¬¬A7 y ms.length=0){c:Int}(h4:EO (Ly ms l) 0 l.length=c):BB d m gs ms cs f y l=c:=by unfold BB;rw [aS h,aS h2,aS h3,h4]
theorem HW{c:Int}(e:BB d m gs ms cs f y l=c)(hc:¬c=0):(.tuple #[.agg (Aq AZ.zero),.int .i64 c]:aU)=.tuple #[.agg (Aq (Bc d m gs ms cs f y l)),.int .i64 (BB d m gs ms cs f y l)]:=by
 unfold Bc;rw [e,aS hc]
theorem Uc(e:BB d m gs ms cs f y l=0){k:Nat}(hk:¬(k:Int)<l.length)(hk':k<=l.length):(.tuple #[.agg (Aq (E9 ((AZ.zero.setFirsts f).setManys y) l k)),.int .i64 0]:aU)=.tuple #[.agg (Aq (Bc d m gs ms cs f y l)),.int .i64 (BB d m gs ms cs f y l)]:=by
 unfold Bc LB;rw [e,aT rfl,show k=l.length by omega]
theorem lieAt_6{k:Nat}(h:¬((0<=l.getD k 0/\l.getD k 0<=(ms.length:Int)-1)/\(ms.getD (l.getD k 0).toNat AI.z).kind=0)):Ly ms l k=6:=by
 unfold Ly EP;rw [aT (by simpa using h)]
theorem lieAt_7{k:Nat}(h:¬¬((0<=l.getD k 0/\l.getD k 0<=(ms.length:Int)-1)/\(ms.getD (l.getD k 0).toNat AI.z).kind=0))(h2:l.getD k 0<=KF l k):Ly ms l k=7:=by
 unfold Ly EP;rw [aS (by simpa using h),aT h2]
theorem lieAt_0{k:Nat}(h:¬¬((0<=l.getD k 0/\l.getD k 0<=(ms.length:Int)-1)/\(ms.getD (l.getD k 0).toNat AI.z).kind=0))(h2:¬l.getD k 0<=KF l k):Ly ms l k=0:=by
 unfold Ly EP;rw [aS (by simpa using h),aS h2]
end
theorem I4(p:AZ):(Value.agg (Aq p)).cells.size=15:=rfl
theorem I5(p:AZ):Value.fine (.agg (Aq p))=true:=rfl
theorem KG(p:AZ):0+15<=(Aq p).size:=Nat.le_refl 15
theorem KH(p q:AZ):BV (Aq p) 0 (Value.agg (Aq q)).cells.toList=Aq q:=by
 show BV (Aq p) 0 (Aq q).toList=Aq q;apply Array.toList_inj.1;rw [ES _ _ _ (Nat.le_refl 15)];show []++(Aq q).toList++[]=_;simp
theorem Fr{β:Type}(f:Nat->β)(k:Nat):(List.range (k+1)).map f=(List.range k).map f++[f k]:=by
 rw [List.range_succ,List.map_append];rfl
section
variable {d m:Int} {gs:List Good} {ms:List AI} {cs:List AP} {f y l:List Int}
theorem Bp.lies{p:AZ}(h:Bp p)(l:List Int)(k:Nat):Bp (E9 p l k):=by
 unfold E9;generalize l.take k=t
 induction t generalizing p with
 | nil=>exact h
 | cons x t a=>exact a (p:=p.setLie x.toNat true) h
theorem ZH(h:BB d m gs ms cs f y l=0):CA d m gs ms cs/\Bp (Bc d m gs ms cs f y l):=by
 have a:=h;unfold BB at h;split at h <;> first | (rename_i q;exact absurd h q) | skip
 split at h <;> first | (rename_i q;exact absurd h q) | skip
 split at h <;> first | (rename_i q;exact absurd h q) | skip
 rename_i b c e
 refine ⟨Jj (Decidable.not_not.1 b),?_⟩;unfold Bc;rw [aT a];unfold LB;refine Bp.lies ?_ _ _;have g:=(Ge (Decidable.not_not.1 c)).2;have j:=(Ge (Decidable.not_not.1 e)).2;refine ⟨λi=>?_,λi=>?_⟩
 ·show 0<=(if i<f.length then f.getD i 0 else 0)/\(if i<f.length then f.getD i 0 else 0)<=99;split
  ·exact g i
  ·decide
 ·show 0<=(if i<y.length then y.getD i 0 else 0)/\(if i<y.length then y.getD i 0 else 0)<=99;split
  ·exact j i
  ·decide
def HX(d m:Int)(gs:List Good)(ms:List AI)(cs:List AP)(f y l:List Int):List Int:=if BB d m gs ms cs f y l=0 then (List.range gs.length).map (λ(i:Nat)=>(AX ms (Bc d m gs ms cs f y l) (i:Int) d).1) else []
def I6(d m:Int)(gs:List Good)(ms:List AI)(cs:List AP)(f y l:List Int):List Int:=if BB d m gs ms cs f y l=0 then (List.range gs.length).map (λ(i:Nat)=>(AX ms (Bc d m gs ms cs f y l) (i:Int) d).2) else []
theorem TE(h:¬BB d m gs ms cs f y l=0):HX d m gs ms cs f y l=[]:=aS h
theorem Ud(h:¬BB d m gs ms cs f y l=0):I6 d m gs ms cs f y l=[]:=aS h
theorem QY(h:¬¬BB d m gs ms cs f y l=0){k:Nat}(hk:k<=gs.length)(hk':¬(k:Int)<gs.length):HX d m gs ms cs f y l=(List.range k).map (λ(i:Nat)=>(AX ms (Bc d m gs ms cs f y l) (i:Int) d).1):=by
 unfold HX;rw [aT (Decidable.not_not.1 h),show gs.length=k by omega]
theorem TF(h:¬¬BB d m gs ms cs f y l=0){k:Nat}(hk:k<=gs.length)(hk':¬(k:Int)<gs.length):I6 d m gs ms cs f y l=(List.range k).map (λ(i:Nat)=>(AX ms (Bc d m gs ms cs f y l) (i:Int) d).2):=by
 unfold I6;rw [aT (Decidable.not_not.1 h),show gs.length=k by omega]
end
theorem Jk{U β:Type}{f:U->List β}{c:Nat}:∀{l:List U},(∀x ∈ l,(f x).length<=c)->(l.flatMap f).length<=l.length*c
 | [],_=>aD
 | x ::l,h=>by
  rw [List.flatMap_cons,List.length_append,List.length_cons,Nat.succ_mul];have b:=h x aD;have d:=Jk (l:=l) λy a=>h y (by simp [a]);omega
theorem Rj{lo hi:Int}(h:hi-lo<3):(E6 lo hi).length<=3:=by
 unfold E6 BW;rw [List.length_map,List.length_range];omega
theorem IE{ag:AZ->Bool}{ms:List AI}{mo:Int}(hf:∀k,(ms.getD k AI.z).high-(ms.getD k AI.z).low<3):∀f i p,(A8 ag ms mo f i p).length<=6 ^ f
 | 0,_,p=>by unfold A8;split <;> simp
 | f+1,i,p=>by
  rw [EB];have d:=Jk (f:=B5 ag ms mo f i p) (c:=2*6 ^ f) (l:=E6 (ms.getD i AI.z).low (ms.getD i AI.z).high) λn _=>by
   unfold B5;rw [List.length_append];have a:=IE (ag:=ag) (mo:=mo) hf f (i+1) (p.setMove i n false);have b:=IE (ag:=ag) (mo:=mo) hf f (i+1) (p.setMove i n true);split
   ·omega
   ·simp only [List.length_nil];omega
  have e:=Nat.mul_le_mul_right (2*6 ^ f) (Rj (hf i));rw [Nat.pow_succ];omega
theorem Kk{ag:AZ->Bool}{gs:List Good}{ms:List AI}{mo:Int}(hg:∀k,(gs.getD k Good.z).high-(gs.getD k Good.z).low<3)(hf:∀k,(ms.getD k AI.z).high-(ms.getD k AI.z).low<3) :
  ∀f i p,(BT ag gs ms mo f i p).length<=3 ^ f*6 ^ ms.length
 | 0,_,p=>by unfold BT;have:=IE (ag:=ag) (mo:=mo) hf ms.length 0 p;omega
 | f+1,i,p=>by
  rw [Eo];have a:=Jk (f:=λn=>BT ag gs ms mo f (i+1) (p.setFirst i n)) (c:=3 ^ f*6 ^ ms.length) (l:=E6 (gs.getD i Good.z).low (gs.getD i Good.z).high) λn _=>Kk hg hf f (i+1) _;have b:=Nat.mul_le_mul_right (3 ^ f*6 ^ ms.length) (Rj (hg i));rw [Nat.pow_succ,Nat.mul_comm (3 ^ f) 3,Nat.mul_assoc];omega
theorem Eb{d m:Int}{gs:List Good}{ms:List AI}{cs:List AP}(b:CA d m gs ms cs)(mo:Int):(AY d gs ms cs mo).length<=2000000:=by
 unfold AY;have h:=Kk (ag:=BI d gs.length ms cs) (mo:=mo) (λk=>(b.gfew k).2.2.2) (λk=>(b.few k).2.2.2) gs.length 0 AZ.zero;have a:3 ^ gs.length<=3 ^ 3:=Nat.pow_le_pow_right aC b.glen.2;have c:6 ^ ms.length<=6 ^ 6:=Nat.pow_le_pow_right aC b.mlen;have e:=Nat.mul_le_mul a c
 have:3 ^ 3*6 ^ 6<=2000000:=aC
 omega
theorem TG{U:Type}{all pre post:List U}{p:U}(h:all=pre++p ::post){n:Nat}(hn:all.length<=n):pre.length+1<=n:=by
 rw [h,List.length_append,List.length_cons] at hn;omega
theorem AD.one{U:Type}{h:V}{v:aU}{n:Nat}{enc:U->Array aU}{xs:List U}(x:AD h v n enc xs):v.cells=#[v]/\v.oneCell'=true:=by
 obtain ⟨a,b,rfl,_⟩:=x;exact ⟨rfl,rfl⟩
theorem GW{v:aU}(h:v.cells=#[v]/\v.oneCell'=true):Value.fine v=true:=by unfold Value.fine;rw [h.1];simp [h.2]
theorem GX{v:aU}(h:v.cells=#[v]/\v.oneCell'=true):v.cells.size=1:=by rw [h.1];rfl
theorem IF{v:aU}(h:v.cells=#[v]/\v.oneCell'=true){c c':Array aU}{o:Nat}(e:BV c o [v]=c'):BV c o v.cells.toList=c':=by rw [h.1];exact e
end Go.Ns
namespace Go.Ns
open Go.Conc
section
variable {P:Program} {E:F8 P} {O:Nat->aU} {ds:List Deferred} {U:Type}
def RoundEnd(hB:V)(J:List U->(Nat->Prop)->V->Prop)(Stop:Code->V->Prop)(pre:List U)(aM:Nat->Prop)(h:V)(l:Nat)(lo:Loop):Post:=λe _ _ h3=>
 h3 l=some (true,.loop { lo with state:=.busy })/\∃Y',(∀b,Y' b->aM b\/h b=none)/\BH (λb=>aM b\/b=l) h h3/\hB.Le h3/\match e with
  | .normal=>J pre Y' h3
  | .exit id=>Stop (.exit id) h3
  | .ret=>Stop .ret h3
  | _=>False
def Ye(J:List U->(Nat->Prop)->V->Prop)(l d:Nat)(lo:Loop)(pre:List U)(X:Nat->Prop)(h:V):Prop:=
 ∃aM,J pre aM h/\(∀b,X b↔aM b\/b=l\/b=d)/\¬aM l/\¬aM d/\h l=some (true,.loop lo)/\h d=some (true,.deferred (some []))
def LoopS(Stop:Code->V->Prop)(l d:Nat)(lo:Loop)(h:V):Prop:=
 ∃c,Stop c h/\h l=some (true,.loop { lo with state:=.done,pending:=some c })/\h d=some (true,.deferred (some []))
def ZI(hB:V)(aQ:List U->(Nat->Prop)->V->Prop)(Sp:V->Prop)(all:List U)(X:Nat->Prop)(h h':V):Prop:=
 ∃X',(∀b,X' b->X b\/h b=none)/\BH X h h'/\hB.Le h'/\(aQ all X' h'\/Sp h')
theorem G7.final{hB:V}{aQ:List U->(Nat->Prop)->V->Prop}{Sp:V->Prop}{all:List U}{X:Nat->Prop}{h h':V}{v:aU}(r:G7 hB aQ Sp [] X h all v h'):ZI hB aQ Sp all X h h':=by
 obtain ⟨d,X',g,a,b,c,e,f⟩:=r;cases d with
 | true=>exact ⟨X',a,b,c,.inl (e rfl)⟩
 | false=>exact ⟨X',a,b,c,.inr (f rfl)⟩
theorem Jl{enc:U->Array aU}{all:List U}{hB hc:V}{J:List U->(Nat->Prop)->V->Prop}{Stop:Code->V->Prop}{Y0:Nat->Prop}{par:Tmp}{f:Operand}{assign body:Code}{Q:Post}
  (hrd:E.rd=none) (hpar:Nat.blt par E.N=true) (hJ:F9 hB J) (hB0:hB.Le hc) (j0:J [] Y0 hc)
  (hS:∀c (h h':V) l lo,Stop c h->h l=some (true,.loop lo)->(∀b,b≠l->h' b=h b)->Stop c h')
  (src:∀(yv:aU)(aQ:List U->(Nat->Prop)->V->Prop)(Sp:V->Prop)(X:Nat->Prop)(h:V),GJ E.wk hB yv enc aQ Sp all->hB.Le h->aQ [] X h->CC E.wk (AL O f) #[yv] h λ_ h'=>ZI hB aQ Sp all X h h')
  (round:∀(l d:Nat)(lo:Loop)(pre:List U)(p:U)(post:List U)(aM:Nat->Prop)(h:V),all=pre++p ::post->J pre aM h->hB.Le h->hB l=none->¬aM l->h l=some (true,.loop lo)->
   Tr ⟨E.wk,E.fn,some l,E.N⟩ assign (upd O par (.agg (enc p))) [] h λe σ' ds' h1=>e=.normal/\h1 l=some (true,.loop lo)/\∀h2,h2 l=some (true,.loop { lo with state:=.busy })->(∀b,b≠l->h2 b=h1 b)->
    Tr ⟨E.wk,E.fn,some l,E.N⟩ body σ' ds' h2 (RoundEnd hB J Stop (pre++[p]) aM h l lo))
  (fin:∀(d l:Nat)(h':V),hB.Le h'->hB d=none->hB l=none->hc d=none->h' d=some (true,.deferred (some []))->
   (∀aM,J all aM h'->(∀b,aM b->b≠d)->Q .normal O ({ target:=.collected d,args:=#[] } ::ds) h')/\
   (∀c,Stop c h'->match c with
    | .exit id=>Q (.exit id) O ({ target:=.collected d,args:=#[] } ::ds) h'
    | .ret=>Q .ret O ({ target:=.collected d,args:=#[] } ::ds) h'
    | _=>False)):Tr E (.rangeFunc f #[par] assign body) O ds hc Q:=by
 refine Sy hrd λt d l hs F W k=>?_;have m:hB l=none:=hB0.nothing W;have H:hB d=none:=hB0.nothing F;let lo:Loop:={ state:=.ready,pending:=none,fn:=E.fn,tmps:=t,params:=#[par],assign,body,defers:=d };have nYl:¬Y0 l:=hJ.off j0 W;have nYd:¬Y0 d:=hJ.off j0 F;have hL1:((hc.set d true (.deferred (some []))).set l true (.loop lo)) l=some (true,.loop lo):=V.set_same _ _ _ _;have hL2:((hc.set d true (.deferred (some []))).set l true (.loop lo)) d=some (true,.deferred (some [])):=by rw [V.set_ne _ _ _ (Ne.symm k)];exact V.set_same _ _ _ _
 have hL3:∀b,b≠l->b≠d->((hc.set d true (.deferred (some []))).set l true (.loop lo)) b=hc b:=λb h1 h2=>by rw [V.set_ne _ _ _ h1,V.set_ne _ _ _ h2]
 have K:hB.Le ((hc.set d true (.deferred (some []))).set l true (.loop lo)):=(hB0.trans (V.Le.new F _ _)).trans (V.Le.new (by rw [V.set_ne _ _ _ k];exact W) _ _);have hI0:Ye J l d lo [] (λb=>Y0 b\/b=l\/b=d) ((hc.set d true (.deferred (some []))).set l true (.loop lo)):=by
  refine ⟨Y0,hJ.stable _ _ hc _ j0 (λb a=>hL3 b (λe=>nYl (e▸a)) (λe=>nYd (e▸a))) K,λb=>Iff.rfl,nYl,nYd,hL1,hL2⟩
 have prom:F9 hB (Ye J l d lo):=by
  refine ⟨?_,?_⟩
  ·rintro pre X h b ⟨aM,j,n,_,_,h1,h2⟩ a;rcases (n b).1 a with r | rfl | rfl
   ·exact hJ.dom _ _ _ _ j r
   ·exact ⟨_,_,h1,rfl⟩
   ·exact ⟨_,_,h2,rfl⟩
  ·rintro pre X h h' ⟨aM,j,n,B,C,h1,h2⟩ same lB;refine ⟨aM,hJ.stable _ _ h h' j (λb a=>same b ((n b).2 (.inl a))) lB,n,B,C,?_,?_⟩
   ·rw [same l ((n l).2 (.inr (.inl rfl)))];exact h1
   ·rw [same d ((n d).2 (.inr (.inr rfl)))];exact h2
 have yk:GJ E.wk hB (.func (.yield l) #[] #[]) enc (Ye J l d lo) (LoopS Stop l d lo) all:=by
  refine ⟨prom,rfl,?_⟩;rintro pre p post X h R ⟨aM,j,n,B,C,h1,h2⟩ lB;refine WJ h1 rfl ?_;have ef:(lo.params.zip #[Value.agg (enc p)]).foldl (λtmps x=>tmps.setIfInBounds x.1 x.2) lo.tmps=t.setIfInBounds par (.agg (enc p)):=by simp [lo]
  rw [ef];show Bu E.wk l E.fn (t.setIfInBounds par (.agg (enc p))) assign body h _;have u:=hs.put hpar (.agg (enc p));refine UO (N:=E.N) u.1 ?_;have e0:(λi=>(t.setIfInBounds par (.agg (enc p))).getD i undef)=upd O par (.agg (enc p)):=funext u.2;rw [e0];refine N9 ?_ (round l d lo pre p post aM h R j lB m B h1);rintro e σ' ds' ha ⟨rfl,ha1,a⟩;refine ⟨rfl,lo,ha1,rfl,?_⟩;refine N9 ?_ (a _ (V.set_same _ _ _ _) λb a=>V.set_ne _ _ _ a);rintro e σ2 ds2 r ⟨g1,Y',g2,g3,g4,D⟩;have w:r d=some (true,.deferred (some [])):=g3.box h2 (λq=>q.elim C (λe=>k e.symm)) rfl;have nl:¬Y' l:=λq=>(g2 l q).elim B λe=>by rw [h1] at e;cases e
  have nd:¬Y' d:=λq=>(g2 d q).elim C λe=>by rw [h2] at e;cases e
  have y:∀(g:Loop)(T:Bool),(if T then J (pre++[p]) Y' (r.set l true (.loop g))/\g=lo else LoopS Stop l d lo (r.set l true (.loop g)))->G7 hB (Ye J l d lo) (LoopS Stop l d lo) pre X h [p] (.bool T) (r.set l true (.loop g)):=by
   intro g T A;refine ⟨T,λb=>Y' b\/b=l\/b=d,rfl,?_,?_,?_,?_,?_⟩
   ·rintro b (a | rfl | rfl)
    ·exact (g2 b a).imp (λq=>(n b).2 (.inl q)) id
    ·exact .inl ((n _).2 (.inr (.inl rfl)))
    ·exact .inl ((n _).2 (.inr (.inr rfl)))
   ·intro b q o a hn;have nb:b≠l:=λe=>hn ((n b).2 (.inr (.inl e)));rw [V.set_ne _ _ _ nb];exact g3 b q o a λq=>q.elim (λz=>hn ((n b).2 (.inl z))) nb
   ·exact g4.upd m λb a=>V.set_ne _ _ _ a
   ·rintro rfl;simp only [if_true] at A;obtain ⟨hj,rfl⟩:=A;exact ⟨Y',hj,λb=>Iff.rfl,nl,nd,V.set_same _ _ _ _,by rw [V.set_ne _ _ _ (Ne.symm k)];exact w⟩
   ·rintro rfl;simpa using A
  have js:∀(g:Loop),J (pre++[p]) Y' r->J (pre++[p]) Y' (r.set l true (.loop g)):=λg hj=>hJ.store hj nl (λb a=>V.set_ne _ _ _ a) (g4.upd m λb a=>V.set_ne _ _ _ a);have ss:∀c (g:Loop),Stop c r->Stop c (r.set l true (.loop g)):=λc g hc=>hS c r _ l _ hc g1 λb a=>V.set_ne _ _ _ a;refine ⟨_,g1,?_⟩;cases e with
  | normal=>exact y _ true (by simp only [if_true];exact ⟨js _ D,rfl⟩)
  | exit id=>exact y _ false (by simp only [Bool.false_eq_true,if_false];exact ⟨_,ss _ _ D,V.set_same _ _ _ _,by rw [V.set_ne _ _ _ (Ne.symm k)];exact w⟩)
  | ret=>exact y _ false (by simp only [Bool.false_eq_true,if_false];exact ⟨_,ss _ _ D,V.set_same _ _ _ _,by rw [V.set_ne _ _ _ (Ne.symm k)];exact w⟩)
  | goto _=>exact D.elim
  | panic _=>exact D.elim
  | outgrown=>exact D.elim
 refine (src _ _ _ _ _ yk K hI0).mono ?_;rintro v h' ⟨X',u,hk,S,hor⟩;rcases hor with ⟨aM,j,n,B,C,h1,h2⟩ | ⟨c,hst,h1,h2⟩
 ·refine ⟨lo,h1,rfl,?_⟩;show Q .normal O _ _;have s:=S.upd m (λb a=>V.set_ne h' true (.loop { lo with state:=.exhausted }) a);refine (fin d l _ s H m F (by rw [V.set_ne _ _ _ (Ne.symm k)];exact h2)).1 aM (hJ.store j B (λb a=>V.set_ne _ _ _ a) s) λb a e=>C (e▸a)
 ·refine ⟨_,h1,rfl,?_⟩;have s:=S.upd m (λb a=>V.set_ne h' true (.loop { { lo with state:=.done,pending:=some c } with state:=.exhausted }) a)
  have:=(fin d l _ s H m F (by rw [V.set_ne _ _ _ (Ne.symm k)];exact h2)).2 c (hS c h' _ l _ hst h1 λb a=>V.set_ne _ _ _ a)
  cases c with
  | exit id=>exact this
  | ret=>exact this
  | _=>exact this.elim
structure KI(hB:V)(X:Nat->Prop)(h hc:V):Prop where
 keep:BH X h hc
 base:hB.Le hc
 dom:∀b,X b->∃o,hc b=some o
section
variable {hB h hc h':V} {X:Nat->Prop}
theorem V.Le.someOf{h h':V}(l:h.Le h'){b:Nat}(x:∃o,h b=some o):∃o,h' b=some o:=by
 obtain ⟨o,a⟩:=x;obtain ⟨d,c,_⟩:=l b o.1 o.2 a;exact ⟨_,c⟩
theorem KI.start(lB:hB.Le h)(d:∀b,X b->∃o,h b=some o):KI hB X h h:=⟨BH.refl _ _,lB,d⟩
theorem KI.le(r:KI hB X h hc)(l:hc.Le h'):KI hB X h h':=⟨r.keep.trans (λ_ q=>.inl q) (l.keepX X),r.base.trans l,λb a=>l.someOf (r.dom b a)⟩
theorem KI.nothing(r:KI hB X h hc){q:Nat}(hq:hc q=none):h q=none:=by
 cases d:h q with
 | none=>rfl
 | some x=>
  by_cases a:X q
  ·obtain ⟨o,b⟩:=r.dom q a;rw [hq] at b;cases b
  ·obtain ⟨e,c,_⟩:=r.keep q x.1 x.2 d a;rw [hq] at c;cases c
theorem KI.store(r:KI hB X h hc){q:Nat}(hq:X q\/h q=none)(rB:hB q=none)(ho:∀b,b≠q->h' b=hc b)(hn:∃o,h' q=some o):KI hB X h h':=
 ⟨λb p o a c=>by
   have d:b≠q:=λe=>by
    subst e;rcases hq with hq | hq
    ·exact c hq
    ·rw [hq] at a;cases a
   rw [ho b d];exact r.keep b p o a c,
  r.base.upd rB ho,λb a=>by
   by_cases e:b=q
   ·subst e;exact hn
   ·rw [ho b e];exact r.dom b a⟩
theorem BH.app{v v':aU}(k:BH X h hc)(g:HT hc h' v v')(hv:∀b,back v=some b->X b):BH X h h':=λb p o c a=>by
 obtain ⟨d,f,i⟩:=k b p o c a;exact ⟨d,g.1 b _ f λe=>a (hv b e),i⟩
theorem BH.store'{q:Nat}(k:BH X h hc)(hq:X q\/h q=none)(ho:∀b,b≠q->h' b=hc b):BH X h h':=λb p o a c=>by
 have d:b≠q:=λe=>by
  subst e;rcases hq with hq | hq
  ·exact c hq
  ·rw [hq] at a;cases a
 rw [ho b d];exact k b p o a c
end
def V.del(h:V)(r:Nat):V:=λb=>if b=r then none else h b
theorem V.del_le(h:V)(r:Nat):(h.del r).Le h:=λb p o a=>by
 unfold V.del at a;split at a
 ·cases a
 ·exact ⟨o,a,.inl rfl⟩
theorem V.del_none(h:V)(r:Nat):h.del r r=none:=aT rfl
theorem V.del_ne{h:V}{r b:Nat}(e:b≠r):h.del r b=h b:=aS e
theorem V.Le.del{h0 h:V}(l:h0.Le h){r:Nat}(hr:h0 r=none):h0.Le (h.del r):=λb p o a=>by
 rw [V.del_ne (V.ne_of a hr)];exact l b p o a
theorem AN.del{h:V}{r b off n:Nat}{vs:Array aU}(x:AN h b off n vs)(e:b≠r):AN (h.del r) b off n vs:=x.same (V.del_ne e)
theorem L0{W:Wk P}{x v:aU}{args:Array aU}{h:V}{R:aU->V->Prop}(e:x=v)(k:CC W v args h R):CC W x args h R:=e▸k
def ZJ{U:Type}(hB:V)(r:Nat)(T t:aV)(n:Nat)(enc:U->Array aU)(pre:List U)(aM:Nat->Prop)(h:V):Prop:=
 ∃w,h r=some (true,.cells #[w] T (0,0))/\AV hB h w t n enc pre/\Ba w r/\hB r=none/\∀b,aM b↔b=r\/back w=some b
theorem AV.cellsAt{U:Type}{h0 h:V}{v:aU}{t:aV}{n:Nat}{enc:U->Array aU}{xs:List U}(x:AV h0 h v t n enc xs):∀b,back v=some b->∃c,h b=some (true,.cells c t (0,0)):=by
 intro b a;rcases x with ⟨rfl,_⟩ | ⟨f,d,c,rfl,g,e,_⟩
 ·cases a
 ·simp [back] at a;subst a;exact ⟨_,e⟩
theorem HH{U:Type}(hB:V)(r:Nat)(T t:aV)(n:Nat)(enc:U->Array aU):F9 hB (ZJ hB r T t n enc):=by
 refine ⟨?_,?_⟩
 ·rintro d k h b ⟨w,e,f,i,j,a⟩ g;rcases (a b).1 g with rfl | h5
  ·exact ⟨_,_,e,rfl⟩
  ·obtain ⟨c,l⟩:=f.cellsAt b h5;exact ⟨_,_,l,rfl⟩
 ·rintro d k h p ⟨w,e,f,i,j,a⟩ same q;refine ⟨w,by rw [same r ((a r).2 (.inl rfl))];exact e,f.keep λb o g m=>by rw [same b ((a b).2 (.inr g))];exact m,i,j,a⟩
theorem LC{U:Type}{hB h:V}{r:Nat}{T t:aV}{n:Nat}{enc:U->Array aU}(x:h r=some (true,.cells #[.slice none 0 0] T (0,0)))(h0:hB r=none):ZJ hB r T t n enc [] (λb=>b=r) h:=
 ⟨_,x,AV.nil _ _ _ _ _,Ba.nil,h0,λ_=>⟨.inl,λq=>q.elim id λe=>by cases e⟩⟩
theorem O0{U:Type}{hB h h' ha hb:V}{r:Nat}{T t:aV}{n:Nat}{enc:U->Array aU}{pre:List U}{w w':aU}{aM:Nat->Prop}(hY:∀b,aM b↔b=r\/back w=some b)(g:HT ha hb w w')(hn:∀q,ha q=none->h q=none)
  (x:h' r=some (true,.cells #[w'] T (0,0))) (o:AV hB h' w' t n enc pre) (f:Ba w' r) (h0:hB r=none) :
  ∃Y',(∀b,Y' b->aM b\/h b=none)/\ZJ hB r T t n enc pre Y' h':=by
 refine ⟨λb=>b=r\/back w'=some b,?_,w',x,o,f,h0,λ_=>Iff.rfl⟩;rintro b (rfl | hb)
 ·exact .inl ((hY _).2 (.inl rfl))
 ·rcases g.2 with e | ⟨⟨q,a,c⟩,_⟩
  ·exact .inl ((hY _).2 (.inr (by rw [<-e];exact hb)))
  ·rw [a] at hb;cases hb;exact .inr (hn _ c)
theorem IS{fn:Func}{O:Nat->aU}{R:aU->V->Prop}{d:Nat}{ds:List Deferred}{h:V}(hd:h d=some (true,.deferred (some [])))(x:∀h',(∀b,b≠d->h' b=h b)->Fk P fn O R ds h') :
  Fk P fn O R ({ target:=.collected d,args:=#[] } ::ds) h:=⟨d,rfl,_,hd,rfl,x _ λb a=>V.set_ne _ _ _ a⟩
end
end Go.Ns
namespace Go.Ns
open Go.Conc
section
variable {P:Program} {E:F8 P}
abbrev IG:=(Nat->aU)->aU->V->Prop
def GK(Φ:List IG)(k:Nat):IG:=Φ.getD k λ_ _ _=>True
def O1(ops:List Oper)(Φ:List IG)(O:Nat->aU)(h:V)(j:Nat):Prop:=match ops[j]? with
 | some o=>Ck ops o O->GK Φ j O (IP o O) h
 | none=>True
def G8(ops:List Oper)(Φ:List IG)(O:Nat->aU)(h:V):List Nat->Prop
 | []=>True
 | j ::l=>O1 ops Φ O h j/\G8 ops Φ O h l
theorem G8.get{ops:List Oper}{Φ:List IG}{O:Nat->aU}{h:V}:∀{l:List Nat},(∀j ∈ l,O1 ops Φ O h j)->G8 ops Φ O h l
 | [],_=>trivial
 | j ::l,x=>⟨x j aD,G8.get λi a=>x i (by simp [a])⟩
def TH(l:List Oper)(n:Nat)(cls:List (List Nat))(Φ:List IG):Prop:=
 ∀k i oi d,k<n->i<n->i≠k->i ∉ cls.getD k []->l[i]? =some oi->oi.dst=some d->∀O u v h,GK Φ k O v h->GK Φ k (upd O d u) v h
def St(R:V->V->Prop)(Pre:Nat->V->Prop)(Φ:List IG)(cl:List Nat)(k:Nat)(h h':V):Prop:=R h h'/\(∀j,j≠k->∀O v,GK Φ j O v h->GK Φ j O v h')/\∀j,j≠k->j ∉ cl->Pre j h->Pre j h'
def Yf(R:V->V->Prop)(Pre:Nat->V->Prop)(E:F8 P)(ops:List Oper)(n:Nat)(Φ:List IG)(O:Nat->aU)(ds:List Deferred)(h:V)(k:Nat)(o:Oper)(cl:List Nat):Prop:=
 ∀σ' h',R h h'->(∀t,(DA ops n).contains t=false->σ' t=O t)->G8 ops Φ σ' h' cl->Ck ops o σ'->Pre k h'->
  BS E o σ' ds h' λσ'' ds'' h''=>ds''=ds/\St R Pre Φ cl k h' h''/\∃v,σ''=putS σ' o.dst v/\GK Φ k σ'' v h''/\(o.dst=none->v=undef)
def Jm(R:V->V->Prop)(Pre:Nat->V->Prop)(E:F8 P)(ops:List Oper)(n:Nat)(Φ:List IG)(O:Nat->aU)(ds:List Deferred)(h:V)(Q:Post):Nat->Nat->List Oper->List (List Nat)->Prop
 | 0,k,rest,_=>∀σ' h',R h h'->(∀t,(DA ops n).contains t=false->σ' t=O t)->G8 ops Φ σ' h' (List.range k)->DI E ops.toArray rest σ' ds h' Q
 | m+1,k,o ::rest,cl ::cls=>Yf R Pre E ops n Φ O ds h k o cl/\Jm R Pre E ops n Φ O ds h Q m (k+1) rest cls
 | _,_,_,_=>False
theorem Jm.at{R:V->V->Prop}{Pre:Nat->V->Prop}{ops:List Oper}{n:Nat}{Φ:List IG}{O:Nat->aU}{ds:List Deferred}{h:V}{Q:Post}:∀(m k:Nat)(rest:List Oper)(cls:List (List Nat)),
  Jm R Pre E ops n Φ O ds h Q m k rest cls->(∀i o,i<m->rest[i]? =some o->Yf R Pre E ops n Φ O ds h (k+i) o (cls.getD i []))/\
   (∀σ' h',R h h'->(∀t,(DA ops n).contains t=false->σ' t=O t)->G8 ops Φ σ' h' (List.range (k+m))->DI E ops.toArray (rest.drop m) σ' ds h' Q)
 | 0,k,rest,cls,x=>⟨λi o d=>Y,x⟩
 | m+1,k,[],cls,x=>by cases cls <;> exact x.elim
 | m+1,k,o ::rest,[],x=>x.elim
 | m+1,k,o ::rest,q ::cls,x=>by
  obtain ⟨e,f⟩:=x;obtain ⟨a,b⟩:=Jm.at m (k+1) rest cls f;refine ⟨λi g d c=>?_,λσ' h' j l p=>?_⟩
  ·cases i with
   | zero=>simp at c;subst c;exact e
   | succ i=>have:=a i g Y (by simpa using c);rw [show k+(i+1)=k+1+i by omega];simpa using this
  ·rw [List.drop_succ_cons];exact b σ' h' j l (by rw [show k+1+m=k+(m+1) by omega];exact p)
structure Ue(R:V->V->Prop)(Pre:Nat->V->Prop)(l:List Oper)(n:Nat)(cls:List (List Nat))(Φ:List IG)(O:Nat->aU)(h:V)(D:Nat->Bool)(σ':Nat->aU)(h':V):Prop where
 le:R h h'
 base:∀t,(DA l n).contains t=false->σ' t=O t
 lt:∀j,D j=true->j<n
 done:∀j,D j=true->O1 l Φ σ' h' j
 clos:∀j,D j=true->∀i ∈ cls.getD j [],D i=true
 grd:∀j o,D j=true->l[j]? =some o->∀g w,o.guard=some (g,w)->D g=true
 pend:∀j,j<n->D j=false->Pre j h'
theorem tr_draw2(R:V->V->Prop){id:Nat}{l:List Oper}{O:Nat->aU}{ds:List Deferred}{h:V}{Q:Post}(n:Nat)(cls:List (List Nat))(Φ:List IG)(Pre:Nat->V->Prop)
  (hm:P.follows .mixedOrders=true) (ok:Ez E.N l n cls=true) (rr:∀h,R h h) (rt:∀a b c,R a b->R b c->R a c) (p0:∀k,k<n->Pre k h) (ind:TH l n cls Φ)
  (x:Jm R Pre E l n Φ O ds h Q n 0 l cls):Tr E (.region id l.toArray true) O ds h Q:=by
 obtain ⟨steps,fin⟩:=Jm.at n 0 l cls x;simp only [Nat.zero_add] at steps fin;have X:=ok;unfold Ez at X;simp only [Bool.and_eq_true] at X;have nd:(DA l n).Nodup:=of_decide_eq_true X.1.2;refine UI n cls (Ue R Pre l n cls Φ O h) hm ok ⟨rr h,λ_ _=>rfl,λ_ q=>(by cases q),λ_ q=>(by cases q),λ_ q=>(by cases q),λ_ _ q=>(by cases q),λj T _=>p0 j T⟩ (λD σ' h' i o p t B ho hcl hgl=>?_) λD σ' h' p hall=>fin σ' h' p.le p.base (G8.get λj T=>p.done j (hall j (List.mem_range.1 T)));have s:∀j,Gb D i j=if i=j then true else D j:=λ_=>rfl
 have next:∀(σ2:Nat->aU) (h2:V) (v:aU),σ2=putS σ' o.dst v->St R Pre Φ (cls.getD i []) i h' h2->(Ck l o σ2->GK Φ i σ2 v h2)->(o.dst=none->v=undef)->Ue R Pre l n cls Φ O h (Gb D i) σ2 h2:=by
  rintro σ2 h2 v rfl C F hun;have hkeep:∀j A e,j<n->j≠i->l[j]? =some A->A.dst=some e->putS σ' o.dst v e=σ' e:=λj A e T hji r he=>by
   cases H:o.dst with
   | none=>rfl
   | some d=>exact upd_ne σ' v (K3 (Dm nd t T (λx=>hji x.symm) ho r H he))
  refine ⟨rt _ _ _ p.le C.1,λu hu=>?_,λj f=>?_,λj f=>?_,λj f q hq'=>?_,λj A f r g w W=>?_,λj T f=>?_⟩
  ·rw [<-p.base u hu];cases H:o.dst with
   | none=>rfl
   | some d=>exact upd_ne σ' v (K3 λe=>by rw [e,Oc t ho H] at hu;cases hu)
  ·rw [s] at f;by_cases m:i=j
   ·exact m▸t
   ·rw [aS m] at f;exact p.lt j f
  ·rw [s] at f;by_cases m:i=j
   ·subst m;unfold O1;rw [ho];intro W
    have:IP o (putS σ' o.dst v)=v:=by
     cases H:o.dst with
     | none=>rw [hun H];simp [IP,H]
     | some d=>simp [IP,H,putS,upd]
    rw [this];exact F W
   ·rw [aS m] at f;have K:=p.done j f;unfold O1 at K ⊢;cases r:l[j]? with
    | none=>trivial
    | some A=>
     rw [r] at K;simp only at K ⊢;intro W;have hg':Ck l A σ':=W.congr λg w og dg U hog hdg=>by
      have S:=p.grd j A f r g w U;exact hkeep g og dg (p.lt g S) (λe=>by rw [e,B] at S;cases S) hog hdg
     have hji:i ∉ cls.getD j []:=λq=>by rw [p.clos j f i q] at B;cases B
     have:=C.2.1 j (λe=>m e.symm) _ _ (K hg')
     have hsv:IP A (putS σ' o.dst v)=IP A σ':=by
      unfold IP;cases hdj:A.dst with
      | none=>rfl
      | some e=>exact hkeep j A e (p.lt j f) (λx=>m x.symm) r hdj
     rw [hsv];cases H:o.dst with
     | none=>exact this
     | some d=>exact ind j i o d (p.lt j f) t m hji ho H σ' v _ h2 this
  ·rw [s] at f ⊢;split
   ·rfl
   ·rename_i hn
    by_cases m:i=j
    ·subst m;exact hcl q hq'
    ·rw [aS m] at f;exact p.clos j f q hq'
  ·rw [s] at f ⊢;split
   ·rfl
   ·by_cases m:i=j
    ·subst m;rw [ho] at r;cases r;exact hgl g w W
    ·rw [aS m] at f;exact p.grd j A f r g w W
  ·rw [s] at f;by_cases m:i=j
   ·rw [aT m] at f;cases f
   ·rw [aS m] at f;exact C.2.2 j (λe=>m e.symm) (λq=>by rw [hcl j q] at f;cases f) (p.pend j T f)
 refine ⟨λhG=>?_,λhnG=>?_⟩
 ·exact BS.mono (steps i o t ho σ' h' p.le p.base (G8.get λj T=>p.done j (hcl j T)) hG (p.pend i t B)) λσ2 ds2 h2 y=>⟨y.1,by
   obtain ⟨_,C,v,hσ,F,hun⟩:=y;exact next σ2 h2 v hσ C (λ_=>F) hun⟩
 ·refine next _ _ undef rfl ⟨rr _,λ_ _ _ _ z=>z,λ_ _ _ z=>z⟩ (λW=>?_) λ_=>rfl;refine absurd (W.congr λg w og dg U hog hdg=>?_) hnG;cases H:o.dst with
  | none=>rfl
  | some d=>
   have hgi:g≠i:=λe=>by have:=hgl g w U;rw [e,B] at this;cases this
   exact upd_ne σ' undef (K3 (Dm nd t (p.lt g (hgl g w U)) (λx=>hgi x.symm) ho hog H hdg))
def EC(S:Nat->Prop)(h h':V):Prop:=BH S h h'/\∀b,(∃o,h b=some o)->∃o,h' b=some o
theorem EC.refl(S:Nat->Prop)(h:V):EC S h h:=⟨BH.refl _ _,λ_ x=>x⟩
theorem EC.trans{S:Nat->Prop}{a b c:V}(x:EC S a b)(y:EC S b c):EC S a c:=⟨x.1.trans (λ_ q=>.inl q) y.1,λr q=>y.2 r (x.2 r q)⟩
theorem V.Le.keepD{h h':V}(l:h.Le h')(S:Nat->Prop):EC S h h':=⟨l.keepX S,λ_ ⟨o,a⟩=>let ⟨o',h1,_⟩:=l _ o.1 o.2 a;⟨_,h1⟩⟩
theorem EC.nothing{S:Nat->Prop}{h h':V}(k:EC S h h'){r:Nat}(hr:h' r=none):h r=none:=by
 cases a:h r with
 | none=>rfl
 | some x=>obtain ⟨o,b⟩:=k.2 r ⟨x,a⟩;rw [b] at hr;cases hr
theorem EC.grown{U:Type}{S:Nat->Prop}{h0 h h':V}{v v':aU}{t:aV}{n:Nat}{enc:U->Array aU}{xs:List U}(g:HT h h' v v')(hv:∀b,back v=some b->S b)(o:AV h0 h' v' t n enc xs):EC S h h':=
 ⟨λb p o c d=>⟨o,g.1 b _ c λe=>d (hv b e),.inl rfl⟩,λb ⟨x,a⟩=>by
  rcases g.2 with q | ⟨_,q⟩
  ·by_cases e:back v=some b
   ·exact o.inDom b (q.trans e)
   ·exact ⟨_,g.1 b x a e⟩
  ·exact ⟨_,q b x a⟩⟩
theorem AV.baseD{U:Type}{S:Nat->Prop}{h0 h00 h:V}{v:aU}{t:aV}{n:Nat}{enc:U->Array aU}{xs:List U}(x:AV h0 h v t n enc xs)(k:EC S h00 h0):AV h00 h v t n enc xs:=by
 rcases x with x | ⟨b,a,c,d,e,f,g⟩
 ·exact .inl x
 ·exact .inr ⟨b,a,c,d,k.nothing e,f,g⟩
def D9(R:V->V->Prop):List IG->Prop
 | []=>True
 | φ ::l=>(∀O v h h',R h h'->φ O v h->φ O v h')/\D9 R l
theorem D9.mono{R:V->V->Prop}:∀{Φ:List IG},D9 R Φ->∀k O v h h',R h h'->GK Φ k O v h->GK Φ k O v h'
 | [],_,k,O,v,h,h',_,x=>by cases k <;> exact x
 | φ ::l,a,0,O,v,h,h',r,x=>a.1 O v h h' r x
 | φ ::l,a,k+1,O,v,h,h',r,x=>D9.mono a.2 k O v h h' r x
theorem ZK{S:Nat->Prop}{id:Nat}{l:List Oper}{O:Nat->aU}{ds:List Deferred}{h:V}{Q:Post}(n:Nat)(cls:List (List Nat))(Φ:List IG)(Pre:Nat->V->Prop)
  (hm:P.follows .mixedOrders=true) (ok:Ez E.N l n cls=true) (p0:∀k,k<n->Pre k h) (ind:TH l n cls Φ) (x:Jm (EC S) Pre E l n Φ O ds h Q n 0 l cls):Tr E (.region id l.toArray true) O ds h Q:=
 tr_draw2 (EC S) n cls Φ Pre hm ok (λh=>EC.refl S h) (λ_ _ _ x y=>x.trans y) p0 ind x
section
variable {Pre:Nat->V->Prop} {Φ:List IG} {S:Nat->Prop} {k:Nat} {cl:List Nat} {h h':V}
theorem St.same:St (EC S) Pre Φ cl k h h:=⟨EC.refl _ _,λ_ _ _ _ z=>z,λ_ _ _ z=>z⟩
theorem St.ofLe(l:h.Le h')(m:D9 V.Le Φ)(pm:∀k h h',V.Le h h'->Pre k h->Pre k h'):St (EC S) Pre Φ cl k h h':=⟨l.keepD S,λj _ O v z=>m.mono j O v h h' l z,λj _ _ z=>pm j h h' l z⟩
end
def Rk(h0:V)(w v:aU):Prop:=back v=back w\/∃r,back v=some r/\h0 r=none
theorem Ba.fromB{h0:V}{w v:aU}(f:Rk h0 w v){r:Nat}{o:Bool×Obj}(hr:h0 r=some o)(x:Ba w r):Ba v r:=λe=>by
 rcases f with q | ⟨b,a,c⟩
 ·exact x (q▸e)
 ·rw [a] at e;cases e;rw [c] at hr;cases hr
theorem Rk.grown{h0 hk h':V}{S:Nat->Prop}{w v:aU}(g:HT hk h' w v)(k:EC S h0 hk):Rk h0 w v:=by
 rcases g.2 with q | ⟨⟨r,a,b⟩,_⟩
 ·exact .inl q
 ·exact .inr ⟨r,a,k.nothing b⟩
theorem AV.apartTy{U β:Type}{h0 h1 h:V}{v w:aU}{t t':aV}{n n':Nat}{enc:U->Array aU}{enc':β->Array aU}{xs:List U}{ys:List β}(x:AV h0 h v t n enc xs)(y:AV h1 h w t' n' enc' ys)(ne:t≠t'):Apart v w:=λb e a=>by
 rcases x with ⟨rfl,_⟩ | ⟨f,_,g,rfl,_,d,_⟩
 ·cases e
 ·rcases y with ⟨rfl,_⟩ | ⟨i,_,j,rfl,_,c,_⟩
  ·cases a
  ·simp only [back,Option.some.injEq] at e a;subst e;subst a;rw [d] at c;simp only [Option.some.injEq,Prod.mk.injEq,Obj.cells.injEq] at c;exact ne c.2.2.1
theorem AV.apartNew{U β:Type}{h1 h h2:V}{v w:aU}{t t':aV}{n n':Nat}{enc:U->Array aU}{enc':β->Array aU}{xs:List U}{ys:List β}(x:AV h1 h2 w t n enc xs)(y:AV h2 h v t' n' enc' ys):Apart w v:=λb e c=>by
 obtain ⟨o,a⟩:=x.inDom b e;rw [y.fresh b c] at a;cases a
theorem BH.leBase{S:Nat->Prop}{hb h h':V}(k:BH S h h')(l:hb.Le h)(hS:∀b,S b->hb b=none):hb.Le h':=λb p o a=>by
 obtain ⟨c,d,h2⟩:=l b p o a;obtain ⟨e,f,h4⟩:=k b p c d λq=>by rw [hS b q] at a;cases a
 refine ⟨e,f,?_⟩;rcases h2 with rfl | h2
 ·exact h4
 ·rcases h4 with rfl | h4
  ·exact .inr h2
  ·exact .inr ⟨h2.1,h4.2⟩
theorem AV.keepD{U:Type}{S:Nat->Prop}{h0 h h':V}{v:aU}{t:aV}{n:Nat}{enc:U->Array aU}{xs:List U}(x:AV h0 h v t n enc xs)(k:EC S h h')(hS:∀b,back v=some b->¬S b):AV h0 h' v t n enc xs:=by
 rcases x with x | ⟨b,a,c,rfl,d,e,f⟩
 ·exact .inl x
 ·exact .inr ⟨b,a,c,rfl,d,k.1.box e (hS b rfl) rfl,f⟩
end
end Go.Ns
namespace Go.Ns
open Go.Conc
section
variable {P:Program} {E:F8 P} {O:Nat->aU} {ds:List Deferred} {h:V} {T:(Nat->aU)->List Deferred->V->Prop}
variable {dst:Option Nat} {ty:aV} {pos:String} {af:Array Edge} {gd:Option (Nat×Bool)}
def WQ:aU->Bool
 | .slice none _ _=>true
 | _=>false
theorem ZL{xt yt:aV}{x y:Operand}{a:Option Addr}{l c:Nat}(ht:IO P xt=true)(hx:AL O x=.slice a l c)(hy:AL O y=.slice none 0 0)(k:T (putS O dst (.bool (WQ (.slice a l c)))) ds h) :
  BS E ⟨dst,.binOp .eql xt x y yt,ty,pos,af,gd⟩ O ds h T:=by
 unfold BS execOp;simp only [hx,hy];refine FE (AG _ _ ?_);show Sem.gh P (do pure (Value.bool (<-Op.equal xt (.slice a l c) (.slice none 0 0))):Sem aU) h _;refine AG _ _ ?_;unfold Op.equal Op.maxDepth;show (Op.equalIn (9999+1) xt (.slice a l c) (.slice none 0 0)).gh P h _;unfold Op.equalIn;unfold IO at ht;cases b:P.underlying xt with
 | none=>rw [b] at ht;cases ht
 | some d=>
  rw [b] at ht;refine AG _ _ (Ak b ?_);cases d <;> first | (cases ht;done) | skip
  cases a with
  | none=>exact k
  | some a=>exact k
theorem O2{U:Type}{xt yt:aV}{x y:Operand}{v:aU}{n:Nat}{enc:U->Array aU}{xs:List U}(ht:IO P xt=true)(s:AD h v n enc xs)(hx:AL O x=v)(hy:AL O y=.slice none 0 0)(k:T (putS O dst (.bool (WQ v))) ds h) :
  BS E ⟨dst,.binOp .eql xt x y yt,ty,pos,af,gd⟩ O ds h T:=by
 obtain ⟨a,b,rfl,_⟩:=s;exact ZL ht hx hy k
theorem O3{U:Type}{v:aU}{n:Nat}{enc:U->Array aU}{xs:List U}(s:AD h v n enc xs)(e:WQ v=true):xs=[]:=by
 obtain ⟨a,c,rfl,_,_,q⟩:=s;cases a with
 | some a=>cases e
 | none=>
  cases xs with
  | nil=>rfl
  | cons x xs=>obtain ⟨b,d,f,_⟩:=q 0 aD;cases f
theorem WR{a:Int}{k:Nat}(h:k<=63):a.fdiv (2 ^ (min ((k:Int)).toNat IntKind.i64.bits))=a.fdiv (2 ^ k):=by
 have:min ((k:Int)).toNat IntKind.i64.bits=k:=by
  show min ((k:Int)).toNat 64=k;omega
 rw [this]
theorem WS{k:Nat}(h:k<=60):IntKind.i64.wrap (1*2 ^ (min ((k:Int)).toNat IntKind.i64.bits))=2 ^ k:=by
 have:min ((k:Int)).toNat IntKind.i64.bits=k:=by
  show min ((k:Int)).toNat 64=k;omega
 rw [this,Int.one_mul];have a:(2:Int) ^ k<=2 ^ 60:=by
  have:=Nat.pow_le_pow_right (show 0<2 by decide) h
  exact_mod_cast this
 have b:(0:Int)<=2 ^ k:=by
  have:=Nat.zero_le (2 ^ k)
  exact_mod_cast this
 exact IntWalk.i64_in _ Y
end
theorem I7{a:Int}(h:0<=a/\a<=65535)(k:Nat):0<=a.fdiv (2 ^ k)/\a.fdiv (2 ^ k)<=65535:=by
 have b:(0:Int)<2 ^ k:=by
  have:=Nat.pow_pos (n:=k) (show 0<2 by decide)
  exact_mod_cast this
 rw [Int.fdiv_eq_ediv_of_nonneg _ (Int.le_of_lt b)];refine ⟨Int.ediv_nonneg h.1 (Int.le_of_lt b),Int.le_trans (Int.ediv_le_self _ h.1) h.2⟩
def HY(mask:Int)(k:Nat):Bool:=decide (mask.fdiv (2 ^ k)%2=1)
def Ci(cs:List AP)(mask:Int)(k:Nat):List AP:=((List.range k).filter (HY mask)).map λ(i:Nat)=>cs.getD i AP.z
def BL(mask:Int)(k:Nat):List Int:=((List.range k).filter (HY mask)).map λ(i:Nat)=>(i:Int)
theorem Jn{p:Nat->Bool}{k:Nat}(h:p k=true):(List.range (k+1)).filter p=(List.range k).filter p++[k]:=by
 rw [List.range_succ,List.filter_append];simp [h]
theorem Jo{p:Nat->Bool}{k:Nat}(h:p k=false):(List.range (k+1)).filter p=(List.range k).filter p:=by
 rw [List.range_succ,List.filter_append];simp [h]
theorem pickC_t{cs:List AP}{mask:Int}{k:Nat}(h:mask.fdiv (2 ^ k)%2=1):Ci cs mask (k+1)=Ci cs mask k++[cs.getD k AP.z]:=by
 unfold Ci;rw [Jn (by unfold HY;rw [decide_eq_true h]),List.map_append];rfl
theorem pickC_f{cs:List AP}{mask:Int}{k:Nat}(h:¬mask.fdiv (2 ^ k)%2=1):Ci cs mask (k+1)=Ci cs mask k:=by
 unfold Ci;rw [Jo (by unfold HY;rw [decide_eq_false h])]
theorem Yg{mask:Int}{k:Nat}(h:mask.fdiv (2 ^ k)%2=1):BL mask (k+1)=BL mask k++[(k:Int)]:=by
 unfold BL;rw [Jn (by unfold HY;rw [decide_eq_true h]),List.map_append];rfl
theorem Yh{mask:Int}{k:Nat}(h:¬mask.fdiv (2 ^ k)%2=1):BL mask (k+1)=BL mask k:=by
 unfold BL;rw [Jo (by unfold HY;rw [decide_eq_false h])]
theorem Rn(cs:List AP)(mask:Int)(k:Nat):(Ci cs mask k).length<=k:=by
 unfold Ci;rw [List.length_map]
 have:=List.length_filter_le (HY mask) (List.range k)
 rwa [List.length_range] at this
theorem Ro(mask:Int)(k:Nat):(BL mask k).length<=k:=by
 unfold BL;rw [List.length_map]
 have:=List.length_filter_le (HY mask) (List.range k)
 rwa [List.length_range] at this
def TJ(a b:Int):Int:=if a<b then-1 else if b<a then 1 else 0
def KJ(a b:List Int):Nat->Nat->Int
 | 0,_=>if (a.length:Int)<b.length then-1 else 0
 | f+1,k=>if (b.length:Int)<=k then 1 else if¬TJ (a.getD k 0) (b.getD k 0)=0 then TJ (a.getD k 0) (b.getD k 0) else KJ a b f (k+1)
def TK(a b:List Int):Int:=KJ a b a.length 0
theorem NY{a b:List Int}{k:Nat}(hk:¬(k:Int)<a.length):KJ a b (a.length-k) k=if (a.length:Int)<b.length then-1 else 0:=by
 rw [show a.length-k=0 by omega];rfl
theorem LD{a b:List Int}{k:Nat}(hk:k<a.length):KJ a b (a.length-k) k=if (b.length:Int)<=k then 1 else if¬TJ (a.getD k 0) (b.getD k 0)=0 then TJ (a.getD k 0) (b.getD k 0) else KJ a b (a.length-(k+1)) (k+1):=by
 rw [show a.length-k=(a.length-(k+1))+1 by omega];rfl
def WT(a b:List Int):Bool:=decide ((a.length:Int)<b.length) || (decide ((a.length:Int)=b.length) && decide (TK a b<0))
abbrev Sl:=aU×List Int
def Sl.z:Sl:=(.slice none 0 0,[])
def O4(x:Sl):Array aU:=#[x.1]
def B9(h:V)(l:List Sl):Prop:=∀k,AD h (l.getD k Sl.z).1 1 eI (l.getD k Sl.z).2
theorem B9.le{h h':V}{l:List Sl}(x:B9 h l)(e:h.Le h'):B9 h' l:=λk=>(x k).le e
theorem B9.nil(h:V):B9 h []:=λk=>by
 rw [DN aD];exact AD.nil _ _ _
theorem B9.snoc{h:V}{l:List Sl}{x:Sl}(a:B9 h l)(b:AD h x.1 1 eI x.2):B9 h (l++[x]):=λk=>by
 rcases Nat.lt_trichotomy k l.length with q | q | q
 ·have e:(l++[x]).getD k Sl.z=l.getD k Sl.z:=by simp [List.getD_eq_getElem?_getD,List.getElem?_append_left q]
  rw [e];exact a k
 ·have e:(l++[x]).getD k Sl.z=x:=by subst q;simp [List.getD_eq_getElem?_getD]
  rw [e];exact b
 ·rw [DN (by simp;omega)];exact AD.nil _ _ _
def L3(x c:List Int):List Int:=if WT x c then x else c
def JW(c:List Int)(l:List (List Int)):List Int:=l.foldl (λc x=>L3 x c) c
def CH(l:List Sl):List (List Int):=l.map (·.2)
theorem FV{l:List Sl}{k:Nat}(hk:k<l.length):(CH l).getD k []=(l.getD k Sl.z).2:=by
 unfold CH;rw [EN [] (by simpa using hk),EN Sl.z hk];simp
theorem O5{c:List Int}{l:List Sl}{k:Nat}(hk:k<l.length):JW c ((CH l).take (k+1))=L3 (l.getD k Sl.z).2 (JW c ((CH l).take k)):=by
 rw [DD [] (by simpa [CH] using hk),FV hk];unfold JW;rw [List.foldl_append];rfl
def DY(d:Int)(gs:List Good)(ms:List AI)(cs:List AP)(mo:Int):Bool:= !(AY d gs ms cs mo).isEmpty
theorem someB_t{d:Int}{gs:List Good}{ms:List AI}{cs:List AP}{mo:Int}(h:AY d gs ms cs mo≠[]):DY d gs ms cs mo=true:=by
 unfold DY;cases a:AY d gs ms cs mo with
 | nil=>exact absurd a h
 | cons _ _=>rfl
theorem someB_f{d:Int}{gs:List Good}{ms:List AI}{cs:List AP}{mo:Int}(h:AY d gs ms cs mo=[]):DY d gs ms cs mo=false:=by
 unfold DY;rw [h];rfl
def JFlag{U:Type}(hB:V)(r:Nat)(T:aV)(pre:List U)(aM:Nat->Prop)(h:V):Prop:=pre=[]/\h r=some (true,.cells #[.bool false] T (0,0))/\hB r=none/\∀b,aM b↔b=r
def SFlag{U:Type}(r:Nat)(T:aV)(all:List U)(c:Code)(h:V):Prop:=c=.ret/\h r=some (true,.cells #[.bool true] T (0,0))/\all≠[]
theorem O6{U:Type}(hB:V)(r:Nat)(T:aV):F9 hB (JFlag (U:=U) hB r T):=by
 refine ⟨?_,?_⟩
 ·rintro c f h b ⟨_,d,_,a⟩ e;rw [a] at e;subst e;exact ⟨_,_,d,rfl⟩
 ·rintro c f h j ⟨g,d,i,a⟩ same _;exact ⟨g,(same r ((a r).2 rfl)).trans d,i,a⟩
theorem Uf{U:Type}{hB h:V}{r:Nat}{T:aV}(nr:hB r=none)(x:h r=some (true,.cells #[.bool false] T (0,0))):JFlag (U:=U) hB r T [] (λb=>b=r) h:=⟨rfl,x,nr,λ_=>Iff.rfl⟩
theorem TL{U:Type}{r:Nat}{T:aV}{all:List U}:∀c (h h':V) l lo,SFlag r T all c h->h l=some (true,.loop lo)->(∀b,b≠l->h' b=h b)->SFlag r T all c h':=by
 rintro c h h' l lo ⟨f,a,g⟩ d i;exact ⟨f,(i _ λe=>by subst e;rw [a] at d;cases d).trans a,g⟩
end Go.Ns
namespace Go.Ns
open Go.Conc
abbrev Key:=Int×Int×Int
def Ke(a:Key):aU:=.agg #[.int .i64 a.1,.int .i64 a.2.1,.int .i64 a.2.2]
def EQ(n:Int):aU:=.int .i64 n
def Al(ms:List AI)(pasts:List AZ)(r:Nat)(h:V):Prop:=
 ∃aP:Key->Option Int,El h r Ke EQ aP/\∀a v,aP a=some v->v=(AX ms (pasts.getD a.1.toNat AZ.zero) a.2.1 a.2.2).1
theorem Al.same{ms:List AI}{pasts:List AZ}{r:Nat}{h h':V}(x:Al ms pasts r h)(e:h' r=h r):Al ms pasts r h':=by
 obtain ⟨a,b,c⟩:=x;exact ⟨a,b.le_other e,c⟩
theorem Al.known{ms:List AI}{pasts:List AZ}{r:Nat}{h:V}(x:Al ms pasts r h):∃o,h r=some (true,o):=by
 obtain ⟨c,⟨d,a,b,_⟩,_⟩:=x;exact ⟨_,b⟩
structure CP(hB:V)(ms:List AI)(pasts:List AZ)(r:Nat)(h hc:V):Prop where
 ok:Al ms pasts r hc
 keep:BH (λb=>b=r) h hc
 base:hB.Le hc
def JZ(hB:V)(ms:List AI)(pasts:List AZ)(r:Nat)(h h':V):Prop:=Al ms pasts r h'/\BH (λb=>b=r) h h'/\hB.Le h'
section
variable {hB h hc h':V} {ms:List AI} {pasts:List AZ} {r:Nat}
theorem CP.start(x:Al ms pasts r h)(l:hB.Le h):CP hB ms pasts r h h:=⟨x,BH.refl _ _,l⟩
theorem CP.le(y:CP hB ms pasts r h hc)(l:hc.Le h'):CP hB ms pasts r h h':=by
 obtain ⟨o,a⟩:=y.ok.known;exact ⟨y.ok.same ((l.keep a rfl).trans a.symm),y.keep.trans (λ_ q=>.inl q) (l.keepX _),y.base.trans l⟩
theorem CP.store(y:CP hB ms pasts r h hc){q:Nat}(hq:h q=none)(qB:hB q=none)(hn:q≠r)(ho:∀b,b≠q->h' b=hc b):CP hB ms pasts r h h':=
 ⟨y.ok.same (ho r (Ne.symm hn)),y.keep.store hq ho,y.base.upd qB ho⟩
theorem CP.app{v v':aU}(y:CP hB ms pasts r h hc)(g:HT hc h' v v')(f:Ba v r)(hv:∀b,back v=some b->h b=none)(hvB:∀b,back v=some b->hB b=none):CP hB ms pasts r h h':=by
 obtain ⟨o,c⟩:=y.ok.known;refine ⟨y.ok.same ((g.1 r _ c f).trans c.symm),λb p o a d=>?_,V.Le.grown g y.base hvB⟩;obtain ⟨i,j,k⟩:=y.keep b p o a d;exact ⟨i,g.1 b _ j (λe=>by rw [hv b e] at a;cases a),k⟩
theorem CP.call(y:CP hB ms pasts r h hc)(m:JZ hB ms pasts r hc h'):CP hB ms pasts r h h':=⟨m.1,y.keep.trans (λ_ q=>.inl q) m.2.1,m.2.2⟩
theorem CP.ne(y:CP hB ms pasts r h hc){q:Nat}(hq:hc q=none):q≠r:=λe=>by
 obtain ⟨o,a⟩:=y.ok.known;rw [e,a] at hq;cases hq
theorem CP.res(y:CP hB ms pasts r h hc):JZ hB ms pasts r h hc:=⟨y.ok,y.keep,y.base⟩
end
theorem Key.eq_iff(a b:Key):(a.1==b.1 && (a.2.1==b.2.1 && (a.2.2==b.2.2 && true)))=decide (a=b):=by
 obtain ⟨c,d,e⟩:=a;obtain ⟨f,g,h⟩:=b;simp only [Bool.and_true,Prod.mk.injEq];by_cases i:c=f <;> by_cases j:d=g <;> by_cases k:e=h <;> simp [i,j,k]
section
variable {P:Program} {E:F8 P} {O:Nat->aU} {ds:List Deferred} {h:V} {T:(Nat->aU)->List Deferred->V->Prop}
variable {dst:Option Nat} {ty:aV} {pos:String} {af:Array Edge} {gd:Option (Nat×Bool)}
theorem TM{t kt vt:aV}{x ix:Operand}{r d:Nat}{ms:List AI}{pasts:List AZ}{i g dy:Int}(ht:IQ P t=some (kt,vt))(hx:AL O x=.map (some r))(hk:AL O ix=.agg #[.int .i64 i,.int .i64 g,.int .i64 dy])(hm:Al ms pasts r h)(hd:Nat.ble (d+1) 10000=true)
  (hc:∀a,WI P (d+1) kt (Ke a)=true) (he:∀a b,Mm P (d+1) kt (Ke a) (Ke b)=some (a.1==b.1 && (a.2.1==b.2.1 && (a.2.2==b.2.2 && true)))) (hz:(P.info? vt).bind (·.zero)=some (.int .i64 0))
  (k:∀(n:Int)(is:Bool),(is=true->n=(AX ms (pasts.getD i.toNat AZ.zero) g dy).1)->T (putS O dst (.tuple #[.int .i64 n,.bool is])) ds h):BS E ⟨dst,.lookup t x ix true,ty,pos,af,gd⟩ O ds h T:=by
 obtain ⟨c,f,j⟩:=hm;refine Mn (a:=(i,g,dy)) (z:=.int .i64 0) ht hx hk f hd (hc _) (λb=>by rw [he,Key.eq_iff]) hz ?_;cases l:c (i,g,dy) with
 | none=>exact k 0 false (by intro e;cases e)
 | some v=>exact k v true λ_=>j _ _ l
theorem Ug{t kt vt:aV}{om ok ox:Operand}{r d:Nat}{ms:List AI}{pasts:List AZ}{i g dy n:Int}(ht:IQ P t=some (kt,vt))(hm':AL O om=.map (some r))(hk:AL O ok=.agg #[.int .i64 i,.int .i64 g,.int .i64 dy])(hv:AL O ox=.int .i64 n)(hm:Al ms pasts r h)(hd:Nat.ble (d+1) 10000=true)
  (hc:∀a,WI P (d+1) kt (Ke a)=true) (he:∀a b,Mm P (d+1) kt (Ke a) (Ke b)=some (a.1==b.1 && (a.2.1==b.2.1 && (a.2.2==b.2.2 && true)))) (hs:∀a,Instr.sameBits 10000 (Ke a) (Ke a)=true) (hn:n=(AX ms (pasts.getD i.toNat AZ.zero) g dy).1)
  (k:∀h',Al ms pasts r h'->(∀b,b≠r->h' b=h b)->T (putS O dst undef) ds h'):BS E ⟨dst,.mapUpdate t om ok ox,ty,pos,af,gd⟩ O ds h T:=by
 obtain ⟨o,f,j⟩:=hm;refine Iv (a:=(i,g,dy)) (v:=n) (ek:=Ke) (ev:=EQ) ht hm' hk hv f hd (hc _) (λb=>by rw [he,Key.eq_iff]) (hs _) λh' l m=>k h' ⟨_,l,λa v c=>?_⟩ m;by_cases e:a=(i,g,dy)
 ·subst e;rw [aT rfl] at c;cases c;exact hn
 ·rw [aS e] at c;exact j a v c
end
section
variable {hB h hc h':V} {ms:List AI} {pasts:List AZ} {r:Nat}
theorem CP.nothing(y:CP hB ms pasts r h hc){q:Nat}(hq:hc q=none):h q=none:=by
 cases a:h q with
 | none=>rfl
 | some x=>
  obtain ⟨c,b,_⟩:=y.keep q x.1 x.2 a (y.ne hq);rw [b] at hq;cases hq
theorem Al.le(x:Al ms pasts r h)(l:h.Le h'):Al ms pasts r h':=by
 obtain ⟨o,a⟩:=x.known;exact x.same ((l.keep a rfl).trans a.symm)
theorem Al.empty(x:h r=some (true,.map #[] 0)):Al ms pasts r h:=⟨λ_=>none,El.empty x,λa v e=>by cases e⟩
theorem Al.neCells{b:Nat}{p:Bool}{c:Array aU}{t:aV}{z:Nat×Nat}(x:Al ms pasts r h)(hb:h b=some (p,.cells c t z)):b≠r:=λe=>by
 obtain ⟨f,⟨g,a,d,_⟩,_⟩:=x;rw [e,d] at hb;cases hb
theorem AV.keepX{U:Type}{X:Nat->Prop}{h0:V}{v:aU}{t:aV}{n:Nat}{enc:U->Array aU}{xs:List U}(x:AV h0 h v t n enc xs)(k:BH X h h')(hS:∀b,back v=some b->¬X b):AV h0 h' v t n enc xs:=by
 rcases x with x | ⟨b,a,c,rfl,d,e,f⟩
 ·exact .inl x
 ·exact .inr ⟨b,a,c,rfl,d,k.box e (hS b rfl) rfl,f⟩
theorem AD.slDel{U:Type}{v:aU}{n:Nat}{enc:U->Array aU}{xs:List U}(x:AD h v n enc xs){p:Bool}{es:Array MapEntry}{clk:Nat}(hr:h r=some (p,.map es clk)):AD (h.del r) v n enc xs:=by
 obtain ⟨a,d,l,hc,m,o⟩:=x;refine ⟨a,d,l,hc,m,λi q=>?_⟩;obtain ⟨b,g,s,j⟩:=o i q;refine ⟨b,g,s,j.del λe=>?_⟩;obtain ⟨u,c,t,f,k,_⟩:=j;rw [e,hr] at k;cases k
theorem Al.slDel{U:Type}(k:Al ms pasts r h){v:aU}{n:Nat}{enc:U->Array aU}{xs:List U}(x:AD h v n enc xs):AD (h.del r) v n enc xs:=by
 obtain ⟨c,⟨d,a,b,_⟩,_⟩:=k;exact x.slDel b
end
section
variable {P:Program} {E:F8 P} {O:Nat->aU} {ds:List Deferred} {h:V}
end
theorem TN(a:Key):Instr.sameBits 10000 (Ke a) (Ke a)=true:=by
 have b:∀(n:Nat)(x:Int),Instr.sameBits n (.int .i64 x) (.int .i64 x)=true:=λn x=>by
  cases n <;> (unfold Instr.sameBits;simp)
 unfold Ke;show Instr.sameBits (9999+1) _ _=true;unfold Instr.sameBits;simp only [List.zip_cons_cons,List.zip_nil_left,List.all_cons,List.all_nil,b];simp
def At(d m:Int)(gs:List Good)(ms:List AI)(cs:List AP)(o:List Int):Int:=
 if¬Ah d m gs ms cs=0 then Ah d m gs ms cs else if¬EO (λk=>o.getD k 0) 0 o.length=0 then EO (λk=>o.getD k 0) 0 o.length else if (AY d gs ms cs m).length=0 then 9 else 0
section
variable {d m:Int} {gs:List Good} {ms:List AI} {cs:List AP} {o:List Int}
theorem O7(h:¬Ah d m gs ms cs=0):At d m gs ms cs o=Ah d m gs ms cs:=by unfold At;rw [aT h]
theorem O8(h:¬¬Ah d m gs ms cs=0){k:Nat}(hs:∀j,j<k->o.getD j 0=0)(hk:k<o.length)(h2:¬o.getD k 0=0):At d m gs ms cs o=o.getD k 0:=by
 unfold At;rw [aS h,CN (f:=λk=>o.getD k 0) hs hk rfl h2,aT h2]
theorem O9(h:¬¬Ah d m gs ms cs=0){k:Nat}(hs:∀j,j<k->o.getD j 0=0)(hk:o.length<=k)(h2:(AY d gs ms cs m).length=0):At d m gs ms cs o=9:=by
 unfold At;rw [aS h,Ds (f:=λk=>o.getD k 0) hs hk,aS aD,aT h2]
theorem WU(h:¬¬Ah d m gs ms cs=0){k:Nat}(hs:∀j,j<k->o.getD j 0=0)(hk:o.length<=k)(h2:¬(AY d gs ms cs m).length=0):At d m gs ms cs o=0:=by
 unfold At;rw [aS h,Ds (f:=λk=>o.getD k 0) hs hk,aS aD,aS h2]
theorem EJ(h:At d m gs ms cs o=0):CA d m gs ms cs/\(∀k,k<o.length->o.getD k 0=0)/\0<(AY d gs ms cs m).length:=by
 unfold At at h;split at h <;> first | (rename_i q;exact absurd h q) | skip
 split at h <;> first | (rename_i q;exact absurd h q) | skip
 split at h <;> first | (cases h;done) | skip
 rename_i a b c
 exact ⟨Jj (Decidable.not_not.1 a),λk e=>Fe (Decidable.not_not.1 b) k (Nat.zero_le _) Y,Y⟩
end
end Go.Ns
namespace Go.Ns
open Go.Conc Go.Sort
def Bg(rest:List aU)(d:Array Int):Array aU:=(d.toList.map (λx=>Value.int .i64 x)++rest).toArray
theorem BF(rest:List aU)(d:Array Int):(Bg rest d).size=d.size+rest.length:=by simp [Bg]
theorem An{rest:List aU}{d:Array Int}{i:Nat}(h:i<d.size):(Bg rest d)[0+i*1]? =some (.int .i64 d[i]!):=by
 have a:i<(d.toList.map (λx=>Value.int .i64 x)).length:=by simpa using h
 rw [Nat.zero_add,Nat.mul_one];unfold Bg;rw [List.getElem?_toArray,List.getElem?_append_left a,List.getElem?_map];simp [h,getElem!_pos]
theorem Bh{rest:List aU}{d:Array Int}{i:Nat}{v:Int}(h:i<d.size):BV (Bg rest d) (0+i*1) [.int .i64 v]=Bg rest (d.setIfInBounds i v):=by
 rw [Nat.zero_add,Nat.mul_one];show (Bg rest d).setIfInBounds i (.int .i64 v)=_;unfold Bg;apply Array.toList_inj.1;have a:i<(d.toList.map (λx=>Value.int .i64 x)).length:=by simpa using h
 rw [Array.toList_setIfInBounds];simp only [];rw [List.set_append_left _ _ a,Array.toList_setIfInBounds,List.map_set]
structure Aj(b:Nat)(h hc:V):Prop where
 keep:BH (λx=>x=b) h hc
 dom:∃o,hc b=some o
section
variable {b:Nat} {h hc h':V}
theorem Aj.start(x:∃o,h b=some o):Aj b h h:=⟨BH.refl _ _,x⟩
theorem Aj.le(y:Aj b h hc)(l:hc.Le h'):Aj b h h':=⟨y.keep.trans (λ_ q=>.inl q) (l.keepX _),l.someOf y.dom⟩
theorem Aj.put(y:Aj b h hc)(ho:∀x,x≠b->h' x=hc x)(x:∃o,h' b=some o):Aj b h h':=⟨y.keep.store' (.inl rfl) ho,x⟩
theorem Aj.ne(y:Aj b h hc){q:Nat}(hq:hc q=none):q≠b:=λe=>by
 obtain ⟨o,a⟩:=y.dom;rw [e,a] at hq;cases hq
theorem Aj.nothing(y:Aj b h hc){q:Nat}(hq:hc q=none):h q=none:=by
 cases a:h q with
 | none=>rfl
 | some x=>
  obtain ⟨d,c,_⟩:=y.keep q x.1 x.2 a (y.ne hq);rw [c] at hq;cases hq
theorem Aj.store(y:Aj b h hc){q:Nat}(hq:h q=none)(hn:q≠b)(ho:∀x,x≠q->h' x=hc x):Aj b h h':=⟨y.keep.store hq ho,by rw [ho b (Ne.symm hn)];exact y.dom⟩
theorem Aj.call(y:Aj b h hc)(k:BH (λx=>x=b) hc h')(x:∃o,h' b=some o):Aj b h h':=⟨y.keep.trans (λ_ q=>.inl q) k,x⟩
end
def Gf(d:Array Int)(off:Nat):Array Int:=(d.toList.take off++List.replicate (d.size-off) 0).toArray
theorem QZ(d:Array Int)(off:Nat):(Gf d off).size=d.size:=by simp [Gf];omega
theorem ZM{a j:Nat}{dd:Array Int}(h:(a:Int)<(j:Int)/\dd[j]! <dd[((j:Int)-1).toNat]!) :
  insInner ltInt a j dd=insInner ltInt a (j-1) ((dd.setIfInBounds j dd[((j:Int)-1).toNat]!).setIfInBounds ((j:Int)-1).toNat dd[j]!):=by
 obtain ⟨c,b⟩:=h;cases j with
 | zero=>omega
 | succ j=>
  have e:(((j+1:Nat):Int)-1).toNat=j:=Y
  rw [e] at b ⊢
  conv=>lhs;unfold insInner
  rw [aT (by unfold ltInt;simp;exact ⟨Y,b⟩)];rfl
theorem ins_stop{a j:Nat}{dd:Array Int}(h:¬((a:Int)<(j:Int)/\dd[j]! <dd[((j:Int)-1).toNat]!)):insInner ltInt a j dd=dd:=by
 cases j with
 | zero=>rfl
 | succ j=>
  have e:(((j+1:Nat):Int)-1).toNat=j:=Y
  rw [e] at h;unfold insInner;rw [aS (by unfold ltInt;simp;intro q;exact Int.not_lt.1 λr=>h ⟨Y,r⟩)]
theorem RA{a b i:Nat}{dd:Array Int}(h:i<b):insOuter ltInt a b i dd=insOuter ltInt a b (i+1) (insInner ltInt a i dd):=by
 conv=>lhs;unfold insOuter
 rw [aT h]
theorem TO{a b i:Nat}{dd:Array Int}(h:¬(i:Int)<b):insOuter ltInt a b i dd=dd:=by
 unfold insOuter;rw [aS Y]
def Jp(l:List Int):List Int:=(Go.Sort.sort ltInt l.toArray).toList
theorem Hx{a r:Int}{k:Nat}(h:k<=63)(e:a / 2 ^ k=r):a.fdiv (2 ^ (min ((k:Int)).toNat IntKind.u64.bits))=r:=by
 have:min ((k:Int)).toNat IntKind.u64.bits=k:=by
  show min ((k:Int)).toNat 64=k;omega
 have b:(0:Int)<=2 ^ k:=by
  have:=Nat.zero_le (2 ^ k)
  exact_mod_cast this
 rw [this,Int.fdiv_eq_ediv_of_nonneg _ b,e]
section
variable {P:Program} {E:F8 P} {O:Nat->aU} {ds:List Deferred} {h:V} {T:(Nat->aU)->List Deferred->V->Prop}
variable {dst:Option Nat} {ty:aV} {pos:String} {af:Array Edge} {gd:Option (Nat×Bool)}
end
theorem Yi(l:List Int):C7 eI l=l.map (λx=>Value.int .i64 x):=by
 induction l with
 | nil=>rfl
 | cons x l a=>show (eI x).toList++C7 eI l=_;rw [a];rfl
theorem AV.row{h0 h:V}{v:aU}{xs:List Int}(x:AV h0 h v 3 1 eI xs)(hne:xs≠[]) :
  ∃b cap rest,v=.slice (some ⟨b,0,none⟩) xs.toArray.size cap/\h b=some (true,.cells (Bg rest xs.toArray) 3 (0,0)):=by
 rcases x with ⟨_,e⟩ | ⟨b,cap,c,rfl,f,a,g,i,j,d,k⟩
 ·exact absurd e hne
 ·refine ⟨b,cap,c.toList.drop xs.length,aD,?_⟩;have e:c=Bg (c.toList.drop xs.length) xs.toArray:=by
   apply Array.toList_inj.1;unfold Bg;simp only [];rw [<-Yi,<-d,Nat.mul_one,List.take_append_drop]
  rw [<-e];exact a
theorem AV.ofRow{h0 h h':V}{b cap:Nat}{rest:List aU}{xs:List Int}{D:Array Int}(x:AV h0 h (.slice (some ⟨b,0,none⟩) xs.toArray.size cap) 3 1 eI xs)(hne:xs≠[])(hD:D.size=xs.length)(hb:h b=some (true,.cells (Bg rest xs.toArray) 3 (0,0)))(hb':h' b=some (true,.cells (Bg rest D) 3 (0,0))) :
  AV h0 h' (.slice (some ⟨b,0,none⟩) xs.toArray.size cap) 3 1 eI D.toList:=by
 rcases x with ⟨e,_⟩ | ⟨k,g,c,e,j,a,i,l,m,n,o⟩
 ·cases e
 ·simp only [Value.slice.injEq,Option.some.injEq,Addr.mk.injEq] at e;obtain ⟨⟨rfl,_⟩,_,rfl⟩:=e;rw [hb] at a;simp only [Option.some.injEq,Prod.mk.injEq,Obj.cells.injEq,true_and,and_true] at a;subst a;have d:D.toList.length=xs.length:=by rw [Array.length_toList];exact hD
  refine .inr ⟨b,cap,_,by rw [d];simp,j,hb',?_,Y,Y,?_,λy _=>rfl⟩
  ·rw [BF] at i ⊢;rw [hD];simpa using i
  ·unfold Bg;simp only [Nat.mul_one];rw [Yi,<-List.length_map (f:=λx=>Value.int .i64 x),List.take_append_of_le_length (Nat.le_refl _),List.take_length]
theorem BH.grownSame{h h':V}{b cap n:Nat}(k:BH (λx=>x=b) h h'):HT h h' (.slice (some ⟨b,0,none⟩) n cap) (.slice (some ⟨b,0,none⟩) n cap):=
 ⟨λr o a c=>(by
  obtain ⟨g,d,rfl | ⟨f,_⟩⟩:=k r o.1 o.2 a (λe=>c (by rw [e];rfl))
  ·exact d
  ·cases f),.inl rfl⟩
section
variable {P:Program} {E:F8 P} {O:Nat->aU} {ds:List Deferred} {h:V} {T:(Nat->aU)->List Deferred->V->Prop}
variable {dst:Option Nat} {ty:aV} {pos:String} {af:Array Edge} {gd:Option (Nat×Bool)}
theorem WV{t:aV}{x o:Operand}{b len cap hi:Nat}(ht:Dl P t=some 1)(hc:len<=cap)(hx:AL O x=.slice (some ⟨b,0,none⟩) len cap)(ho:∃kd,AL O o=.int kd hi)(h2:hi<=len)(k:T (putS O dst (.slice (some ⟨b,0,none⟩) hi cap)) ds h) :
  BS E ⟨dst,.slice t x none (some o) none,ty,pos,af,gd⟩ O ds h T:=by
 refine KD (olo:=none) (ohi:=some o) 0 hi ht hc hx rfl ho (Nat.zero_le _) h2 ?_;have e:(if cap=0 then (some ⟨b,0,none⟩:Option Addr) else (some ⟨b,0,none⟩:Option Addr).map (·.add (0*1)))=some ⟨b,0,none⟩:=by
  split
  ·rfl
  ·simp [IA]
 rw [e];exact k
theorem L5{t:aV}{x o:Operand}{b len cap lo:Nat}(ht:Dl P t=some 1)(hc:len<=cap)(hx:AL O x=.slice (some ⟨b,0,none⟩) len cap)(ho:∃kd,AL O o=.int kd lo)(h2:lo<len)(k:T (putS O dst (.slice (some ⟨b,lo,none⟩) (len-lo) (cap-lo))) ds h) :
  BS E ⟨dst,.slice t x (some o) none none,ty,pos,af,gd⟩ O ds h T:=by
 refine KD (olo:=some o) (ohi:=none) lo len ht hc hx ho rfl (Nat.le_of_lt h2) (Nat.le_refl _) ?_;have e:(if cap=lo then (some ⟨b,0,none⟩:Option Addr) else (some ⟨b,0,none⟩:Option Addr).map (·.add (lo*1)))=some ⟨b,lo,none⟩:=by
  rw [aS Y];simp [IA]
 rw [e];exact k
theorem Uh{t e:aV}{x:Operand}{b off len cap:Nat}{rest:List aU}{d:Array Int}{z:Nat}(ht:Dj P t=some (1,#[.int .i64 0],e))(hx:AL O x=.slice (some ⟨b,off,none⟩) len cap)(hb:h b=some (true,.cells (Bg rest d) z (0,0)))(hn:off+len=d.size)(hl:0<len)
  (k:∀h',h' b=some (true,.cells (Bg rest (Gf d off)) z (0,0))->(∀x,x≠b->h' x=h x)->T (putS O dst (.tuple #[])) ds h') :
  BS E ⟨dst,.call ⟨.builtin .clear,#[x],#[t]⟩,ty,pos,af,gd⟩ O ds h T:=by
 refine FS (vs:=#[.slice (some ⟨b,off,none⟩) len cap]) (s:=Builtin.clear_ #[t] ty #[.slice (some ⟨b,off,none⟩) len cap]) (by simp [hx]) (λ_=>rfl) ?_;unfold Dj at ht;cases l:P.underlying t with
 | none=>rw [l] at ht;cases ht
 | some r=>
 rw [l] at ht;cases r <;> first | (cases ht;done) | skip
 rename_i j
 simp only at ht;cases f:Bz P j with
 | none=>rw [f] at ht;cases ht
 | some g=>
 cases c:Bb P j with
 | none=>rw [f,c] at ht;cases ht
 | some B=>
 rw [f,c] at ht;simp only [Option.some.injEq,Prod.mk.injEq] at ht;obtain ⟨_,rfl,rfl⟩:=ht;unfold Builtin.clear_;simp only [List.getElem?_toArray,List.getElem?_cons_zero];refine AG _ _ (Ak l ?_);obtain ⟨len,rfl⟩:∃m,len=m+1:=⟨len-1,Y⟩;have hzero:∀{Q:aU->V->Prop}{h:V},(∀v,v.cells=#[.int .i64 0]->Q v h)->(zeroValue j).gh P h Q:=λ{Q h} q=>by
  unfold Bb at c;unfold zeroValue;cases n:P.info? j with
  | none=>rw [n] at c;cases c
  | some i=>
   rw [n] at c;simp only [Option.map_eq_some_iff] at c;obtain ⟨v,u,e⟩:=c;refine AG _ _ (Cy n ?_);rw [u];exact q v e
 refine AG _ _ (hzero λvz o=>?_);rw [o];have hcells:(Builtin.zeroCells #[.int .i64 0] (len+1)).toList=List.replicate (len+1) (.int .i64 0):=by
  unfold Builtin.zeroCells;apply List.ext_getElem
  ·simp
  ·intro i p C;simp [Nat.mod_one]
 rw [hcells];have w:d.size=d.toList.length:=aD
 refine AG _ _ (GT (a:=⟨b,off,none⟩) rfl _ 0 (Bg rest d) h ?_ hb ?_ ?_)
 ·intro y A;rw [List.eq_of_mem_replicate A];rfl
 ·rw [BF,List.length_replicate];show off+0+(len+1)<=_;omega
 ·refine Ao (k _ ?_ λx hx=>V.set_ne _ _ _ hx);have e:BV (Bg rest d) (off+0) (List.replicate (len+1) (.int .i64 0))=Bg rest (Gf d off):=by
   apply Array.toList_inj.1;rw [ES _ _ _ (by rw [BF,List.length_replicate];omega)];unfold Bg Gf;simp only [List.length_replicate,Nat.add_zero,List.map_append,List.map_take,List.map_replicate];have p:off<=(d.toList.map (λx=>Value.int .i64 x)).length:=by simp;omega
   rw [List.take_append_of_le_length p,show d.size-off=len+1 by omega];congr 1;rw [show off+(len+1)=(d.toList.map (λx=>Value.int .i64 x)).length by simp;omega,List.drop_left]
  rw [<-e];exact V.set_same _ _ _ _
end
def Jq(acc:List Int)(x:Int):List Int:=if acc.getLast? =some x then acc else acc++[x]
def DZ(l:List Int):List Int:=l.foldl Jq []
theorem PA(acc:List Int)(x:Int):(Jq acc x).getLast? =some x:=by
 unfold Jq;split
 ·assumption
 ·simp
theorem HZ{d:Array Int}{j:Nat}(hj:j<d.size):DZ (d.toList.take (j+1))=Jq (DZ (d.toList.take j)) d[j]! :=by
 have e:d.toList.take (j+1)=d.toList.take j++[d[j]!]:=by
  rw [List.take_succ_eq_append_getElem (by simpa using hj)];simp [getElem!_pos,hj]
 rw [e];unfold DZ;rw [List.foldl_append];rfl
theorem WW{d:Array Int}{j:Nat}(hj:j<d.size):(DZ (d.toList.take (j+1))).getLast? =some d[j]! :=by
 rw [HZ hj];exact PA _ _
theorem Mr{rest:List aU}{d:Array Int}{o i:Nat}(h:o+i<d.size):(Bg rest d)[o+i*1]? =some (.int .i64 d[o+i]!):=by
 have:=An (rest:=rest) h
 rw [Nat.zero_add,Nat.mul_one] at this;rw [Nat.mul_one];exact this
theorem Km{d:Array Int}{j:Nat}(hj:j<d.size):d.toList.take (j+1)=d.toList.take j++[d[j]!]:=by
 rw [List.take_succ_eq_append_getElem (by simpa using hj)];simp [getElem!_pos,hj]
theorem I8{d:Array Int}{j:Nat}(h1:1<=j)(hj:j<=d.size):(DZ (d.toList.take j)).getLast? =some d[j-1]! :=by
 obtain ⟨i,rfl⟩:∃i,j=i+1:=⟨j-1,Y⟩;exact WW Y
theorem TP{d:Array Int}{k:Nat}(h1:1<=k)(hk:k<d.size)(h:¬d[k]! =d[((k:Int)-1).toNat]!)(hs:DZ (d.toList.take k)=d.toList.take k):DZ (d.toList.take (k+1))=d.toList.take (k+1):=by
 rw [HZ hk,Km hk];unfold Jq;rw [I8 h1 Y,aS (by rw [show ((k:Int)-1).toNat=k-1 by omega] at h;simpa using λe=>h e.symm),hs]
theorem TQ{d:Array Int}{k:Nat}(h1:1<=k)(hk:k<d.size)(h:d[k]! =d[((k:Int)-1).toNat]!)(hs:DZ (d.toList.take k)=d.toList.take k):d.toList.take k=DZ (d.toList.take (k+1)):=by
 rw [HZ hk];unfold Jq;rw [I8 h1 Y,aT (by rw [show ((k:Int)-1).toNat=k-1 by omega] at h;rw [h]),hs]
theorem WX{d dd:Array Int}{k q kk:Nat}(hq:1<=q/\k+q<d.size)(hkk:k<=kk/\kk+1<=k+q)(hsz:dd.size=d.size)(hd:∀j,kk<=j->dd[j]! =d[j]!)(hdd:dd.toList.take kk=DZ (d.toList.take (k+q)))(h:¬dd[k+q]! =dd[k+((q:Int)-1).toNat]!) :
  (dd.setIfInBounds kk dd[k+q]!).toList.take (kk+1)=DZ (d.toList.take (k+(q+1))):=by
 have a:((q:Int)-1).toNat=q-1:=Y
 rw [a,hd _ Y,hd _ Y] at h;rw [show k+(q+1)=(k+q)+1 by omega,HZ hq.2];unfold Jq;rw [I8 Y Y,aS (by rw [show k+q-1=k+(q-1) by omega];simpa using λe=>h e.symm),<-hdd,hd _ Y,Array.toList_setIfInBounds];rw [List.take_succ_eq_append_getElem (by simp;omega),List.take_set_of_le Y];simp
theorem WY{d dd:Array Int}{k q kk:Nat}(hq:1<=q/\k+q<d.size)(hkk:k<=kk/\kk+1<=k+q)(hd:∀j,kk<=j->dd[j]! =d[j]!)(hdd:dd.toList.take kk=DZ (d.toList.take (k+q)))(h:dd[k+q]! =dd[k+((q:Int)-1).toNat]!) :
  dd.toList.take kk=DZ (d.toList.take (k+(q+1))):=by
 have a:((q:Int)-1).toNat=q-1:=Y
 rw [a,hd _ Y,hd _ Y] at h;rw [show k+(q+1)=(k+q)+1 by omega,HZ hq.2];unfold Jq;rw [I8 Y Y,aT (by rw [show k+q-1=k+(q-1) by omega,h]),hdd]
theorem ZN{d dd:Array Int}{kk:Nat}{x:Int}(hd:∀j,kk<=j->dd[j]! =d[j]!):∀j,kk+1<=j->(dd.setIfInBounds kk x)[j]! =d[j]! :=λj a=>by
 rw [<-hd j Y];simp only [getElem!_def,Array.getElem?_setIfInBounds_ne (show kk≠j by omega)]
theorem RB{d:Array Int}{k:Nat}(h:k<=d.size):(Gf d k).toList.take k=d.toList.take k:=by
 unfold Gf;simp only [];rw [List.take_append_of_le_length (by simp;omega),List.take_take];simp
theorem Ui{d:Array Int}(h:2<=d.size):DZ (d.toList.take 1)=d.toList.take 1:=by
 have e:=Km (d:=d) (j:=0) Y;rw [Nat.zero_add] at e;rw [e];rfl
theorem Uj{d:Array Int}{k:Nat}(hs:DZ (d.toList.take k)=d.toList.take k)(h1:k<=d.size)(h2:d.size<=k):d.toList.take d.size=DZ d.toList:=by
 rw [show k=d.toList.length by simp;omega,List.take_length] at hs;rw [hs,<-Array.length_toList,List.take_length]
theorem Uk{d:Array Int}(h:d.size<2):d.toList.take d.size=DZ d.toList:=by
 rw [<-Array.length_toList,List.take_length]
 have:d.toList.length<2:=by simpa using h
 match hd:d.toList,this with
 | [],_=>rfl
 | [x],_=>rfl
 | _ ::_ ::_,h=>simp at h;omega
theorem PB(l:List Int):Jp l=l.mergeSort (λx y=>decide (x<=y)):=sortInt l
theorem I9(l:List Int):(Jp l).length=l.length:=by rw [PB,List.length_mergeSort]
theorem Ul{l:List Int}(h:l≠[]):Jp l≠[]:=λe=>by
 have:=congrArg List.length e
 rw [I9] at this;exact h (List.length_eq_zero_iff.1 this)
end Go.Ns
namespace Go.Ns
open Go.Conc Go.Sort
theorem Ms:SWO ltInt:=⟨λx=>by unfold ltInt;simp,λx y z=>by unfold ltInt;simp;omega,λx y z=>by unfold ltInt;simp;omega⟩
theorem Um{d dd:Array Int}{a b i j:Nat}(h:PermIn a b d dd)(hi:a<=i/\i<b)(hj:a<=j/\j<b)(hb:b<=d.size):PermIn a b d ((dd.setIfInBounds i dd[j]!).setIfInBounds j dd[i]!):=
 permIn_trans _ _ _ a b h (swp_permIn dd a b i j hi.1 hi.2 hj.1 hj.2 (by rw [h.1];exact hb))
theorem sift_end{hi first root:Nat}{dd:Array Int}(h:hi<=2*root+1):siftDown ltInt hi first root dd=dd:=by
 unfold siftDown;rw [dif_pos h]
theorem sift_r{hi first root:Nat}{dd:Array Int}(h:¬hi<=2*root+1)(h1:2*root+1+1<hi)(h1':dd[first+(2*root+1)]! <dd[first+(2*root+1)+1]!)(h2:dd[first+root]! <dd[first+(2*root+1+1)]!) :
  siftDown ltInt hi first root dd=siftDown ltInt hi first (2*root+1+1) (swp dd (first+root) (first+(2*root+1+1))):=by
 have a:dd[first+root]! <dd[first+(2*root+2)]! :=h2
 conv=>lhs;unfold siftDown
 rw [dif_neg h,aT (by unfold ltInt;simpa using ⟨h1,h1'⟩),aS (by unfold ltInt;simpa using a),dif_pos Y]
theorem sift_r0{hi first root:Nat}{dd:Array Int}(h:¬hi<=2*root+1)(h1:2*root+1+1<hi)(h1':dd[first+(2*root+1)]! <dd[first+(2*root+1)+1]!)(h2:¬dd[first+root]! <dd[first+(2*root+1+1)]!) :
  siftDown ltInt hi first root dd=dd:=by
 have a:¬dd[first+root]! <dd[first+(2*root+2)]! :=h2;unfold siftDown;rw [dif_neg h,aT (by unfold ltInt;simpa using ⟨h1,h1'⟩),aT (by unfold ltInt;simpa using a)]
theorem sift_l{hi first root:Nat}{dd:Array Int}(h:¬hi<=2*root+1)(h1:¬(2*root+1+1<hi/\dd[first+(2*root+1)]! <dd[first+(2*root+1)+1]!))(h2:dd[first+root]! <dd[first+(2*root+1)]!) :
  siftDown ltInt hi first root dd=siftDown ltInt hi first (2*root+1) (swp dd (first+root) (first+(2*root+1))):=by
 conv=>lhs;unfold siftDown
 rw [dif_neg h,aS (by unfold ltInt;simpa using h1),aS (by unfold ltInt;simpa using h2)]
theorem sift_l0{hi first root:Nat}{dd:Array Int}(h:¬hi<=2*root+1)(h1:¬(2*root+1+1<hi/\dd[first+(2*root+1)]! <dd[first+(2*root+1)+1]!))(h2:¬dd[first+root]! <dd[first+(2*root+1)]!) :
  siftDown ltInt hi first root dd=dd:=by
 unfold siftDown;rw [dif_neg h,aS (by unfold ltInt;simpa using h1),aT (by unfold ltInt;simpa using h2)]
theorem Mt(hi first root:Nat)(d:Array Int):(siftDown ltInt hi first root d).size=d.size:=by
 fun_induction siftDown ltInt hi first root d <;> simp_all [swp]
theorem WZ{z a k:Nat}{dd:Array Int}(hk:(0:Int)<=(k:Int)-1):heapBuild ltInt (z-a) a k dd=heapBuild ltInt (z-a) a (k-1) (siftDown ltInt ((z:Int)-(a:Int)).toNat a ((k:Int)-1).toNat dd):=by
 obtain ⟨q,rfl⟩:∃q,k=q+1:=⟨k-1,Y⟩;rw [show ((z:Int)-(a:Int)).toNat=z-a by omega,show (((q+1:Nat):Int)-1).toNat=q by omega];rfl
theorem ZO{z a k:Nat}{dd:Array Int}(hk:¬(0:Int)<=(k:Int)-1):heapBuild ltInt (z-a) a k dd=dd:=by
 obtain rfl:k=0:=Y
 rfl
theorem Wa{a k:Nat}{dd:Array Int}(hk:(0:Int)<=(k:Int)-1):heapPop ltInt a k dd=heapPop ltInt a (k-1) (siftDown ltInt ((k:Int)-1).toNat a (0:Int).toNat ((dd.setIfInBounds a dd[((a:Int)+((k:Int)-1)).toNat]!).setIfInBounds ((a:Int)+((k:Int)-1)).toNat dd[a]!)):=by
 obtain ⟨q,rfl⟩:∃q,k=q+1:=⟨k-1,Y⟩;rw [show ((a:Int)+(((q+1:Nat):Int)-1)).toNat=a+q by omega,show (((q+1:Nat):Int)-1).toNat=q by omega];rfl
theorem ZP{a k:Nat}{dd:Array Int}(hk:¬(0:Int)<=(k:Int)-1):heapPop ltInt a k dd=dd:=by
 obtain rfl:k=0:=Y
 rfl
theorem ET{P:Program}{W:Wk P}{f:FuncId}{b cap m n:Nat}{as:List aU}{h:V}{R:aU->V->Prop}(e:m=n)(x:AW W f (Value.slice (some ⟨b,0,none⟩) m cap ::as).toArray h R):AW W f (Value.slice (some ⟨b,0,none⟩) n cap ::as).toArray h R:=e▸x
def Wb(dd:Array Int)(a j i:Nat):Nat:=scanUp (λx=>ltInt x dd[a]!) dd j i
def ZQ(dd:Array Int)(a i j:Nat):Nat:=scanDown (λx=> !ltInt x dd[a]!) dd i j
def upE(dd:Array Int)(a j i:Nat):Nat:=scanUp (λx=> !ltInt dd[a]! x) dd j i
def dnE(dd:Array Int)(a i j:Nat):Nat:=scanDown (λx=>ltInt dd[a]! x) dd i j
theorem Rp{p:Int->Bool}{dd:Array Int}{j i:Nat}(h1:i<=j)(h2:p dd[i]! =true):scanUp p dd j i=scanUp p dd j (i+1):=by
 conv=>lhs;unfold scanUp
 rw [aT (by simp [h1,h2])]
theorem PC{p:Int->Bool}{dd:Array Int}{j i:Nat}(h:¬(i<=j/\p dd[i]! =true)):scanUp p dd j i=i:=by
 unfold scanUp;rw [aS (by simpa using h)]
theorem NZ{p:Int->Bool}{dd:Array Int}{i j:Nat}(hi:1<=i)(h1:i<=j)(h2:p dd[j]! =true):scanDown p dd i j=scanDown p dd i (j-1):=by
 obtain ⟨q,rfl⟩:∃q,j=q+1:=⟨j-1,Y⟩
 conv=>lhs;unfold scanDown
 rw [aT (by simp [h1,h2])];rfl
theorem L6{p:Int->Bool}{dd:Array Int}{i j:Nat}(h:¬(i<=j/\p dd[j]! =true)):scanDown p dd i j=j:=by
 cases j with
 | zero=>rfl
 | succ q=>unfold scanDown;rw [aS (by simpa using h)]
section
variable {d dd:Array Int} {a z p i j i0 j0:Nat}
theorem Un{J:Int}(h:(i:Int)<=J/\dd[i]! <dd[a]!)(hJ:J=(j:Int)):Wb dd a j i=Wb dd a j (i+1):=Rp Y (decide_eq_true h.2)
theorem Yj{J:Int}(h:¬((i:Int)<=J/\dd[i]! <dd[a]!))(hJ:J=(j:Int)):Wb dd a j i=i:=PC λq=>h ⟨Y,of_decide_eq_true q.2⟩
theorem Uo(hi:1<=i)(h:(i:Int)<=(j:Int)/\¬dd[j]! <dd[a]!):ZQ dd a i j=ZQ dd a i (j-1):=NZ hi Y (by unfold ltInt;simpa using h.2)
theorem OD(h:¬((i:Int)<=(j:Int)/\¬dd[j]! <dd[a]!)):ZQ dd a i j=j:=L6 λq=>h ⟨Y,by have:=q.2;unfold ltInt at this;simpa using this⟩
theorem upE_next{J:Int}(h:(i:Int)<=J/\¬dd[a]! <dd[i]!)(hJ:J=(j:Int)):upE dd a j i=upE dd a j (i+1):=Rp Y (by unfold ltInt;simpa using h.2)
theorem upE_end{J:Int}(h:¬((i:Int)<=J/\¬dd[a]! <dd[i]!))(hJ:J=(j:Int)):upE dd a j i=i:=PC λq=>h ⟨Y,by have:=q.2;unfold ltInt at this;simpa using this⟩
theorem dnE_next(hi:1<=i)(h:(i:Int)<=(j:Int)/\dd[a]! <dd[j]!):dnE dd a i j=dnE dd a i (j-1):=NZ hi Y (decide_eq_true h.2)
theorem Yk(h:¬((i:Int)<=(j:Int)/\dd[a]! <dd[j]!)):dnE dd a i j=j:=L6 λq=>h ⟨Y,of_decide_eq_true q.2⟩
theorem Rq(hu:Wb dd a j0 i=Wb dd a j0 i0)(hue:Wb dd a j0 i=i)(hv:ZQ dd a i j=ZQ dd a i j0)(hve:ZQ dd a i j=j)(h:j<i):partLoop ltInt a i0 j0 dd=(j,dd):=by
 have b:scanUp (λx=>ltInt x dd[a]!) dd j0 i0=i:=by rw [<-hue,hu];rfl
 have c:scanDown (λx=> !ltInt x dd[a]!) dd i j0=j:=by rw [<-hve,hv];rfl
 rw [partLoop_eq,b,c,aT h]
theorem Up(hu:Wb dd a j0 i=Wb dd a j0 i0)(hue:Wb dd a j0 i=i)(hv:ZQ dd a i j=ZQ dd a i j0)(hve:ZQ dd a i j=j)(h:¬j<i):partLoop ltInt a i0 j0 dd=partLoop ltInt a (i+1) (j-1) (swp dd i j):=by
 have b:scanUp (λx=>ltInt x dd[a]!) dd j0 i0=i:=by rw [<-hue,hu];rfl
 have c:scanDown (λx=> !ltInt x dd[a]!) dd i j0=j:=by rw [<-hve,hv];rfl
 rw [partLoop_eq,b,c,aS h]
theorem ZR(hu:upE dd a j0 i=upE dd a j0 i0)(hue:upE dd a j0 i=i)(hv:dnE dd a i j=dnE dd a i j0)(hve:dnE dd a i j=j)(h:j<i):partEqLoop ltInt a i0 j0 dd=(i,dd):=by
 have b:scanUp (λx=> !ltInt dd[a]! x) dd j0 i0=i:=by rw [<-hue,hu];rfl
 have c:scanDown (λx=>ltInt dd[a]! x) dd i j0=j:=by rw [<-hve,hv];rfl
 rw [partEqLoop_eq,b,c,aT h]
theorem partE_on(hu:upE dd a j0 i=upE dd a j0 i0)(hue:upE dd a j0 i=i)(hv:dnE dd a i j=dnE dd a i j0)(hve:dnE dd a i j=j)(h:¬j<i):partEqLoop ltInt a i0 j0 dd=partEqLoop ltInt a (i+1) (j-1) (swp dd i j):=by
 have b:scanUp (λx=> !ltInt dd[a]! x) dd j0 i0=i:=by rw [<-hue,hu];rfl
 have c:scanDown (λx=>ltInt dd[a]! x) dd i j0=j:=by rw [<-hve,hv];rfl
 rw [partEqLoop_eq,b,c,aS h]
theorem Uq(h:partLoop ltInt a (a+1) (z-1) (swp d a p)=(j,dd)):∃q,partition ltInt d a z p=(j,q,swp dd j a):=by
 have b:=partition_fst ltInt d a z p;have c:=partition_arr ltInt d a z p;rw [h] at b c;exact ⟨(partition ltInt d a z p).2.1,Prod.ext b (Prod.ext rfl c)⟩
theorem ZS(h:partEqLoop ltInt a (a+1) (z-1) (swp d a p)=(i,dd)):partitionEqual ltInt d a z p=(i,dd):=h
theorem ijL{J:Int}{c:Int}(h1:¬((i:Int)<=J/\dd[i]! <c))(hJ:(j:Int)<=J)(h2:¬((i:Int)<=(j:Int)/\¬dd[j]! <c))(h:¬(j:Int)<(i:Int)):i<j:=by
 by_cases e:i=j
 ·subst e;exact absurd (Decidable.not_not.1 λq=>h2 ⟨Y,q⟩) λq=>h1 ⟨hJ,q⟩
 ·omega
theorem ijE{J:Int}{c:Int}(h1:¬((i:Int)<=J/\¬c<dd[i]!))(hJ:(j:Int)<=J)(h2:¬((i:Int)<=(j:Int)/\c<dd[j]!))(h:¬(j:Int)<(i:Int)):i<j:=by
 by_cases e:i=j
 ·subst e;exact absurd (show¬c<dd[i]! from λq=>h2 ⟨Y,q⟩) λq=>h1 ⟨hJ,q⟩
 ·omega
variable {de df:Array Int} {s i2:Nat} {J:Int}
theorem Wc(h:(i:Int)<(z:Int)/\¬dd[i]! <dd[((i:Int)-1).toNat]!):scanSorted ltInt dd z i=scanSorted ltInt dd z (i+1):=by
 rw [show ((i:Int)-1).toNat=i-1 by omega] at h
 conv=>lhs;unfold scanSorted
 rw [aT (by unfold ltInt;simp only [Bool.and_eq_true,decide_eq_true_eq,Bool.not_eq_true',decide_eq_false_iff_not];exact ⟨Y,h.2⟩)]
theorem IT(h:¬((i:Int)<(z:Int)/\¬dd[i]! <dd[((i:Int)-1).toNat]!)):scanSorted ltInt dd z i=i:=by
 rw [show ((i:Int)-1).toNat=i-1 by omega] at h;unfold scanSorted;rw [aS (by unfold ltInt;simp only [Bool.and_eq_true,decide_eq_true_eq,Bool.not_eq_true',decide_eq_false_iff_not];exact λq=>h ⟨Y,q.2⟩)]
theorem TR(hj:1<=j)(h:dd[j]! <dd[((j:Int)-1).toNat]!):shiftDown ltInt j dd=shiftDown ltInt (j-1) ((dd.setIfInBounds j dd[((j:Int)-1).toNat]!).setIfInBounds ((j:Int)-1).toNat dd[j]!):=by
 obtain ⟨q,rfl⟩:∃q,j=q+1:=⟨j-1,Y⟩;rw [show (((q+1:Nat):Int)-1).toNat=q by omega] at h ⊢
 conv=>lhs;unfold shiftDown
 rw [aS (by unfold ltInt;simpa using h)];rfl
theorem Na(h:¬(1:Int)<=(j:Int)\/¬dd[j]! <dd[((j:Int)-1).toNat]!):shiftDown ltInt j dd=dd:=by
 cases j with
 | zero=>rfl
 | succ q=>
  rw [show (((q+1:Nat):Int)-1).toNat=q by omega] at h;unfold shiftDown;rw [aT (by unfold ltInt;simp only [Bool.not_eq_true',decide_eq_false_iff_not];rcases h with h | h;omega;exact h)]
theorem TS(hj:(j:Int)<(z:Int))(h1:1<=j)(h:dd[j]! <dd[((j:Int)-1).toNat]!):shiftUp ltInt z j dd=shiftUp ltInt z (j+1) ((dd.setIfInBounds j dd[((j:Int)-1).toNat]!).setIfInBounds ((j:Int)-1).toNat dd[j]!):=by
 rw [show ((j:Int)-1).toNat=j-1 by omega] at h ⊢
 conv=>lhs;unfold shiftUp
 rw [aT Y,aS (by unfold ltInt;simpa using h)];rfl
theorem Nc(h:¬(j:Int)<(z:Int)\/¬dd[j]! <dd[((j:Int)-1).toNat]!):shiftUp ltInt z j dd=dd:=by
 by_cases b:j<z
 ·rw [show ((j:Int)-1).toNat=j-1 by omega] at h;unfold shiftUp;rw [aT b,aT (by unfold ltInt;simp only [Bool.not_eq_true',decide_eq_false_iff_not];rcases h with h | h;omega;exact h)]
 ·unfold shiftUp;rw [aS b]
theorem ZT(he:scanSorted ltInt dd z i=i2)(h:i2=z):partialIns ltInt a z (s+1) i dd=(dd,true):=by
 rw [partialIns_succ,he,aT h]
theorem Wd(he:scanSorted ltInt dd z i=i2)(h:¬i2=z)(h2:z-a<50):partialIns ltInt a z (s+1) i dd=(dd,false):=by
 rw [partialIns_succ,he,aS h,aT h2]
theorem Mu(he:scanSorted ltInt dd z i=i2)(h:¬i2=z)(h2:¬z-a<50)(hd:de=if i2-a>=2 then shiftDown ltInt (i2-1) (swp dd i2 (i2-1)) else swp dd i2 (i2-1))(hf:df=if z-i2>=2 then shiftUp ltInt z (i2+1) de else de) :
  partialIns ltInt a z (s+1) i dd=partialIns ltInt a z s i2 df:=by
 rw [partialIns_succ,he,aS h,aS h2,hf,hd];rfl
end
section
variable {P:Program} {E:F8 P} {O:Nat->aU} {ds:List Deferred} {h:V} {T:(Nat->aU)->List Deferred->V->Prop} {dst:Option Nat} {ty:aV} {pos:String} {af:Array Edge} {gd:Option (Nat×Bool)} {xt yt:aV} {x y:Operand} {a b:Int}
def Kf(a b:Int):Int:=IntKind.u64.wrap ((BitVec.ofInt 64 a ^^^ BitVec.ofInt 64 b).toNat)
def PD(a b:Int):Int:=IntKind.u64.wrap ((BitVec.ofInt 64 a &&& BitVec.ofInt 64 b).toNat)
def FA(a b:Int):Int:=IntKind.u64.wrap (a*2 ^ (min b.toNat IntKind.u64.bits))
theorem TT(hx:AL O x=.int .u64 a)(hy:AL O y=.int .u64 b)(k:T (putS O dst (.int .u64 (Kf a b))) ds h):BS E ⟨dst,.binOp .xor xt x y yt,ty,pos,af,gd⟩ O ds h T:=E8 hx hy rfl k
theorem ok_andU(hx:AL O x=.int .u64 a)(hy:AL O y=.int .u64 b)(k:T (putS O dst (.int .u64 (PD a b))) ds h):BS E ⟨dst,.binOp .and xt x y yt,ty,pos,af,gd⟩ O ds h T:=E8 hx hy rfl k
theorem TU{ke:IntKind}(hx:AL O x=.int .u64 a)(hy:AL O y=.int ke b)(h0:0<=b)(k:T (putS O dst (.int .u64 (FA a b))) ds h):BS E ⟨dst,.binOp .shl xt x y yt,ty,pos,af,gd⟩ O ds h T:=Sw hx hy h0 rfl k
theorem ok_subU(hx:AL O x=.int .u64 a)(hy:AL O y=.int .u64 b)(hr:0<=a-b/\a-b<=18446744073709551615)(k:T (putS O dst (.int .u64 (a-b))) ds h):BS E ⟨dst,.binOp .sub xt x y yt,ty,pos,af,gd⟩ O ds h T:=E8 hx hy (by
 show (pure (Value.int .u64 (IntKind.u64.wrap (a-b))):Sem aU)=_;rw [IntWalk.u64_in _ Y]) k
theorem We(hb:0<=b/\b<=9223372036854775807):0<=PD a b/\PD a b<=b:=by
 unfold PD;obtain ⟨n,rfl⟩:=Int.eq_ofNat_of_zero_le hb.1;have c:(BitVec.ofInt 64 (n:Int)).toNat=n:=by rw [BitVec.toNat_ofInt];omega
 have d:(BitVec.ofInt 64 a &&& BitVec.ofInt 64 (n:Int)).toNat<=n:=by rw [BitVec.toNat_and,c];exact Nat.and_le_right
 rw [IntWalk.u64_in _ Y];omega
theorem shlU_one{k:Nat}(h:k<=60):FA 1 (k:Int)=2 ^ k:=by
 unfold FA
 have:min ((k:Int)).toNat IntKind.u64.bits=k:=by show min ((k:Int)).toNat 64=k;omega
 rw [this,Int.one_mul];have c:(2:Int) ^ k<=2 ^ 60:=by
  have:=Nat.pow_le_pow_right (show 0<2 by decide) h
  exact_mod_cast this
 have d:(0:Int)<=2 ^ k:=by
  have:=Nat.zero_le (2 ^ k)
  exact_mod_cast this
 rw [IntWalk.u64_in _ (by have:(2:Int) ^ 60=1152921504606846976:=rfl;omega)]
def tabOK(s:aW):Bool:=s.size==256 && (List.range 256).all λi=>(s.get! i).toNat==bitsLen i
theorem Ff{t:aV}{x ix:Operand}{s:aW}{kd:IntKind}{i:Int}(ht:Lk P t=true)(hx:AL O x=.string s)(hi:AL O ix=.int kd i)(h0:0<=i)(h1:i<((256:Nat):Int))(hs:tabOK s=true)
  (k:T (putS O dst (.int .u8 (bitsLen i.toNat:Int))) ds h):BS E ⟨dst,.index t x ix,ty,pos,af,gd⟩ O ds h T:=by
 unfold tabOK at hs;rw [Bool.and_eq_true,List.all_eq_true] at hs;have f:s.size=256:=by simpa using hs.1
 have e:=hs.2 i.toNat (List.mem_range.2 Y);refine Rb ht hx hi h0 Y ?_;have d:(s[i.toNat]' Y).toNat=bitsLen i.toNat:=by
  rw [<-(show (s.get! i.toNat).toNat=bitsLen i.toNat by simpa using e)];have c:i.toNat<s.size:=Y
  congr 1;show s.data[i.toNat]=s.data[i.toNat]!;rw [getElem!_pos s.data i.toNat c]
 rw [d];exact k
theorem Nd{n k:Nat}(h:2 ^ k<=n):bitsLen n=k+bitsLen (n / 2 ^ k):=by
 have c:0<2 ^ k:=Nat.two_pow_pos k;have d:∀j,bitsLen n<=j↔k+bitsLen (n / 2 ^ k)<=j:=λj=>by
  rw [bitsLen_le_iff];constructor
  ·intro q;have f:k<j:=(Nat.pow_lt_pow_iff_right (aC:1<2)).1 (Nat.lt_of_le_of_lt h q)
   have:=(bitsLen_le_iff (n / 2 ^ k) (j-k)).2 ((Nat.div_lt_iff_lt_mul c).2 (by rw [<-Nat.pow_add,show j-k+k=j by omega];exact q))
   omega
  ·intro q;have g:=(bitsLen_le_iff (n / 2 ^ k) (j-k)).1 Y;have e:=(Nat.div_lt_iff_lt_mul c).1 g;rw [<-Nat.pow_add,show j-k+k=j by omega] at e;exact e
 have i:=(d (bitsLen n)).1 (Nat.le_refl _);have l:=(d (k+bitsLen (n / 2 ^ k))).2 (Nat.le_refl _);omega
theorem Ur{n:Int}(h:65536<=n):(bitsLen n.toNat:Int)=16+bitsLen (n / 65536).toNat:=by
 rw [Nd (n:=n.toNat) (k:=16) Y,show (n / 65536).toNat=n.toNat / 2 ^ 16 by omega];omega
theorem V8{n:Int}(h:256<=n):(bitsLen n.toNat:Int)=8+bitsLen (n / 256).toNat:=by
 rw [Nd (n:=n.toNat) (k:=8) Y,show (n / 256).toNat=n.toNat / 2 ^ 8 by omega];omega
theorem D3{n:Nat}(h:n<4294967296):bitsLen n<=32:=(bitsLen_le_iff n 32).2 h
end
section
variable {d dd D D' R:Array Int} {a z a0 z0 p mid:Nat} {ap:Bool}
def Fs(a0 z0:Nat)(d:Array Int)(a z:Nat)(dd:Array Int):Prop:=a<=z/\z<=dd.size/\dd.size=d.size/\Below ltInt a z dd/\∀R,PermIn a z dd R->SortedIn ltInt a z R->PermIn a0 z0 d R/\SortedIn ltInt a0 z0 R
theorem Fs.start(h:a<=z)(hz:z<=d.size)(hB:Below ltInt a z d):Fs a z d a z d:=⟨h,hz,rfl,hB,λ_ x y=>⟨x,y⟩⟩
theorem Fs.perm(r:Fs a0 z0 d a z dd)(x:PermIn a z dd D):Fs a0 z0 d a z D:=
 ⟨r.1,by rw [x.1];exact r.2.1,x.1.trans r.2.2.1,r.2.2.2.1.perm r.2.1 x,λR y s=>r.2.2.2.2 R (permIn_trans _ _ _ a z x y) s⟩
theorem Fs.done(r:Fs a0 z0 d a z dd)(x:PermIn a z dd D)(s:SortedIn ltInt a z D):PermIn a0 z0 d D/\SortedIn ltInt a0 z0 D:=r.2.2.2.2 D x s
theorem Fs.ins(r:Fs a0 z0 d a z dd):PermIn a0 z0 d (insertionSort ltInt dd a z)/\SortedIn ltInt a0 z0 (insertionSort ltInt dd a z):=
 let x:=insertionSort_holds (lt:=ltInt) Ms dd a z r.1 r.2.1
 r.done x.1 x.2
theorem Fs.heap(r:Fs a0 z0 d a z dd):PermIn a0 z0 d (heapSort ltInt dd a z)/\SortedIn ltInt a0 z0 (heapSort ltInt dd a z):=
 let x:=heapSort_holds (lt:=ltInt) Ms dd a z r.1 r.2.1
 r.done x.1 x.2
theorem Fs.pins(r:Fs a0 z0 d a z dd)(h:a<z){fl:Bool}(e:partialInsertionSort ltInt dd a z=(D,fl)):Fs a0 z0 d a z D/\(fl=true->PermIn a0 z0 d D/\SortedIn ltInt a0 z0 D):=by
 have x:=partialInsertionSort_holds (lt:=ltInt) Ms dd a z h r.2.1 r.2.2.2.1;rw [e] at x;exact ⟨r.perm x.1,λq=>r.done x.1 (x.2 q)⟩
theorem Fs.eq(r:Fs a0 z0 d a z dd)(h0:0<a)(hp:a<=p/\p<z)(hl:¬dd[a-1]! <dd[p]!)(e:partitionEqual ltInt dd a z p=(mid,D)):a<mid/\mid<=z/\Fs a0 z0 d mid z D:=by
 obtain ⟨f,b,c,g,h⟩:=round_eq Ms (partitionEqual_holds ltInt) h0 hp.1 hp.2 r.2.1 r.2.2.2.1 (decide_eq_false hl) e;exact ⟨f,b,b,by rw [c];exact r.2.1,c.trans r.2.2.1,g,λR x s=>let y:=h R x s;r.2.2.2.2 R y.1 y.2⟩
theorem Fs.eq'(r:Fs a0 z0 d a z dd)(h0:0<a)(hp:a<=p/\p<z)(hl:¬dd[((a:Int)-1).toNat]! <dd[p]!)(e:partitionEqual ltInt dd a z p=(mid,D)):a<mid/\mid<=z/\Fs a0 z0 d mid z D:=
 r.eq h0 hp (by rw [show ((a:Int)-1).toNat=a-1 by omega] at hl;exact hl) e
theorem Fs.part(r:Fs a0 z0 d a z dd)(hp:a<=p/\p<z)(e:∃q,partition ltInt dd a z p=(mid,q,D)):a<=mid/\mid<z/\D.size=d.size/\z<=D.size/\Below ltInt a mid D/\Below ltInt (mid+1) z D/\
  (∀aN,PermIn a mid D aN->SortedIn ltInt a mid aN->Fs a0 z0 d (mid+1) z aN)/\(∀aN,PermIn (mid+1) z D aN->SortedIn ltInt (mid+1) z aN->Fs a0 z0 d a mid aN):=by
 obtain ⟨q,e⟩:=e;obtain ⟨i,j,b,k,l,m,n⟩:=round_part Ms (partition_holds ltInt) hp.1 hp.2 r.2.1 r.2.2.2.1 e;have o:=r.2.1;refine ⟨i,j,b.trans r.2.2.1,Y,k,l,λaN x s=>?_,λaN x s=>?_⟩
 ·obtain ⟨c,f⟩:=m aN x s
  have:=x.1
  exact ⟨Y,Y,by rw [x.1,b];exact r.2.2.1,c,λR g h=>let y:=f R g h;r.2.2.2.2 R y.1 y.2⟩
 ·obtain ⟨c,f⟩:=n aN x s
  have:=x.1
  exact ⟨i,Y,by rw [x.1,b];exact r.2.2.1,c,λR g h=>let y:=f R g h;r.2.2.2.2 R y.1 y.2⟩
theorem Wf{D:Array Int}{xs:List Int}(x:PermIn 0 xs.length xs.toArray D)(s:SortedIn ltInt 0 xs.length D):D=(Jp xs).toArray:=by
 have y:=sorted_unique_holds (lt:=ltInt) Ms (λx y c e=>by simp only [ltInt,decide_eq_false_iff_not] at c e;omega) xs.toArray D (by simpa using x) (by simpa using s);rw [PB];apply Array.toList_inj.1;rw [y];congr 1;funext a b;unfold ltInt;simp only [Bool.not_eq_eq_eq_not];by_cases h:a<=b
 ·simp [h]
 ·simp [h];omega
theorem Us{D d:Array Int}(x:PermIn 0 d.size d D/\SortedIn ltInt 0 d.size D):D=(Jp d.toList).toArray:=
 Wf (xs:=d.toList) (by simpa using x.1) (by simpa using x.2)
end
end Go.Ns
namespace Go.Ns
open Go.Conc
theorem JA{ag:AZ->Bool}{ms:List AI}{mo:Int}(hf:∀k,0<=(ms.getD k AI.z).low/\(ms.getD k AI.z).high<=99):∀f i p,Bp p->∀q ∈ A8 ag ms mo f i p,Bp q
 | 0,_,p,a,q,hq=>by
  unfold A8 at hq;split at hq
  ·rw [List.mem_singleton] at hq;subst hq;exact a
  ·cases hq
 | f+1,i,p,a,q,hq=>by
  rw [EB,List.mem_flatMap] at hq;obtain ⟨n,b,hq⟩:=hq;rw [Mq] at b
  have:=hf i
  unfold B5 at hq;rw [List.mem_append] at hq;rcases hq with hq | hq
  ·exact JA hf f (i+1) _ (a.setMove Y) q hq
  ·split at hq
   ·exact JA hf f (i+1) _ (a.setMove Y) q hq
   ·cases hq
theorem L7{ag:AZ->Bool}{gs:List Good}{ms:List AI}{mo:Int}(hg:∀k,0<=(gs.getD k Good.z).low/\(gs.getD k Good.z).high<=99)(hf:∀k,0<=(ms.getD k AI.z).low/\(ms.getD k AI.z).high<=99) :
  ∀f i p,Bp p->∀q ∈ BT ag gs ms mo f i p,Bp q
 | 0,_,p,b,q,a=>JA hf _ _ p b q a
 | f+1,i,p,b,q,a=>by
  rw [Eo,List.mem_flatMap] at a;obtain ⟨n,c,a⟩:=a;rw [Mq] at c
  have:=hg i
  exact L7 hg hf f (i+1) _ (b.setFirst Y) q a
theorem Gh{d m:Int}{gs:List Good}{ms:List AI}{cs:List AP}(b:CA d m gs ms cs)(mo:Int):∀k,Bp ((AY d gs ms cs mo).getD k AZ.zero):=λk=>by
 by_cases h:k<(AY d gs ms cs mo).length
 ·exact L7 (λj=>⟨(b.gfew j).1,(b.gfew j).2.2.1⟩) (λj=>⟨(b.few j).1,(b.few j).2.2.1⟩) _ _ _ Bp.zero _ (CG h)
 ·rw [DN Y];exact Bp.zero
def Cj(n:Nat)(f:Nat->Int):List Int:=DZ (Jp ((List.range n).map f))
theorem JB{n:Nat}{f:Nat->Int}(h:0<n):(List.range n).map f≠[]:=by
 intro e
 have:=congrArg List.length e
 simp at this;omega
section
variable (d m:Int) (gs:List Good) (ms:List AI) (cs:List AP)
def IU(g dy:Int):Int:=At d m gs ms cs [if (decide (0<=g/\g<=(gs.length:Int)-1)) then (0:Int) else 6,if (decide (0<=dy/\dy<=d)) then (0:Int) else 1]
def Rr(g dy:Int):List Int:=if IU d m gs ms cs g dy=0 then Cj (AY d gs ms cs m).length (λ(i:Nat)=>(AX ms ((AY d gs ms cs m).getD ((i:Int)).toNat AZ.zero) g dy).1) else []
def Fg(mv:Int):Int:=At d m gs ms cs [if (decide (0<=mv/\mv<=(ms.length:Int)-1)) then (0:Int) else 6]
def IV(mv:Int):List Int:=if Fg d m gs ms cs mv=0 then Cj (AY d gs ms cs m).length (λ(i:Nat)=>Cn ((AY d gs ms cs m).getD ((i:Int)).toNat AZ.zero) (mv).toNat) else []
def Dp(mv:Int):Int:=At d m gs ms cs [if (decide ((0<=mv/\mv<=(ms.length:Int)-1)/\(ms.getD (mv).toNat AI.z).kind=0)) then (0:Int) else 6]
def JC(ps:List AZ)(i:Nat):Nat:=(ps.filter λp=>p.lies i).length
def PE(n l:Nat):Int:=if n=0 then 2 else if n=l then 1 else 0
def GL(mv:Int):Int:=if Dp d m gs ms cs mv=0 then PE (JC (AY d gs ms cs m) (mv).toNat) (AY d gs ms cs m).length else 0
end
theorem PG{p:Prop}[Decidable p]{c:Int}(hc:c≠0){o:List Int}(h:∀k,k<(((if decide p then (0:Int) else c) ::o)).length->(((if decide p then (0:Int) else c) ::o)).getD k 0=0):p:=by
 have:=h 0 aD
 by_cases a:p
 ·exact a
 ·simp [a] at this;exact absurd this hc
theorem PH{x:Int}{o:List Int}(h:∀k,k<(x ::o).length->(x ::o).getD k 0=0):∀k,k<o.length->o.getD k 0=0:=λk a=>by
 have:=h (k+1) (by simp;omega)
 simpa using this
theorem own_2{p q:Prop}[Decidable p][Decidable q]{c e:Int}(hc:c≠0)(he:e≠0){o:List Int}(h:∀k,k<(((if decide p then (0:Int) else c) ::(if decide q then (0:Int) else e) ::o)).length->(((if decide p then (0:Int) else c) ::(if decide q then (0:Int) else e) ::o)).getD k 0=0):p/\q:=
 ⟨PG hc h,PG he (PH h)⟩
theorem own_3{p q r:Prop}[Decidable p][Decidable q][Decidable r]{c e f:Int}(hc:c≠0)(he:e≠0)(hf:f≠0){o:List Int}(h:∀k,k<(((if decide p then (0:Int) else c) ::(if decide q then (0:Int) else e) ::(if decide r then (0:Int) else f) ::o)).length->(((if decide p then (0:Int) else c) ::(if decide q then (0:Int) else e) ::(if decide r then (0:Int) else f) ::o)).getD k 0=0):p/\q/\r:=
 ⟨PG hc h,own_2 he hf (PH h)⟩
theorem Ha{U:Type}{l:List U}{k:Nat}(z:U)(h:k<l.length):l.take (k+1)=l.take k++[l.getD k z]:=by
 rw [List.take_add_one,List.getElem?_eq_getElem h,List.getD_eq_getElem?_getD,List.getElem?_eq_getElem h];rfl
theorem lies_t{ps:List AZ}{k q i:Nat}(hk:k<ps.length)(h:q=JC (ps.take k) i)(e:(ps.getD k AZ.zero).lies i=true):q+1=JC (ps.take (k+1)) i:=by
 unfold JC at *;rw [Ha AZ.zero hk,List.filter_append,List.length_append,<-h,List.filter_cons,aT e];rfl
theorem lies_f{ps:List AZ}{k q i:Nat}(hk:k<ps.length)(h:q=JC (ps.take k) i)(e:(ps.getD k AZ.zero).lies i=false):q=JC (ps.take (k+1)) i:=by
 unfold JC at *;rw [Ha AZ.zero hk,List.filter_append,List.length_append,<-h,List.filter_cons,aS (by rw [e];decide)];rfl
theorem RC{d m:Int}{gs:List Good}{ms:List AI}{cs:List AP}{mv:Int}(h:¬Dp d m gs ms cs mv=0):GL d m gs ms cs mv=0:=by unfold GL;rw [aS h]
theorem JD{d m:Int}{gs:List Good}{ms:List AI}{cs:List AP}{mv:Int}{k q:Nat}(h:Dp d m gs ms cs mv=0)(hq:q=JC ((AY d gs ms cs m).take k) (mv).toNat)(hk:(AY d gs ms cs m).length<=k):GL d m gs ms cs mv=PE q (AY d gs ms cs m).length:=by
 unfold GL;rw [aT h,hq,List.take_of_length_le hk]
theorem Jr{ms:List AI}{p:AZ}{g dy:Int}(hp:Bp p):∀(f k:Nat)(n low B:Int),-B<=n/\n<=B->-(B+99*(f:Int))<=(DM ms p g dy f k n low).1/\(DM ms p g dy f k n low).1<=B+99*(f:Int)
 | 0,k,n,low,B,h=>by unfold DM;simpa using h
 | f+1,k,n,low,B,h=>by
  unfold DM;split
  ·show-(B+99*((f+1:Nat):Int))<=n/\n<=B+99*((f+1:Nat):Int);omega
  ·have:=Jr (ms:=ms) (g:=g) (dy:=dy) hp f (k+1) (Hv ms p g k n) (GV ms k low (Hv ms p g k n)) (B+99) (by
    unfold Hv
    have:=Lu (k:=(ms.getD k AI.z).kind.toNat) (G6 hp k)
    split <;> omega)
   omega
theorem IH{ms:List AI}{p:AZ}{g dy:Int}(hp:Bp p)(hm:ms.length<=6): -693<=(AX ms p g dy).1/\(AX ms p g dy).1<=693:=by
 have a:=hp.1 g.toNat
 have:=Jr (ms:=ms) (g:=g) (dy:=dy) hp ms.length 0 (p.first g.toNat) (p.first g.toNat) 99 Y
 unfold AX;omega
theorem JX{x:Int}:∀(l acc:List Int),x ∈ l.foldl Jq acc->x ∈ acc\/x ∈ l
 | [],acc,h=>.inl h
 | y ::l,acc,h=>by
  rcases JX l _ h with h | h
  ·unfold Jq at h;split at h
   ·exact .inl h
   ·rcases List.mem_append.1 h with h | h
    ·exact .inl h
    ·rw [List.mem_singleton] at h;exact .inr (by rw [h];exact List.mem_cons_self ..)
  ·exact .inr (List.mem_cons_of_mem _ h)
theorem Js:∀(l acc:List Int),acc≠[]\/l≠[]->l.foldl Jq acc≠[]
 | [],acc,h=>by
  rcases h with h | h
  ·exact h
  ·exact absurd rfl h
 | y ::l,acc,h=>Js l _ (.inl λe=>by
   have:=PA acc y
   rw [e] at this;cases this)
theorem KK{n:Nat}(f:Nat->Int)(h:0<n):0<(Cj n f).length:=by
 have:Cj n f≠[]:=Js _ _ (.inr (Ul (JB h)))
 exact List.length_pos_iff.2 this
theorem ZU{n:Nat}{f:Nat->Int}{x:Int}(h:x ∈ Cj n f):∃i,i<n/\f i=x:=by
 rcases JX _ _ h with h | h
 ·cases h
 ·rw [PB] at h
  have:=List.mem_mergeSort.1 h
  obtain ⟨i,a,e⟩:=List.mem_map.1 this;exact ⟨i,List.mem_range.1 a,e⟩
def CE(l:List Int):Int:=l.getD 0 0
def Da(l:List Int):Int:=l.getD ((l.length:Int)-1).toNat 0
theorem Wg{n:Nat}{f:Nat->Int}{A B:Int}(h:∀i,A<=f i/\f i<=B)(hn:0<n):(A<=CE (Cj n f)/\CE (Cj n f)<=B)/\A<=Da (Cj n f)/\Da (Cj n f)<=B:=by
 have a:=KK f hn;have q:∀k,k<(Cj n f).length->A<=(Cj n f).getD k 0/\(Cj n f).getD k 0<=B:=λk b=>by
  obtain ⟨i,_,e⟩:=ZU (CG (d:=0) b);rw [<-e];exact h i
 exact ⟨q 0 a,q _ Y⟩
def Cg(ms:List AI)(p:AZ)(g a b:Int):Nat->Int
 | 0=>0
 | k+1=>Cg ms p g a b k+(if ((ms.getD k AI.z).kind=2/\(ms.getD k AI.z).good=g)/\a<=(ms.getD k AI.z).day/\(ms.getD k AI.z).day<=b then Cn p k else 0)
theorem L9{ms:List AI}{p:AZ}{g a b:Int}(hp:Bp p):∀k:Nat,0<=Cg ms p g a b k/\Cg ms p g a b k<=99*(k:Int)
 | 0=>by unfold Cg;omega
 | k+1=>by
  have:=L9 (ms:=ms) (g:=g) (a:=a) (b:=b) hp k
  have:=G6 hp k
  unfold Cg;split <;> omega
def Cl(gs:List Good)(ms:List AI)(p:AZ)(dy:Int):Nat->Int
 | 0=>0
 | k+1=>Cl gs ms p dy k+(gs.getD k Good.z).cost*(AX ms p (k:Int) dy).1
theorem HI{a b A B:Int}(ha:0<=a/\a<=A)(hb: -B<=b/\b<=B): -(A*B)<=a*b/\a*b<=A*B:=by
 have c:0<=B:=Y
 have e:a*B<=A*B:=Int.mul_le_mul_of_nonneg_right ha.2 c;have f:a*b<=a*B:=Int.mul_le_mul_of_nonneg_left hb.2 ha.1;have d:a*(-B)<=a*b:=Int.mul_le_mul_of_nonneg_left hb.1 ha.1;rw [Int.mul_neg] at d;omega
theorem Kn{gs:List Good}{ms:List AI}{p:AZ}{dy:Int}(hp:Bp p)(hm:ms.length<=6)(hc:∀k,0<=(gs.getD k Good.z).cost/\(gs.getD k Good.z).cost<=999):∀k:Nat,-(692307*(k:Int))<=Cl gs ms p dy k/\Cl gs ms p dy k<=692307*(k:Int)
 | 0=>by unfold Cl;omega
 | k+1=>by
  have:=Kn (dy:=dy) hp hm hc k
  have:=HI (hc k) (IH (g:=(k:Int)) (dy:=dy) hp hm)
  unfold Cl;omega
theorem CA.costs{d m:Int}{gs:List Good}{ms:List AI}{cs:List AP}(b:CA d m gs ms cs):∀k,0<=(gs.getD k Good.z).cost/\(gs.getD k Good.z).cost<=999:=λk=>by
 by_cases h:k<gs.length
 ·exact (b.good' h).1
 ·rw [DN Y];decide
section
variable (d m:Int) (gs:List Good) (ms:List AI) (cs:List AP)
def IW(g a b:Int):Int:=At d m gs ms cs [if (decide (0<=g/\g<=(gs.length:Int)-1)) then (0:Int) else 6,if (decide (1<=a/\a<=d)) then (0:Int) else 1,if (decide (a<=b/\b<=d)) then (0:Int) else 1]
def Yl(g a b:Int):List Int:=Cj (AY d gs ms cs m).length (λ(i:Nat)=>Cg ms ((AY d gs ms cs m).getD ((i:Int)).toNat AZ.zero) g a b ms.length)
def TV(g a b:Int):Int:=if IW d m gs ms cs g a b=0 then CE (Yl d m gs ms cs g a b) else 0
def TW(g a b:Int):Int:=if IW d m gs ms cs g a b=0 then Da (Yl d m gs ms cs g a b) else 0
def HJ(dy:Int):Int:=At d m gs ms cs [if (decide (0<=dy/\dy<=d)) then (0:Int) else 1]
def Ut(dy:Int):List Int:=Cj (AY d gs ms cs m).length (λ(i:Nat)=>Cl gs ms ((AY d gs ms cs m).getD ((i:Int)).toNat AZ.zero) dy gs.length)
def OE(dy:Int):Int:=if HJ d m gs ms cs dy=0 then CE (Ut d m gs ms cs dy) else 0
def OF(dy:Int):Int:=if HJ d m gs ms cs dy=0 then Da (Ut d m gs ms cs dy) else 0
end
def KL(d:Int)(ms:List AI)(ps:List AZ)(g:Int):List Int:=Cj ps.length (λ(i:Nat)=>(AX ms (ps.getD ((i:Int)).toNat AZ.zero) g d).1)
theorem Uu{d:Int}{ms:List AI}{ps:List AZ}{g:Int}(hp:∀k,Bp (ps.getD k AZ.zero))(hm:ms.length<=6)(hn:0<ps.length):(-693<=CE (KL d ms ps g)/\CE (KL d ms ps g)<=693)/\-693<=Da (KL d ms ps g)/\Da (KL d ms ps g)<=693:=
 Wg (λ_=>IH (hp _) hm) hn
section
variable (d m:Int) (gs:List Good) (ms:List AI) (cs:List AP)
def HK(g r:Int):Int:=At d m gs ms cs [if (decide (0<=g/\g<=(gs.length:Int)-1)) then (0:Int) else 6,if (decide (1<=r/\r<=99)) then (0:Int) else 1]
def OG(g r:Int):Int:=if HK d m gs ms cs g r=0 then (CE (KL d ms (AY d gs ms cs m) g)).tdiv r else 0
def OH(g r:Int):Int:=if HK d m gs ms cs g r=0 then (Da (KL d ms (AY d gs ms cs m) g)).tdiv r else 0
end
theorem AV.offKnown{U:Type}{h0 h:V}{v:aU}{t:aV}{n:Nat}{enc:U->Array aU}{xs:List U}{ms:List AI}{ps:List AZ}{r:Nat}(x:AV h0 h v t n enc xs)(m:Al ms ps r h):Ba v r:=λe=>by
 obtain ⟨b,a⟩:=x.cellsAt r e;exact m.neCells a rfl
section
variable (d m:Int) (gs:List Good) (ms:List AI) (cs:List AP)
def Hy(ls:List Int)(r:Int):Int:=At d m gs ms cs [A7 ls (gs.length:Int),if (decide (0<=r/\r<=99)) then (0:Int) else 1]
def GM(ls:List Int)(r:Int)(k:Nat):Int:=(max 0 ((ls.getD k 0)*r-(CE (KL d ms (AY d gs ms cs m) (k:Int))))+(gs.getD k Good.z).pack-1) / ((gs.getD k Good.z).pack)
def FB(ls:List Int)(r:Int):Nat->Int
 | 0=>0
 | k+1=>FB ls r k+(GM d m gs ms cs ls r k)*((gs.getD k Good.z).pack)*((gs.getD k Good.z).cost)
def ZV(ls:List Int)(r:Int):List Int:=if Hy d m gs ms cs ls r=0 then (List.range gs.length).map (GM d m gs ms cs ls r) else []
def OI(ls:List Int)(r:Int):Int:=if Hy d m gs ms cs ls r=0 then FB d m gs ms cs ls r gs.length else 0
end
theorem TX{d m:Int}{gs:List Good}{ms:List AI}{cs:List AP}{ls:List Int}{r:Int}{k:Nat}(hl:0<=ls.getD k 0/\ls.getD k 0<=99)(hr:0<=r/\r<=99)(hp:1<=(gs.getD k Good.z).pack/\(gs.getD k Good.z).pack<=20)
  (hs: -693<=CE (KL d ms (AY d gs ms cs m) (k:Int))/\CE (KL d ms (AY d gs ms cs m) (k:Int))<=693):(0<=GM d m gs ms cs ls r k/\GM d m gs ms cs ls r k<=10600):=by
 have e:=HI (a:=ls.getD k 0) (b:=r) (A:=99) (B:=99) hl Y;unfold GM;have c:0<=max 0 ((ls.getD k 0)*r-(CE (KL d ms (AY d gs ms cs m) (k:Int))))+(gs.getD k Good.z).pack-1:=Y
 refine ⟨Int.ediv_nonneg c Y,Int.le_trans (Int.ediv_le_self _ c) Y⟩
theorem Jt{p a c:Int}(hp:0<=p/\p<=10600)(ha:1<=a/\a<=20)(hc:0<=c/\c<=999):(0<=p*a/\p*a<=212000)/\0<=p*a*c/\p*a*c<=211788000:=by
 have e:=HI (a:=p) (b:=a) (A:=10600) (B:=20) hp Y;have d:0<=p*a:=Int.mul_nonneg hp.1 Y;have f:=HI (a:=p*a) (b:=c) (A:=212000) (B:=999) Y Y;have g:0<=p*a*c:=Int.mul_nonneg d hc.1;omega
theorem Uv{d m:Int}{gs:List Good}{ms:List AI}{cs:List AP}{ls:List Int}{r:Int}{k:Nat}(hp:0<=GM d m gs ms cs ls r k/\GM d m gs ms cs ls r k<=10600)(ha:1<=(gs.getD k Good.z).pack/\(gs.getD k Good.z).pack<=20)(hc:0<=(gs.getD k Good.z).cost/\(gs.getD k Good.z).cost<=999)
  (h:0<=FB d m gs ms cs ls r k/\FB d m gs ms cs ls r k<=211788000*(k:Int)):0<=FB d m gs ms cs ls r (k+1)/\FB d m gs ms cs ls r (k+1)<=211788000*((k+1:Nat):Int):=by
 have:=Jt hp ha hc
 unfold FB;omega
theorem nums_few{l:List Int}{n:Int}(h:¬(l.length:Int)=n):(Value.int .i64 2)=.int .i64 (A7 l n):=by unfold A7;rw [aT h]
theorem nums_any{l:List Int}{n:Int}(h:(l.length:Int)=n):(Value.int .i64 (if (!(l.any (λx=>decide (¬(0<=x/\x<=99))))) then (0:Int) else 1))=.int .i64 (A7 l n):=by
 have e:A7 l n=if l.any (λx=>decide (¬(0<=x/\x<=99))) then 1 else 0:=by unfold A7;rw [aS (λq=>q h)]
 rw [e];cases l.any (λx=>decide (¬(0<=x/\x<=99))) <;> rfl
section
variable {P:Program} {E:F8 P} {O:Nat->aU} {ds:List Deferred} {h:V} {T:(Nat->aU)->List Deferred->V->Prop}
variable {dst:Option Nat} {ty:aV} {pos:String} {af:Array Edge} {gd:Option (Nat×Bool)}
def fieldP(P:Program)(s:aV)(f:Nat)(cs:Array aU):Option aU:=match P.underlying s with
 | some (.struct fields)=>match fields[f]? with
  | some fl=>HQ P fl.type cs fl.offset
  | none=>none
 | _=>none
theorem Rs{t:aV}{x:Operand}{f:Nat}{cs:Array aU}{v:aU}(hx:AL O x=.agg cs)(hp:fieldP P t f cs=some v)(k:T (putS O dst v) ds h):BS E ⟨dst,.field t x f,ty,pos,af,gd⟩ O ds h T:=by
 refine ok_field (v:=v) ?_ k;rw [hx];unfold fieldP at hp;unfold Instr.field;cases a:P.underlying t with
 | none=>rw [a] at hp;cases hp
 | some d=>
  rw [a] at hp;cases d <;> first | (cases hp;done) | skip
  rename_i fields
  refine AG _ _ (Ak a ?_);simp only at hp ⊢;cases b:fields[f]? with
  | none=>rw [b] at hp;cases hp
  | some c=>
   rw [b] at hp;simp only at hp ⊢;exact HR hp ⟨rfl,rfl⟩
theorem Ym{xt yt:aV}{x y:Operand}{a b:Int}(hx:AL O x=.int .i64 a)(hy:AL O y=.int .i64 b)(ha: -9223372036854775807<=a)(ha':a<=9223372036854775807)(hb:0<b)(k:T (putS O dst (.int .i64 (a.tdiv b))) ds h) :
  BS E ⟨dst,.binOp .quo xt x y yt,ty,pos,af,gd⟩ O ds h T:=E8 hx hy (by
 show (if b=0 then _ else (pure (Value.int .i64 (IntKind.i64.wrap (a.tdiv b))):Sem aU))=_;rw [aS Y];have c:(a.tdiv b).natAbs<=a.natAbs:=by rw [Int.natAbs_tdiv];exact Nat.div_le_self _ _
 rw [IntWalk.i64_in _ Y]) k
end
def FG(hB:V)(ms:List AI)(pasts:List AZ)(r:Nat)(h h':V):Prop:=BH (λb=>b=r) h h'/\(Al ms pasts r h->Al ms pasts r h')/\(hB.Le h->hB.Le h')
section
variable {hB h hc h':V} {ms:List AI} {pasts:List AZ} {r:Nat}
theorem FG.refl(h:V):FG hB ms pasts r h h:=⟨BH.refl _ _,id,id⟩
theorem FG.trans(a b c:V)(x:FG hB ms pasts r a b)(y:FG hB ms pasts r b c):FG hB ms pasts r a c:=⟨x.1.trans (λ_ q=>.inl q) y.1,λz=>y.2.1 (x.2.1 z),λz=>y.2.2 (x.2.2 z)⟩
theorem FG.ofRes(m:JZ hB ms pasts r h h'):FG hB ms pasts r h h':=⟨m.2.1,λ_=>m.1,λ_=>m.2.2⟩
theorem CP.rel(y:CP hB ms pasts r h hc)(m:FG hB ms pasts r hc h'):CP hB ms pasts r h h':=⟨m.2.1 y.ok,y.keep.trans (λ_ q=>.inl q) m.1,m.2.2 y.base⟩
theorem CP.callDel(y:CP hB ms pasts r h hc)(l:hB.Le (hc.del r))(m:JZ (hc.del r) ms pasts r hc h'):CP hB ms pasts r h h':=⟨m.1,y.keep.trans (λ_ q=>.inl q) m.2.1,l.trans m.2.2⟩
end
section
variable {P:Program} {E:F8 P} {O:Nat->aU} {ds:List Deferred} {h hB:V} {ms:List AI} {pasts:List AZ} {r:Nat}
theorem Ru{id:Nat}{l:List Oper}{Q:Post}(n:Nat)(cls:List (List Nat))(Φ:List QT)(hm:P.follows .mixedOrders=true)(ok:Ob E.N l n cls=true)(mono:FU (FG hB ms pasts r) Φ)(x:Lp (FG hB ms pasts r) E l n Φ O ds h Q n 0 l cls) :
  Tr E (.region id l.toArray true) O ds h Q:=UP FG.refl FG.trans n cls Φ hm ok mono x
end
theorem EC.leOf{h0 h:V}(k:EC (λb=>h0 b=none) h0 h):h0.Le h:=λb p o a=>k.1 b p o a λ(e:h0 b=none)=>by rw [a] at e;cases e
theorem AV.offTy{U:Type}{h0 h:V}{v:aU}{t T:aV}{n:Nat}{enc:U->Array aU}{xs:List U}(x:AV h0 h v t n enc xs){r:Nat}{p:Bool}{c:Array aU}{f:Nat×Nat}(hr:h r=some (p,.cells c T f))(ne:t≠T):Ba v r:=λe=>by
 obtain ⟨b,a⟩:=x.cellsAt r e;rw [a] at hr;simp only [Option.some.injEq,Prod.mk.injEq,Obj.cells.injEq] at hr;exact ne hr.2.2.1
section
variable {P:Program} {E:F8 P} {O:Nat->aU} {ds:List Deferred} {h:V} {T:(Nat->aU)->List Deferred->V->Prop}
variable {dst:Option Nat} {ty:aV} {pos:String} {af:Array Edge} {gd:Option (Nat×Bool)}
end
section
variable {h h':V} {q r:Nat} {aP:Int->Option Int}
theorem El.keepNum(x:El h q EQ EQ aP)(k:BH (λb=>b=r) h h')(hq:q≠r):El h' q EQ EQ aP:=by
 obtain ⟨d,a,e,y⟩:=x;obtain ⟨o,f,c⟩:=k q _ _ e hq;rcases c with rfl | ⟨c,_⟩
 ·exact ⟨d,a,f,y⟩
 ·cases c
end
section
variable {P:Program} {E:F8 P} {O:Nat->aU} {ds:List Deferred} {h:V} {T:(Nat->aU)->List Deferred->V->Prop}
variable {dst:Option Nat} {ty:aV} {pos:String} {af:Array Edge} {gd:Option (Nat×Bool)}
theorem PI{t kt vt:aV}{x ix:Operand}{r d:Nat}{aP:Int->Option Int}{a:Int}(ht:IQ P t=some (kt,vt))(hx:AL O x=.map (some r))(hk:AL O ix=.int .i64 a)(hm:El h r EQ EQ aP)(hd:Nat.ble (d+1) 10000=true)
  (hc:∀a,WI P (d+1) kt (EQ a)=true) (he:∀a b,Mm P (d+1) kt (EQ a) (EQ b)=some (a==b)) (hz:(P.info? vt).bind (·.zero)=some (.int .i64 0))
  (k:T (putS O dst (.int .i64 ((aP a).getD 0))) ds h):BS E ⟨dst,.lookup t x ix false,ty,pos,af,gd⟩ O ds h T:=by
 refine Mn (ek:=EQ) (ev:=EQ) (a:=a) (z:=.int .i64 0) ht hx hk hm hd (hc _) (λb=>he a b) hz ?_;cases c:aP a <;> (rw [c] at k;exact k)
theorem ZW{t kt vt:aV}{om ok ox:Operand}{r d:Nat}{aP:Int->Option Int}{a n:Int}(ht:IQ P t=some (kt,vt))(hm':AL O om=.map (some r))(hk:AL O ok=.int .i64 a)(hv:AL O ox=.int .i64 n)(hm:El h r EQ EQ aP)(hd:Nat.ble (d+1) 10000=true)
  (hc:∀a,WI P (d+1) kt (EQ a)=true) (he:∀a b,Mm P (d+1) kt (EQ a) (EQ b)=some (a==b)) (hs:∀a,Instr.sameBits 10000 (EQ a) (EQ a)=true)
  (k:∀h',El h' r EQ EQ (λb=>if b=a then some n else aP b)->(∀b,b≠r->h' b=h b)->T (putS O dst undef) ds h'):BS E ⟨dst,.mapUpdate t om ok ox,ty,pos,af,gd⟩ O ds h T:=
 Iv (a:=a) (v:=n) (ek:=EQ) (ev:=EQ) ht hm' hk hv hm hd (hc _) (λb=>he a b) (hs _) k
end
theorem TY(a:Int):Instr.sameBits 10000 (EQ a) (EQ a)=true:=by
 show Instr.sameBits (9999+1) (Value.int .i64 a) (Value.int .i64 a)=true;unfold Instr.sameBits;simp
def Gi(f:Nat->Int):Nat->Int->Option Int
 | 0=>λ_=>none
 | k+1=>λb=>if b=f k then some ((Gi f k (f k)).getD 0+1) else Gi f k b
theorem Ju(f:Nat->Int):∀(k:Nat)(b:Int),0<=(Gi f k b).getD 0/\(Gi f k b).getD 0<=(k:Int)
 | 0,b=>by simp [Gi]
 | k+1,b=>by
  have a:=Ju f k b;have c:=Ju f k (f k);unfold Gi;split
  ·show 0<=(Gi f k (f k)).getD 0+1/\(Gi f k (f k)).getD 0+1<=((k+1:Nat):Int);omega
  ·omega
def Ko(f:Nat->Int):Nat->Int
 | 0=>0
 | k+1=>max (Ko f k) ((Gi f (k+1) (f k)).getD 0)
def EU(w:Nat->Int)(n:Int):Nat->Int×Int
 | 0=>(-1,n)
 | k+1=>if w k<(EU w n k).2 then ((k:Int),w k) else EU w n k
section
variable (d m:Int) (gs:List Good) (ms:List AI) (cs:List AP)
def KM:Int:=At d m gs ms cs []
def Hb(g:Nat):Int:=Ko (λi=>(AX ms ((AY d gs ms cs m).getD ((i:Int)).toNat AZ.zero) (g:Int) d).1) (AY d gs ms cs m).length
def OJ:Int:=if KM d m gs ms cs=0 then (EU (Hb d m gs ms cs) ((AY d gs ms cs m).length:Int) gs.length).1 else 0
def MA:Int:=if KM d m gs ms cs=0 then (EU (Hb d m gs ms cs) ((AY d gs ms cs m).length:Int) gs.length).2 else 0
end
end Go.Ns
namespace Go.Ns
open Go.Conc
open Classical in
noncomputable def V.delS (h:V) (X:Nat->Prop):V:=λb=>if X b then none else h b
section
variable {h h0 h':V} {X:Nat->Prop}
theorem V.delS_in{b:Nat}(x:X b):h.delS X b=none:=aT x
theorem V.delS_ne{b:Nat}(x:¬X b):h.delS X b=h b:=aS x
theorem V.delS_le(h:V)(X:Nat->Prop):(h.delS X).Le h:=λb p o a=>by
 by_cases e:X b
 ·rw [V.delS_in e] at a;cases a
 ·rw [V.delS_ne e] at a;exact ⟨o,a,.inl rfl⟩
theorem V.Le.delS(l:h0.Le h)(hX:∀b,X b->h0 b=none):h0.Le (h.delS X):=λb p o a=>by
 have e:¬X b:=λx=>by rw [hX b x] at a;cases a
 rw [V.delS_ne e];exact l b p o a
theorem AN.delS{b off n:Nat}{vs:Array aU}(x:AN h b off n vs)(e:¬X b):AN (h.delS X) b off n vs:=x.same (V.delS_ne e)
theorem AV.slDelS{U:Type}{v:aU}{t:aV}{n:Nat}{enc:U->Array aU}{xs:List U}(x:AV h0 h v t n enc xs)(f:∀b,back v=some b->¬X b):AD (h.delS X) v n enc xs:=
 AV.sl (h0:=h0) (x.keep λb o a c=>by rw [V.delS_ne (f b a)];exact c)
theorem AV.rebase{U:Type}{h1:V}{v:aU}{t:aV}{n:Nat}{enc:U->Array aU}{xs:List U}(x:AV h0 h v t n enc xs)(f:∀b,back v=some b->h1 b=none):AV h1 h v t n enc xs:=by
 rcases x with x | ⟨b,a,c,rfl,e,d⟩
 ·exact .inl x
 ·exact .inr ⟨b,a,c,rfl,f b rfl,d⟩
end
def mkD(d:Nat):Deferred:={ target:=.collected d,args:=#[] }
def Hc(h0 h:V)(ds:List Deferred):Prop:=∃l:List Nat,ds=l.map mkD/\l.Nodup/\∀d ∈ l,h0 d=none/\h d=some (true,.deferred (some []))
theorem Hc.nil(h0 h:V):Hc h0 h []:=⟨[],rfl,List.nodup_nil,λ_ a=>by cases a⟩
theorem Hc.le{h0 h h':V}{ds:List Deferred}(m:Hc h0 h ds)(l:h.Le h'):Hc h0 h' ds:=by
 obtain ⟨b,e,n,x⟩:=m;exact ⟨b,e,n,λd a=>⟨(x d a).1,l.keep (x d a).2 rfl⟩⟩
theorem Hc.cons{h0 h h':V}{ds:List Deferred}{d:Nat}(m:Hc h0 h ds)(l:h.Le h')(hn:h d=none)(h0n:h0 d=none)(hd:h' d=some (true,.deferred (some []))):Hc h0 h' ({ target:=.collected d,args:=#[] } ::ds):=by
 obtain ⟨a,rfl,n,x⟩:=m;refine ⟨d ::a,rfl,List.nodup_cons.2 ⟨λc=>?_,n⟩,λb hb=>?_⟩
 ·rw [(x d c).2] at hn;cases hn
 ·rcases List.mem_cons.1 hb with rfl | hb
  ·exact ⟨h0n,hd⟩
  ·exact ⟨(x b hb).1,l.keep (x b hb).2 rfl⟩
def SameM(h h':V):Prop:=∀b,h b≠some (true,.deferred (some []))->h' b=h b
theorem AD.sameM{U:Type}{h h':V}{v:aU}{n:Nat}{enc:U->Array aU}{xs:List U}(x:AD h v n enc xs)(s:SameM h h'):AD h' v n enc xs:=by
 obtain ⟨a,d,j,k,l,m⟩:=x;refine ⟨a,d,j,k,l,λi o=>?_⟩;obtain ⟨b,f,r,g⟩:=m i o;refine ⟨b,f,r,g.same (s b λe=>?_)⟩;obtain ⟨p,c,t,z,q,_⟩:=g;rw [e] at q;cases q
theorem PJ{P:Program}{fn:Func}{O:Nat->aU}{R:aU->V->Prop}{h0:V}:∀{ds:List Deferred}{h:V},Hc h0 h ds->h0.Le h->(∀h',SameM h h'->h0.Le h'->Fk P fn O R [] h')->Fk P fn O R ds h:=by
 intro ds h ⟨l,e,n,x⟩ g k;subst e
 induction l generalizing h with
 | nil=>exact k h (λ_ _=>rfl) g
 | cons d l j=>
  have f:=x d (List.mem_cons_self ..);refine ⟨d,rfl,_,f.2,rfl,?_⟩;have i:=List.nodup_cons.1 n;have c:∀b,b≠d->(h.set d true (.deferred none)) b=h b:=λb a=>V.set_ne _ _ _ a;refine j i.2 (λb a=>?_) (g.upd f.1 c) λh' s m=>k h' (λb a=>?_) m
  ·have:=x b (List.mem_cons_of_mem _ a)
   exact ⟨this.1,(c b λe=>i.1 (e▸a)).trans this.2⟩
  ·have e:b≠d:=λe=>a (e▸f.2);rw [s b (by rw [c b e];exact a),c b e]
theorem PK{U:Type}{enc:U->Array aU}{n:Nat}:∀{xs:List U},(∀x ∈ xs,(enc x).size=n)->∀(i:Nat)(z:U),i<xs.length->C7 enc xs=C7 enc (xs.take i)++(enc (xs.getD i z)).toList++C7 enc (xs.drop (i+1))
 | [],_,i,z,h=>by simp at h
 | y ::xs,a,0,z,h=>by simp [C7]
 | y ::xs,a,i+1,z,h=>by
  have:=PK (λx b=>a x (List.mem_cons_of_mem _ b)) i z (by simpa using h)
  show (enc y).toList++C7 enc xs=((enc y).toList++C7 enc (xs.take i))++(enc (xs.getD i z)).toList++C7 enc (xs.drop (i+1));rw [this];simp only [List.append_assoc]
theorem Uw{U:Type}{enc:U->Array aU}:∀{xs:List U}(i:Nat)(x:U),i<xs.length->C7 enc (xs.set i x)=C7 enc (xs.take i)++(enc x).toList++C7 enc (xs.drop (i+1))
 | [],i,x,h=>by simp at h
 | y ::xs,0,x,h=>by simp [C7]
 | y ::xs,i+1,x,h=>by
  have:=Uw (enc:=enc) (xs:=xs) i x (by simpa using h)
  show (enc y).toList++C7 enc (xs.set i x)=((enc y).toList++C7 enc (xs.take i))++(enc x).toList++C7 enc (xs.drop (i+1));rw [this];simp only [List.append_assoc]
theorem AV.put{U:Type}{h0 h h':V}{t:aV}{n cap b i dl:Nat}{enc:U->Array aU}{xs:List U}{c:Array aU}{vs:List aU}{x':U}(z:U)(x:AV h0 h (.slice (some ⟨b,0,none⟩) xs.length cap) t n enc xs)(hb:h b=some (true,.cells c t (0,0)))
  (hi:i<xs.length) (hz:dl+vs.length<=n) (heq:BV (enc (xs.getD i z)) dl vs=enc x') (hb':h' b=some (true,.cells (BV c (i*n+dl) vs) t (0,0))):AV h0 h' (.slice (some ⟨b,0,none⟩) xs.length cap) t n enc (xs.set i x'):=by
 rcases x with ⟨e,_⟩ | ⟨v,j,w,e,f0,f1,f2,f3,f4,f5,f6⟩
 ·cases e
 simp only [Value.slice.injEq,Option.some.injEq,Addr.mk.injEq] at e;obtain ⟨⟨rfl,_⟩,_,rfl⟩:=e;rw [hb] at f1;simp only [Option.some.injEq,Prod.mk.injEq,Obj.cells.injEq,true_and] at f1;obtain ⟨rfl,_⟩:=f1;have k:(enc (xs.getD i z)).size=n:=f6 _ (CG hi);have f:(enc x').size=n:=by rw [<-heq,GS];exact k
 refine .inr ⟨_,_,_,by rw [List.length_set],f0,hb',by rw [GS];exact f2,by rw [List.length_set];exact f3,by rw [List.length_set];exact f4,?_,λy g=>?_⟩
 ·rw [List.length_set];have o:(C7 enc (xs.take i)).length=i*n:=by
   rw [EI (n:=n) (λy g=>f6 y (List.mem_of_mem_take g)),List.length_take];congr 1;omega
  have a:(C7 enc xs).length=xs.length*n:=EI f6;have l:i*n+n<=xs.length*n:=by rw [<-Nat.succ_mul];exact Nat.mul_le_mul_right n hi
  have m:xs.length*n<=c.size:=by rw [f2];exact Nat.mul_le_mul_right n f3
  have p:c.toList=C7 enc xs++c.toList.drop (xs.length*n):=by rw [<-f5,List.take_append_drop]
  have q:(enc x').toList=(enc (xs.getD i z)).toList.take dl++vs++(enc (xs.getD i z)).toList.drop (dl+vs.length):=by rw [<-heq,ES _ _ _ Y]
  have d:(enc (xs.getD i z)).toList.length=n:=by rw [Array.length_toList];exact k
  have D:(C7 enc (xs.take i)).length+n+(C7 enc (xs.drop (i+1))).length=xs.length*n:=by
   rw [<-a];conv=>rhs;rw [PK f6 i z hi]
   rw [List.length_append,List.length_append,d]
  rw [ES _ _ _ Y,Uw i x' hi,q,p,PK f6 i z hi];generalize enc (xs.getD i z)=B at *;generalize C7 enc (xs.take i)=A at *;generalize C7 enc (xs.drop (i+1))=C at *;generalize c.toList.drop (xs.length*n)=R at *;have r:(A++B.toList++C++R).take (i*n+dl)=A++B.toList.take dl:=by
   rw [List.append_assoc,List.append_assoc,<-o,List.take_length_add_append,List.take_append_of_le_length Y]
  have s:(A++B.toList++C++R).drop (i*n+dl+vs.length)=B.toList.drop (dl+vs.length)++C++R:=by
   rw [List.append_assoc,List.append_assoc,show i*n+dl+vs.length=A.length+(dl+vs.length) by omega,List.drop_length_add_append,List.drop_append_of_le_length Y,List.append_assoc]
  rw [r,s];have u:A++B.toList.take dl++vs++(B.toList.drop (dl+vs.length)++C++R)=(A++(B.toList.take dl++vs++B.toList.drop (dl+vs.length))++C)++R:=by simp only [List.append_assoc]
  rw [u,List.take_left' ?_];simp only [List.length_append,List.length_take,List.length_drop,d];omega
 ·rcases List.mem_or_eq_of_mem_set g with h | rfl
  ·exact f6 y h
  ·exact f
theorem AV.opened{U:Type}{h0 h:V}{v:aU}{t:aV}{n k:Nat}{enc:U->Array aU}{xs:List U}(x:AV h0 h v t n enc xs)(hk:k<xs.length):∃b cap c,v=.slice (some ⟨b,0,none⟩) xs.length cap/\h b=some (true,.cells c t (0,0)):=by
 rcases x with ⟨_,rfl⟩ | ⟨b,cap,c,a,_,d,_⟩
 ·simp at hk
 ·exact ⟨b,cap,c,a,d⟩
theorem AV.room{U:Type}{h0 h:V}{t:aV}{n cap b k:Nat}{enc:U->Array aU}{xs:List U}{c:Array aU}(x:AV h0 h (.slice (some ⟨b,0,none⟩) xs.length cap) t n enc xs)(hb:h b=some (true,.cells c t (0,0)))(hk:k<xs.length):k*n+n<=c.size:=by
 rcases x with ⟨e,_⟩ | ⟨d,a,f,e,f0,f1,f2,f3,_⟩
 ·cases e
 simp only [Value.slice.injEq,Option.some.injEq,Addr.mk.injEq] at e;obtain ⟨⟨rfl,_⟩,_,rfl⟩:=e;rw [hb] at f1;simp only [Option.some.injEq,Prod.mk.injEq,Obj.cells.injEq,true_and] at f1;obtain ⟨rfl,_⟩:=f1;rw [f2,<-Nat.succ_mul];exact Nat.mul_le_mul_right n Y
def clearAt(ms:List AI)(i:Nat):List AI:=ms.set i { ms.getD i AI.z with low:=0,high:=0 }
def D4(ms:List AI)(l:List Int):List AI:=l.foldl (λms i=>clearAt ms i.toNat) ms
theorem Ux{ms:List AI}{l:List Int}{k:Nat}(hk:k<l.length):D4 ms (l.take (k+1))=clearAt (D4 ms (l.take k)) (l.getD k 0).toNat:=by
 unfold D4;rw [Ha 0 hk,List.foldl_append];rfl
theorem Hd(ms:List AI)(i:Nat):(clearAt ms i).length=ms.length:=by unfold clearAt;rw [List.length_set]
theorem RD(ms:List AI):∀(l:List Int),(D4 ms l).length=ms.length:=by
 intro l;unfold D4
 induction l generalizing ms with
 | nil=>rfl
 | cons i l a=>show (l.foldl _ (clearAt ms i.toNat)).length=_;rw [a,Hd]
theorem G9(ms:List AI)(i k:Nat):(clearAt ms i).getD k AI.z=ms.getD k AI.z\/(clearAt ms i).getD k AI.z={ ms.getD k AI.z with low:=0,high:=0 }:=by
 unfold clearAt;rw [List.getD_eq_getElem?_getD,List.getElem?_set];split
 ·rename_i e
  subst e;split
  ·exact .inr rfl
  ·rename_i h
   refine .inl ?_;rw [List.getD_eq_getElem?_getD,List.getElem?_eq_none Y]
 ·refine .inl ?_;rw [<-List.getD_eq_getElem?_getD]
theorem ZX{d:Int}{gs:List Good}{ms:List AI}{k:Nat}(h1:0<=(ms.getD k AI.z).kind/\(ms.getD k AI.z).kind<=4)(h2:0<=(ms.getD k AI.z).good/\(ms.getD k AI.z).good<=(gs.length:Int)-1)
  (h3:1<=(ms.getD k AI.z).day/\(ms.getD k AI.z).day<=d) (h4:Fq ms k<=(ms.getD k AI.z).day) (h5:Gy (ms.getD k AI.z).low (ms.getD k AI.z).high):GI d gs ms k=0:=by
 unfold GI;rw [aS (not_not_intro h1),aS (not_not_intro h2),aS (not_not_intro h3),aS Y,aS (not_not_intro h5)]
theorem CA.clearAt{d m:Int}{gs:List Good}{ms:List AI}{cs:List AP}(b:CA d m gs ms cs)(i:Nat):CA d m gs (clearAt ms i) cs:=by
 refine ⟨b.days,b.most,b.glen,b.good,by rw [Hd];exact b.mlen,λk c=>?_,b.clen,b.count⟩;rw [Hd] at c;have a:∀k,((Go.Ns.clearAt ms i).getD k AI.z).day=(ms.getD k AI.z).day:=λk=>by rcases G9 ms i k with e | e <;> rw [e]
 have f:Fq (Go.Ns.clearAt ms i) k=Fq ms k:=by unfold Fq;rw [a]
 obtain ⟨g,h,j,l,n⟩:=b.move' c;refine ZX ?_ ?_ ?_ ?_ ?_
 ·rcases G9 ms i k with e | e <;> rw [e] <;> exact g
 ·rcases G9 ms i k with e | e <;> rw [e] <;> exact h
 ·rw [a];exact j
 ·rw [f,a];exact l
 ·rcases G9 ms i k with e | e <;> rw [e]
  ·exact n
  ·show Gy 0 0;decide
theorem CA.clear{d m:Int}{gs:List Good}{cs:List AP}:∀{l:List Int}{ms:List AI},CA d m gs ms cs->CA d m gs (D4 ms l) cs
 | [],_,b=>b
 | i ::l,_,b=>CA.clear (l:=l) (b.clearAt i.toNat)
def Ft(ms:List AI)(mask:Int)(k:Nat):Bool:=(List.range k).all λi=> !HY mask i || EP ms i
def FH(d:Int)(gs:List Good)(ms:List AI)(cs:List AP)(mask:Nat):Option (List Int):=
 if Ft ms (mask:Int) ms.length=true then
  if AY d gs (D4 ms (BL (mask:Int) ms.length)) cs 0=[] then none else some (BL (mask:Int) ms.length)
 else none
def Dt(d:Int)(gs:List Good)(ms:List AI)(cs:List AP)(k:Nat):List (List Int):=(List.range k).filterMap (FH d gs ms cs)
theorem MB{d:Int}{gs:List Good}{ms:List AI}{cs:List AP}{k:Nat}(h:FH d gs ms cs k=none):Dt d gs ms cs (k+1)=Dt d gs ms cs k:=by
 unfold Dt;rw [List.range_succ,List.filterMap_append];simp [h]
theorem TZ{d:Int}{gs:List Good}{ms:List AI}{cs:List AP}{k:Nat}{l:List Int}(h:FH d gs ms cs k=some l):Dt d gs ms cs (k+1)=Dt d gs ms cs k++[l]:=by
 unfold Dt;rw [List.range_succ,List.filterMap_append];simp [h]
theorem pow_64{n:Nat}(h:n<=6):1<=(2:Int) ^ n/\(2:Int) ^ n<=64:=by
 have:n=0\/n=1\/n=2\/n=3\/n=4\/n=5\/n=6:=Y
 rcases this with rfl | rfl | rfl | rfl | rfl | rfl | rfl <;> decide
theorem ZY(mask:Int)(n q:Nat):q<(BL mask n).length->0<=(BL mask n).getD q 0/\(BL mask n).getD q 0<(n:Int):=λa=>by
 have:=CG (d:=(0:Int)) a
 unfold BL at this ⊢;obtain ⟨i,b,e⟩:=List.mem_map.1 this
 have:=List.mem_range.1 (List.mem_filter.1 b).1
 rw [<-e];omega
theorem RE(ms:List AI)(mask:Int):Ft ms mask 0=true:=rfl
theorem Kp{ms:List AI}{mask:Int}{j:Nat}(h:Ft ms mask j=true)(e:mask.fdiv (2 ^ j)%2=0\/EP ms (j:Int)=true):Ft ms mask (j+1)=true:=by
 unfold Ft at *;rw [List.range_succ,List.all_append,h];rcases e with e | e
 ·have:HY mask j=false:=by unfold HY;rw [decide_eq_false Y]
  simp [this]
 ·simp [e]
theorem Wh{d:Int}{gs:List Good}{ms:List AI}{cs:List AP}{k j:Nat}(hj:j<ms.length)(hb:¬(k:Int).fdiv (2 ^ j)%2=0)(hn:¬((0<=(j:Int)/\(j:Int)<=(ms.length:Int)-1)/\(ms.getD ((j:Int)).toNat AI.z).kind=0)):FH d gs ms cs k=none:=by
 unfold FH;rw [aS];unfold Ft;rw [List.all_eq_true];intro h
 have:=h j (List.mem_range.2 hj)
 have a:HY (k:Int) j=true:=by unfold HY;rw [decide_eq_true];omega
 have b:EP ms (j:Int)=false:=by unfold EP;exact decide_eq_false hn
 rw [a,b] at this;cases this
theorem blame_no{d:Int}{gs:List Good}{ms:List AI}{cs:List AP}{k j q:Nat}(hj:j<=ms.length)(hj':¬(j:Int)<(ms.length:Int))(ha:Ft ms (k:Int) j=true)(hq:¬(q:Int)<((BL (k:Int) j).length:Int))(h:AY d gs (D4 ms ((BL (k:Int) j).take q)) cs 0=[]):FH d gs ms cs k=none:=by
 obtain rfl:j=ms.length:=Y
 rw [List.take_of_length_le Y] at h;unfold FH;rw [aT ha,aT h]
theorem ZZ{d:Int}{gs:List Good}{ms:List AI}{cs:List AP}{k j q:Nat}(hj:j<=ms.length)(hj':¬(j:Int)<(ms.length:Int))(ha:Ft ms (k:Int) j=true)(hq:¬(q:Int)<((BL (k:Int) j).length:Int))(h:AY d gs (D4 ms ((BL (k:Int) j).take q)) cs 0≠[]):FH d gs ms cs k=some (BL (k:Int) j):=by
 obtain rfl:j=ms.length:=Y
 rw [List.take_of_length_le Y] at h;unfold FH;rw [aT ha,aS h]
theorem PL{fl:List Sl}{v:aU}{xs:List Int}{l:List (List Int)}(h:CH fl=l):CH (fl++[(v,xs)])=l++[xs]:=by unfold CH at *;rw [List.map_append,h];rfl
theorem B9.drop{h:V}{l:List Sl}(a:B9 h l)(n:Nat):B9 h (l.drop n):=λk=>by
 have:=a (n+k)
 rw [List.getD_eq_getElem?_getD] at this ⊢;rw [List.getElem?_drop];exact this
section
variable (d m:Int) (gs:List Good) (ms:List AI) (cs:List AP)
def Ec:Int:=if Ah d m gs ms cs=0 then (if (Dt d gs ms cs (2 ^ ms.length)).length=0 then 9 else 0) else Ah d m gs ms cs
def He:List Int:=if Ec d m gs ms cs=0 then JW ((Dt d gs ms cs (2 ^ ms.length)).getD 0 []) ((Dt d gs ms cs (2 ^ ms.length)).drop 1) else []
end
section
variable {d m:Int} {gs:List Good} {ms:List AI} {cs:List AP} {fl:List Sl} {k:Nat}
theorem Kq(h:¬Ah d m gs ms cs=0):Ec d m gs ms cs=Ah d m gs ms cs:=by unfold Ec;rw [aS h]
theorem MC(h:Ah d m gs ms cs=0):Ec d m gs ms cs=if (Dt d gs ms cs (2 ^ ms.length)).length=0 then 9 else 0:=by unfold Ec;rw [aT h]
theorem Ta(n:Nat):((2 ^ n:Nat):Int)=(2:Int) ^ n:=by induction n with
 | zero=>rfl
 | succ n a=>rw [Nat.pow_succ,Int.pow_succ,<-a];rfl
theorem Mw(hk:(k:Int)<=(2:Int) ^ ((ms.length:Int)).toNat)(hk':¬(k:Int)<(2:Int) ^ ((ms.length:Int)).toNat):k=2 ^ ms.length:=by
 have:=Ta ms.length
 rw [Int.toNat_natCast] at hk hk';omega
theorem C8(l:List Sl):(CH l).length=l.length:=by unfold CH;simp
theorem Wi(h:¬Ah d m gs ms cs=0):(.tuple #[.slice none 0 0,.int .i64 (Ah d m gs ms cs)]:aU)=.tuple #[.slice none 0 0,.int .i64 (Ec d m gs ms cs)]:=by rw [Kq h]
theorem Jv(hfl:CH fl=Dt d gs ms cs k)(hk:(k:Int)<=(2:Int) ^ ((ms.length:Int)).toNat)(hk':¬(k:Int)<(2:Int) ^ ((ms.length:Int)).toNat)(hb:¬¬Ah d m gs ms cs=0)(h0:(fl.length:Int)=0):Ec d m gs ms cs=9:=by
 obtain rfl:=Mw hk hk';rw [MC (Decidable.not_not.1 hb),<-hfl,C8,aT Y]
theorem Jw(hfl:CH fl=Dt d gs ms cs k)(hk:(k:Int)<=(2:Int) ^ ((ms.length:Int)).toNat)(hk':¬(k:Int)<(2:Int) ^ ((ms.length:Int)).toNat)(hb:¬¬Ah d m gs ms cs=0)(h0:¬(fl.length:Int)=0):Ec d m gs ms cs=0:=by
 obtain rfl:=Mw hk hk';rw [MC (Decidable.not_not.1 hb),<-hfl,C8,aS Y]
theorem Wj(h:¬Ah d m gs ms cs=0):He d m gs ms cs=[]:=by unfold He;rw [Kq h,aS h]
theorem Uy(hfl:CH fl=Dt d gs ms cs k)(hk:(k:Int)<=(2:Int) ^ ((ms.length:Int)).toNat)(hk':¬(k:Int)<(2:Int) ^ ((ms.length:Int)).toNat)(hb:¬¬Ah d m gs ms cs=0)(h0:(fl.length:Int)=0):He d m gs ms cs=[]:=by
 unfold He;rw [Jv hfl hk hk' hb h0,aS aC]
theorem Za(hfl:CH fl=Dt d gs ms cs k)(hk:(k:Int)<=(2:Int) ^ ((ms.length:Int)).toNat)(hk':¬(k:Int)<(2:Int) ^ ((ms.length:Int)).toNat)(hb:¬¬Ah d m gs ms cs=0)(h0:¬(fl.length:Int)=0):He d m gs ms cs=JW (fl.getD 0 Sl.z).2 (CH (fl.drop 1)):=by
 have e:=Mw hk hk';unfold He;rw [Jw hfl hk hk' hb h0,aT rfl];subst e;rw [<-hfl,FV Y];congr 1;unfold CH;rw [List.map_drop]
end
theorem fl_len{d:Int}{gs:List Good}{ms:List AI}{cs:List AP}{fl:List Sl}{k:Nat}(h:CH fl=Dt d gs ms cs k):fl.length<=k:=by
 rw [<-C8,h];unfold Dt
 have:=List.length_filterMap_le (FH d gs ms cs) (List.range k)
 rw [List.length_range] at this;exact this
theorem Uz{v:aU}(h:v.cells=#[v]):Instr.fill (λi=>some (i*1,1)) ((Array.range (1*1)).map (#[Value.slice none 0 0][·% #[Value.slice none 0 0].size]!)) [(0,v)]=some #[v]:=by
 have e:((Array.range (1*1)).map (#[Value.slice none 0 0][·% #[Value.slice none 0 0].size]!))=#[Value.slice none 0 0]:=aB
 rw [e];simp [Instr.fill,h]
def JFnd{U:Type}(hB:V)(r:Nat)(T t:aV)(wf:aU)(fl:List Sl)(pre:List U)(aM:Nat->Prop)(h:V):Prop:=
 pre=[]/\h r=some (true,.cells #[wf] T (0,0))/\AV hB h wf t 1 O4 fl/\Ba wf r/\hB r=none/\∀b,aM b↔b=r\/back wf=some b
def SFnd{U:Type}(hB:V)(r:Nat)(T t:aV)(fl:List Sl)(cd:Code)(all:List U)(c:Code)(h:V):Prop:=
 c=cd/\(∃w,h r=some (true,.cells #[w] T (0,0))/\AV hB h w t 1 O4 fl/\Ba w r)/\all≠[]
theorem Rv{U:Type}(hB:V)(r:Nat)(T t:aV)(wf:aU)(fl:List Sl):F9 hB (JFnd (U:=U) hB r T t wf fl):=by
 refine ⟨?_,?_⟩
 ·rintro d l h b ⟨_,f,g,j,k,a⟩ i;rcases (a b).1 i with rfl | h5
  ·exact ⟨_,_,f,rfl⟩
  ·obtain ⟨c,m⟩:=g.cellsAt b h5;exact ⟨_,_,m,rfl⟩
 ·rintro d l h p ⟨e,f,g,j,k,a⟩ same q;exact ⟨e,by rw [same r ((a r).2 (.inl rfl))];exact f,g.keep λb o i n=>by rw [same b ((a b).2 (.inr i))];exact n,j,k,a⟩
theorem Wl{U:Type}{hK h:V}{r:Nat}{T t:aV}{wf:aU}{fl:List Sl}(x:h r=some (true,.cells #[wf] T (0,0)))(o:AV hK h wf t 1 O4 fl)(f:Ba wf r) :
  JFnd (U:=U) (h.delS λb=>b=r\/back wf=some b) r T t wf fl [] (λb=>b=r\/back wf=some b) h:=
 ⟨rfl,x,o.rebase λ_ q=>V.delS_in (.inr q),f,V.delS_in (.inl rfl),λ_=>Iff.rfl⟩
theorem U0{U:Type}{hB:V}{r:Nat}{T t:aV}{fl:List Sl}{cd:Code}{all:List U}:∀c (h h':V) l lo,SFnd hB r T t fl cd all c h->h l=some (true,.loop lo)->(∀b,b≠l->h' b=h b)->SFnd hB r T t fl cd all c h':=by
 rintro c h h' l lo ⟨j,⟨w,f,g,k⟩,m⟩ a i;refine ⟨j,⟨w,(i _ λe=>by subst e;rw [f] at a;cases a).trans f,g.keep λb o n d=>?_,k⟩,m⟩;obtain ⟨c,p⟩:=g.cellsAt b n;exact (i b λe=>by subst e;rw [p] at a;cases a).trans d
end Go.Ns
